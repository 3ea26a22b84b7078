-- Written by a program of this session (wip/hook.py), which runs the kit's printer; Lean checks it.
import Derived.Test.YtihgpkohglcijaaPx0
import Derived.Test.YtihgpkohglcijaaPx2
import Derived.Test.YtihgpkohglcijaaPx3
import Derived.Test.YtihgpkohglcijaaPx4
namespace Go.Proofs.Ytihgpkohglcijaa.P
open Go.RowKit Go.Proofs.YtihgpkohglcijaaW.PrintWords Go.Proofs.YtihgpkohglcijaaW.PrintLast Go.Proofs.YtihgpkohglcijaaW.PrintMore
attribute [local go_sem] max2_int min2_int max_two min_two max_three min_three max_four min_four   -- for this text's walks alone
set_option linter.unusedVariables false
set_option linter.unusedSimpArgs false

/-! ### spec_l20Things: function 79 -/
def spec_l20Things.f (k : Nat) (s0_0 : List Int) (s0_1 : Int) (a1 : Int) : Option (Int × Int) := (spec_l20Rd_odd.f k s0_0 s0_1 a1).bind fun bt336 => (if bt336.1 = true then ((some (([0, 4, (-1)] : List Int) : List Int)).bind fun y338 => ((spec_l20Rd_pick.f k s0_0 bt336.2 3).bind fun bt341 => (if 0 ≤ bt341.1 then (if bt341.1 < (y338.length : Int) then (some (rd y338 bt341.1, bt341.2)) else (none)) else (none)))) else ((some (([1, 2, 2, 3, 3] : List Int) : List Int)).bind fun y344 => ((spec_l20Rd_pick.f k s0_0 bt336.2 5).bind fun bt347 => (if 0 ≤ bt347.1 then (if bt347.1 < (y344.length : Int) then (some (rd y344 bt347.1, bt347.2)) else (none)) else (none)))))
theorem spec_l20Things.mono : ∀ a0 a1 a2 k, LeO (spec_l20Things.f k a0 a1 a2) (spec_l20Things.f (k + 1) a0 a1 a2) := by
 intro a0 a1 a2 k
 unfold spec_l20Things.f
 repeat' first
   | (with_reducible exact spec_l20Rd_odd.mono _ _ _ _)
   | (with_reducible exact spec_l20Rd_pick.mono _ _ _ _)
   | (with_reducible exact LeO.refl _)
   | (with_reducible exact LeO.none _)
   | (with_reducible refine LeO.ite ?_ ?_)
   | (with_reducible refine LeO.bind ?_ (fun _ => ?_))
   | refine LeO.ite ?_ ?_
   | refine LeO.bind ?_ (fun _ => ?_)
set_option maxHeartbeats 8000000 in
set_option maxRecDepth 100000 in
theorem spec_l20Things.calls (k : Nat) (g : Nat) (s0_0 : List Int) (s0_1 : Int) (a1 : Int) (r1 : Int) (r2 : Int) (w0 w : World) (hI : Iz w0 w g s0_0 s0_1) (hB : Below w0.heap.size w0 w) (h : spec_l20Things.f k s0_0 s0_1 a1 = some (r1, r2)) :
  Calls Try.prog 79 #[.pointer (some ⟨g, 0, none⟩), .int .i64 a1] w fun e w' => e = .returned (.int .i64 r1) ∧ Iz w0 w' g s0_0 r2 ∧ Below w0.heap.size w0 w' ∧ Kbt w w' g none := by
 have HI0 := Asd.mk hI
 have HK := Asd.mk (Kbt.refl w g none)
 have HL := Asd.mk hB.size
 clear hI
 have HW0 := Asd.mk hB.size
 have HB := Asd.mk hB
 clear hB
 have H : ((spec_l20Rd_odd.f k s0_0 s0_1 a1).bind fun bt336 => (if bt336.1 = true then ((some (([0, 4, (-1)] : List Int) : List Int)).bind fun y338 => ((spec_l20Rd_pick.f k s0_0 bt336.2 3).bind fun bt341 => (if 0 ≤ bt341.1 then (if bt341.1 < (y338.length : Int) then (some (rd y338 bt341.1, bt341.2)) else (none)) else (none)))) else ((some (([1, 2, 2, 3, 3] : List Int) : List Int)).bind fun y344 => ((spec_l20Rd_pick.f k s0_0 bt336.2 5).bind fun bt347 => (if 0 ≤ bt347.1 then (if bt347.1 < (y344.length : Int) then (some (rd y344 bt347.1, bt347.2)) else (none)) else (none)))))) = some (r1, r2) := h
 clear h
 replace H := Option.bind_eq_some_iff.mp H
 obtain ⟨⟨t336, t337⟩, A30, H⟩ := H
 try dsimp only at H
 have A3 := Asd.mk A30
 clear A30
 by_cases c4 : t336 = true
 ·subst c4
  rw [if_pos rfl] at H
  obtain ⟨y338, hy338⟩ : ∃ y_ : List Int, y_ = (([0, 4, (-1)] : List Int)) := ⟨_, rfl⟩
  replace H : ((spec_l20Rd_pick.f k s0_0 t337 3).bind fun bt341 => (if 0 ≤ bt341.1 then (if bt341.1 < (y338.length : Int) then (some (rd y338 bt341.1, bt341.2)) else (none)) else (none))) = some (r1, r2) := by first | (rw [hy338]; with_reducible exact H) | (have H2_ := (Option.bind_some _ _).symm.trans H; rw [hy338]; with_reducible exact H2_) | (have H2_ := (Option.bind_some _ _).symm.trans H; with_reducible exact H2_) | with_reducible exact H | (rw [hy338]; exact H) | exact H
  have Ny338 := Asd.mk hy338
  clear hy338
  replace H := Option.bind_eq_some_iff.mp H
  obtain ⟨⟨t341, t342⟩, A50, H⟩ := H
  try dsimp only at H
  have A5 := Asd.mk A50
  clear A50
  by_cases c6 : 0 ≤ t341; rotate_left; (rw [if_neg c6] at H; exact absurd H (by simp))
  rw [if_pos c6] at H
  have c6b0 : decide (0 ≤ t341) = true := decide_eq_true c6
  clear c6
  by_cases c7 : t341 < (y338.length : Int); rotate_left; (rw [if_neg c7] at H; exact absurd H (by simp))
  rw [if_pos c7] at H
  have c7b0 : decide (t341 < (y338.length : Int)) = true := decide_eq_true c7
  clear c7
  simp only [Option.some.injEq, Prod.mk.injEq] at H
  obtain ⟨rfl, rfl⟩ := H
  go_enter Try.func79, Try.ntmps79
  go_wp2_with (first | ((with_reducible refine gate_callee (f := 81) rfl ?_); refine gsM (some 7) rfl rfl Try.func81 (by kernel_rfl) rfl #[.pointer (some ⟨g, 0, none⟩), .int .i64 a1] rfl ?_; (with_reducible refine (spec_l20Rd_odd.calls k g s0_0 s0_1 a1 true t337 w0 _ ?side1 ?side2 A3.out).mono ?_); (case side1 => repeat (with_reducible first | exact HI0.out | refine Iz.below ?_ StB.b | apply Iz.set_1)); (case side2 => repeat (with_reducible first | exact HB.out | apply bwX | refine bwS ?_ (Iz.ge HI0.out))); rintro e w8 ⟨rfl, hi, hb, hk⟩; refine ⟨_, rfl, ?_⟩; have n0_ := Asd.mk (Kbt.trans (by repeat (with_reducible first | exact HK.out | apply Kbt.set_ | apply kpX)) hk (.inl rfl)); have n1_ := Asd.mk (hb); have n2_ := Asd.mk (hi); clear HK; clear HB; clear HI0; have HK := n0_; have HB := n1_; have HI0 := n2_; clear n0_ n1_ n2_; (try clear hb); (try clear hb2); (try clear hk); (try clear hi)) | ((with_reducible refine gate_dst (N := 8) rfl ?_); refine Kd.R_lit (Kd.int .i64) _ 3 ?hg (N := 8) ?hd (xs := ([0, 4, (-1)] : List Int)) (inner := [.int .i64 0, .int .i64 4, .int .i64 (-1)]) (ok := fun _ => True) (okp := fun _ => True) ?hr ?hp (fun _ hk => hk) trivial (Below.refl _ _) (Nat.le_refl _) (by simp) ?_; (case hd => rfl); (case hg => rfl); (case hr => first | (go_simp; done) | (go_simp; rfl)); (case hp => exact (Reps.one (show Kd.M (Kd.int .i64) _ _ _ 0 [.int .i64 0] from rfl) (Reps.one (show Kd.M (Kd.int .i64) _ _ _ 4 [.int .i64 4] from rfl) (Reps.one (show Kd.M (Kd.int .i64) _ _ _ (-1) [.int .i64 (-1)] from rfl) (Reps.none _ _))))); intro v339 w9 ho10 hb hg_ hnew_; clear hg_ hnew_; (first | rw [← Ny338.out] at ho10 | (simp only [Int.reduceToNat] at ho10; rw [← Ny338.out] at ho10)); have n0_ := Asd.mk (Kd.R_lower ho10 (kpZ (w := w) (g := g) (row := none) (by repeat (with_reducible first | exact HK.out | apply Kbt.set_ | apply kpX)))); have n1_ := Asd.mk (Iz.below (by repeat (with_reducible first | exact HI0.out | refine Iz.below ?_ StB.b | apply Iz.set_1)) hb); have n2_ := Asd.mk (Kbt.trans (by repeat (with_reducible first | exact HK.out | apply Kbt.set_ | apply kpX)) (Kbt.of_below hb g none) (.inl rfl)); have n3_ := Asd.mk (bwP (by repeat (with_reducible first | exact HB.out | apply bwX | refine bwS ?_ (Iz.ge HI0.out))) hb); clear HI0; clear HK; clear HB; have HO340 := n0_; have HI0 := n1_; have HK := n2_; have HB := n3_; clear n0_ n1_ n2_ n3_; clear hb ho10) | ((with_reducible refine gate_callee (f := 82) rfl ?_); refine gsM (some 10) rfl rfl Try.func82 (by kernel_rfl) rfl #[.pointer (some ⟨g, 0, none⟩), .int .i64 3] rfl ?_; (with_reducible refine (spec_l20Rd_pick.calls k g s0_0 t337 3 t341 t342 w0 _ ?side1 ?side2 A5.out).mono ?_); (case side1 => repeat (with_reducible first | exact HI0.out | refine Iz.below ?_ StB.b | apply Iz.set_1)); (case side2 => repeat (with_reducible first | exact HB.out | apply bwX | refine bwS ?_ (Iz.ge HI0.out))); rintro e w11 ⟨rfl, hi, hb, hk⟩; refine ⟨_, rfl, ?_⟩; have n0_ := Asd.mk (Kd.R_mono (Kd.R_keep (Iz.apart (show Iz w0 _ g s0_0 t337 from by repeat (with_reducible first | exact HI0.out | refine Iz.below ?_ StB.b | apply Iz.set_1)) (by (repeat apply Kd.RS); exact HO340.out) (by decide)) hk (fun _ h => h.2)) (fun _ h => h.1)); have n1_ := Asd.mk (Kbt.trans (by repeat (with_reducible first | exact HK.out | apply Kbt.set_ | apply kpX)) hk (.inl rfl)); have n2_ := Asd.mk (hb); have n3_ := Asd.mk (hi); clear HO340; clear HK; clear HB; clear HI0; have HO340 := n0_; have HK := n1_; have HB := n2_; have HI0 := n3_; clear n0_ n1_ n2_ n3_; (try clear hb); (try clear hb2); (try clear hk); (try clear hi); obtain ⟨Ao12, co12, eo12⟩ := Kd.R_slice HO340.out; subst eo12; have p343 : 0 ≤ (t341 : Int) := odt; have q343 : t341 < (y338.length : Int) := odt; obtain ⟨ad343, e343, hx343_0⟩ := Kd.at_int (Kd.R_reads' HO340.out).2.2 t341 p343 q343; cases e343; replace p343 := eq_true p343; replace q343 := eq_true q343))
  go_ret
  exact ⟨by first | rfl | (simp [*, errW_none, errW_some] <;> rfl), by repeat (with_reducible first | exact HI0.out | refine Iz.below ?_ StB.b | apply Iz.set_1), by repeat (with_reducible first | exact HB.out | apply bwX | refine bwS ?_ (Iz.ge HI0.out)), by repeat (with_reducible first | exact HK.out | apply Kbt.set_ | apply kpX)⟩
 ·replace c4 := Bool.eq_false_iff.mpr c4
  subst c4
  rw [if_neg (show ¬ (false = true) by decide)] at H
  obtain ⟨y344, hy344⟩ : ∃ y_ : List Int, y_ = (([1, 2, 2, 3, 3] : List Int)) := ⟨_, rfl⟩
  replace H : ((spec_l20Rd_pick.f k s0_0 t337 5).bind fun bt347 => (if 0 ≤ bt347.1 then (if bt347.1 < (y344.length : Int) then (some (rd y344 bt347.1, bt347.2)) else (none)) else (none))) = some (r1, r2) := by first | (rw [hy344]; with_reducible exact H) | (have H2_ := (Option.bind_some _ _).symm.trans H; rw [hy344]; with_reducible exact H2_) | (have H2_ := (Option.bind_some _ _).symm.trans H; with_reducible exact H2_) | with_reducible exact H | (rw [hy344]; exact H) | exact H
  have Ny344 := Asd.mk hy344
  clear hy344
  replace H := Option.bind_eq_some_iff.mp H
  obtain ⟨⟨t347, t348⟩, A130, H⟩ := H
  try dsimp only at H
  have A13 := Asd.mk A130
  clear A130
  by_cases c14 : 0 ≤ t347; rotate_left; (rw [if_neg c14] at H; exact absurd H (by simp))
  rw [if_pos c14] at H
  have c14b0 : decide (0 ≤ t347) = true := decide_eq_true c14
  clear c14
  by_cases c15 : t347 < (y344.length : Int); rotate_left; (rw [if_neg c15] at H; exact absurd H (by simp))
  rw [if_pos c15] at H
  have c15b0 : decide (t347 < (y344.length : Int)) = true := decide_eq_true c15
  clear c15
  simp only [Option.some.injEq, Prod.mk.injEq] at H
  obtain ⟨rfl, rfl⟩ := H
  go_enter Try.func79, Try.ntmps79
  go_wp2_with (first | ((with_reducible refine gate_callee (f := 81) rfl ?_); refine gsM (some 7) rfl rfl Try.func81 (by kernel_rfl) rfl #[.pointer (some ⟨g, 0, none⟩), .int .i64 a1] rfl ?_; (with_reducible refine (spec_l20Rd_odd.calls k g s0_0 s0_1 a1 false t337 w0 _ ?side1 ?side2 A3.out).mono ?_); (case side1 => repeat (with_reducible first | exact HI0.out | refine Iz.below ?_ StB.b | apply Iz.set_1)); (case side2 => repeat (with_reducible first | exact HB.out | apply bwX | refine bwS ?_ (Iz.ge HI0.out))); rintro e w16 ⟨rfl, hi, hb, hk⟩; refine ⟨_, rfl, ?_⟩; have n0_ := Asd.mk (Kbt.trans (by repeat (with_reducible first | exact HK.out | apply Kbt.set_ | apply kpX)) hk (.inl rfl)); have n1_ := Asd.mk (hb); have n2_ := Asd.mk (hi); clear HK; clear HB; clear HI0; have HK := n0_; have HB := n1_; have HI0 := n2_; clear n0_ n1_ n2_; (try clear hb); (try clear hb2); (try clear hk); (try clear hi)) | ((with_reducible refine gate_dst (N := 13) rfl ?_); refine Kd.R_lit (Kd.int .i64) _ 3 ?hg (N := 13) ?hd (xs := ([1, 2, 2, 3, 3] : List Int)) (inner := [.int .i64 1, .int .i64 2, .int .i64 2, .int .i64 3, .int .i64 3]) (ok := fun _ => True) (okp := fun _ => True) ?hr ?hp (fun _ hk => hk) trivial (Below.refl _ _) (Nat.le_refl _) (by simp) ?_; (case hd => rfl); (case hg => rfl); (case hr => first | (go_simp; done) | (go_simp; rfl)); (case hp => exact (Reps.one (show Kd.M (Kd.int .i64) _ _ _ 1 [.int .i64 1] from rfl) (Reps.one (show Kd.M (Kd.int .i64) _ _ _ 2 [.int .i64 2] from rfl) (Reps.one (show Kd.M (Kd.int .i64) _ _ _ 2 [.int .i64 2] from rfl) (Reps.one (show Kd.M (Kd.int .i64) _ _ _ 3 [.int .i64 3] from rfl) (Reps.one (show Kd.M (Kd.int .i64) _ _ _ 3 [.int .i64 3] from rfl) (Reps.none _ _))))))); intro v345 w17 ho18 hb hg_ hnew_; clear hg_ hnew_; (first | rw [← Ny344.out] at ho18 | (simp only [Int.reduceToNat] at ho18; rw [← Ny344.out] at ho18)); have n0_ := Asd.mk (Kd.R_lower ho18 (kpZ (w := w) (g := g) (row := none) (by repeat (with_reducible first | exact HK.out | apply Kbt.set_ | apply kpX)))); have n1_ := Asd.mk (Iz.below (by repeat (with_reducible first | exact HI0.out | refine Iz.below ?_ StB.b | apply Iz.set_1)) hb); have n2_ := Asd.mk (Kbt.trans (by repeat (with_reducible first | exact HK.out | apply Kbt.set_ | apply kpX)) (Kbt.of_below hb g none) (.inl rfl)); have n3_ := Asd.mk (bwP (by repeat (with_reducible first | exact HB.out | apply bwX | refine bwS ?_ (Iz.ge HI0.out))) hb); clear HI0; clear HK; clear HB; have HO346 := n0_; have HI0 := n1_; have HK := n2_; have HB := n3_; clear n0_ n1_ n2_ n3_; clear hb ho18) | ((with_reducible refine gate_callee (f := 82) rfl ?_); refine gsM (some 15) rfl rfl Try.func82 (by kernel_rfl) rfl #[.pointer (some ⟨g, 0, none⟩), .int .i64 5] rfl ?_; (with_reducible refine (spec_l20Rd_pick.calls k g s0_0 t337 5 t347 t348 w0 _ ?side1 ?side2 A13.out).mono ?_); (case side1 => repeat (with_reducible first | exact HI0.out | refine Iz.below ?_ StB.b | apply Iz.set_1)); (case side2 => repeat (with_reducible first | exact HB.out | apply bwX | refine bwS ?_ (Iz.ge HI0.out))); rintro e w19 ⟨rfl, hi, hb, hk⟩; refine ⟨_, rfl, ?_⟩; have n0_ := Asd.mk (Kd.R_mono (Kd.R_keep (Iz.apart (show Iz w0 _ g s0_0 t337 from by repeat (with_reducible first | exact HI0.out | refine Iz.below ?_ StB.b | apply Iz.set_1)) (by (repeat apply Kd.RS); exact HO346.out) (by decide)) hk (fun _ h => h.2)) (fun _ h => h.1)); have n1_ := Asd.mk (Kbt.trans (by repeat (with_reducible first | exact HK.out | apply Kbt.set_ | apply kpX)) hk (.inl rfl)); have n2_ := Asd.mk (hb); have n3_ := Asd.mk (hi); clear HO346; clear HK; clear HB; clear HI0; have HO346 := n0_; have HK := n1_; have HB := n2_; have HI0 := n3_; clear n0_ n1_ n2_ n3_; (try clear hb); (try clear hb2); (try clear hk); (try clear hi); obtain ⟨Ao20, co20, eo20⟩ := Kd.R_slice HO346.out; subst eo20; have p349 : 0 ≤ (t347 : Int) := odt; have q349 : t347 < (y344.length : Int) := odt; obtain ⟨ad349, e349, hx349_0⟩ := Kd.at_int (Kd.R_reads' HO346.out).2.2 t347 p349 q349; cases e349; replace p349 := eq_true p349; replace q349 := eq_true q349))
  go_ret
  exact ⟨by first | rfl | (simp [*, errW_none, errW_some] <;> rfl), by repeat (with_reducible first | exact HI0.out | refine Iz.below ?_ StB.b | apply Iz.set_1), by repeat (with_reducible first | exact HB.out | apply bwX | refine bwS ?_ (Iz.ge HI0.out)), by repeat (with_reducible first | exact HK.out | apply Kbt.set_ | apply kpX)⟩

/-! ### spec_WorldsOf: function 131 -/
def spec_WorldsOf.f (a0 : Int) : Option (Int) := (spec_l1In.f a0 1 3).bind fun t350 => (if t350 = true then (if 0 ≤ a0 then (some (shl .i64 1 a0)) else (none)) else (some (-1)))
set_option maxHeartbeats 8000000 in
set_option maxRecDepth 100000 in
theorem spec_WorldsOf.calls (a0 : Int) (r : Int) (w : World) (h : spec_WorldsOf.f a0 = some r) :
  Calls Try.prog 131 #[.int .i64 a0] w fun e w' => e = .returned (.int .i64 r) ∧ Drawn0 w w' := by
 have H : ((spec_l1In.f a0 1 3).bind fun t350 => (if t350 = true then (if 0 ≤ a0 then (some (shl .i64 1 a0)) else (none)) else (some (-1)))) = some r := h
 clear h
 replace H := Option.bind_eq_some_iff.mp H
 obtain ⟨t350, A20, H⟩ := H
 try dsimp only at H
 have A2 := Asd.mk A20
 clear A20
 by_cases c3 : t350 = true
 ·subst c3
  rw [if_pos rfl] at H
  by_cases c4 : 0 ≤ a0; rotate_left; (rw [if_neg c4] at H; exact absurd H (by simp))
  rw [if_pos c4] at H
  have c4b0 := eq_true c4
  have c4b1 : decide (0 ≤ a0) = true := decide_eq_true c4
  clear c4
  obtain ⟨ji5, hji5⟩ : ∃ j_ : Int, (shl .i64 1 a0) = j_ := ⟨_, rfl⟩
  replace H : (some ji5) = some r := by first | (rw [hji5] at H; exact H) | (simp only [hji5] at H ⊢; exact H)
  (try rw [hji5] at A2)
  have hji5_ : (IntKind.i64.wrap (1 * 2 ^ min a0.toNat 64)) = ji5 := hji5
  have hji5z : a0 ≤ 64 → (IntKind.i64.wrap (1 * 2 ^ a0.toNat)) = ji5 := shl_small hji5
  have hji5u : (IntKind.i64.wrap (2 ^ min a0.toNat 64)) = ji5 := by have h_ := hji5_; rw [Int.one_mul] at h_; exact h_
  have hji5v : a0 ≤ 64 → (IntKind.i64.wrap (2 ^ a0.toNat)) = ji5 := fun hle_ => by have h_ := hji5z hle_; rw [Int.one_mul] at h_; exact h_
  have hji5y : (wrap64 (1 * 2 ^ min a0.toNat 64)) = ji5 := (i64_w _).symm.trans hji5_
  have hji5x : a0 ≤ 64 → (wrap64 (1 * 2 ^ a0.toNat)) = ji5 := fun h_ => (i64_w _).symm.trans (hji5z h_)
  obtain rfl := Option.some.inj H
  go_enter Try.func131, Try.ntmps131
  go_wp2_with (first | ((with_reducible refine gate_callee (f := 72) rfl ?_); refine gsM (some 4) rfl rfl Try.func72 (by kernel_rfl) rfl #[.int .i64 a0, .int .i64 1, .int .i64 3] rfl ?_; (with_reducible refine (spec_l1In.calls a0 1 3 true _ A2.out).mono ?_); rintro e w' ⟨rfl, ⟨nd, rfl⟩⟩; refine ⟨_, rfl, ?_⟩))
  go_ret
  exact ⟨by first | rfl | (simp; done) | (simp only [← hji5] <;> (first | rfl | simp)) | (simp [*]; done), by repeat (first | exact Drawn0.refl _ | apply Drawn0.step)⟩
 ·replace c3 := Bool.eq_false_iff.mpr c3
  subst c3
  rw [if_neg (show ¬ (false = true) by decide)] at H
  obtain rfl := Option.some.inj H
  go_enter Try.func131, Try.ntmps131
  go_wp2_with (first | ((with_reducible refine gate_callee (f := 72) rfl ?_); refine gsM (some 4) rfl rfl Try.func72 (by kernel_rfl) rfl #[.int .i64 a0, .int .i64 1, .int .i64 3] rfl ?_; (with_reducible refine (spec_l1In.calls a0 1 3 false _ A2.out).mono ?_); rintro e w' ⟨rfl, ⟨nd, rfl⟩⟩; refine ⟨_, rfl, ?_⟩))
  go_ret
  exact ⟨by first | rfl | (simp; done) | (simp [*]; done), by repeat (first | exact Drawn0.refl _ | apply Drawn0.step)⟩

/-! ### spec_l20Rank: function 103 -/
mutual
def spec_l20Rank.l0 : Nat → Int → List Int → Int → Int → Int → List Int → Int → Option (List Int × Int)
 | 0, _, _, _, _, _, _, _ => none
 | k + 1, x2, x7, x8, x9, x10, x1000, x1001 => if x10 < x8 then ((some (([2, 4, 10] : List Int) : List Int)).bind fun y357 => (if 0 ≤ x9 then (if x9 < (y357.length : Int) then ((spec_l20Rd_pick.f k x1000 x1001 (rd y357 x9)).bind fun bt361 => (if x7.length < 17592186044416 then (spec_l20Rank.l0 k x2 (x7 ++ [bt361.1]) x8 x9 (wrap64 (x10 + 1)) x1000 bt361.2) else (none))) else (none)) else (none))) else ((spec_l20Rd_pick.f k x1000 x1001 x8).bind fun bt366 => (if 0 ≤ bt366.1 then (if bt366.1 < (x7.length : Int) then ((some (x7.set (bt366.1 : Int).toNat 0 : List Int)).bind fun y368 => ((spec_l20Rd_odd.f k x1000 bt366.2 x2).bind fun bt369 => (if bt369.1 = true then ((spec_l20Rd_pick.f k x1000 bt369.2 3).bind fun bt371 => (if bt371.1 = 0 then (if y368.length < 17592186044416 then (some ((y368 ++ [0]), bt371.2)) else (none)) else (if bt371.1 = 1 then (if 0 < (x7.length : Int) then (some ((y368.set (0 : Int).toNat (-1)), bt371.2)) else (none)) else (spec_l20Rank.l1 k y368 x8 0 x1000 bt371.2)))) else (some (y368, bt369.2))))) else (none)) else (none)))
def spec_l20Rank.l1 : Nat → List Int → Int → Int → List Int → Int → Option (List Int × Int)
 | 0, _, _, _, _, _ => none
 | k + 1, x7, x8, x11, x1000, x1001 => if x11 < x8 then (if 0 ≤ x11 then (if x11 < (x7.length : Int) then (spec_l20Rank.l1 k (x7.set (x11 : Int).toNat (wrap64 ((rd x7 x11) + 1))) x8 (wrap64 (x11 + 1)) x1000 x1001) else (none)) else (none)) else (some (x7, x1001))
end
def spec_l20Rank.f (k : Nat) (s0_0 : List Int) (s0_1 : Int) (a1 : Int) (a2 : Int) : Option (List Int × Int) := (spec_WorldsOf.f a1).bind fun t354 => ((spec_l20Rd_pick.f k s0_0 s0_1 3).bind fun bt355 => (spec_l20Rank.l0 k a2 (([] : List Int)) (mx t354 1) bt355.1 0 s0_0 bt355.2))
theorem spec_l20Rank.mono_l : ∀ k, (∀ y0 y1 y2 y3 y4 y5 y6, LeO (spec_l20Rank.l0 k y0 y1 y2 y3 y4 y5 y6) (spec_l20Rank.l0 (k + 1) y0 y1 y2 y3 y4 y5 y6)) ∧ (∀ y0 y1 y2 y3 y4, LeO (spec_l20Rank.l1 k y0 y1 y2 y3 y4) (spec_l20Rank.l1 (k + 1) y0 y1 y2 y3 y4))
 | 0 => ⟨fun _ _ _ _ _ _ _ r h => by simp [spec_l20Rank.l0] at h, fun _ _ _ _ _ r h => by simp [spec_l20Rank.l1] at h⟩
 | k + 1 => by
  obtain ⟨ih0, ih1⟩ := spec_l20Rank.mono_l k
  refine ⟨?_, ?_⟩
  ·intro y0 y1 y2 y3 y4 y5 y6
   unfold spec_l20Rank.l0
   repeat' first
   | (with_reducible exact ih0 _ _ _ _ _ _ _)
   | (with_reducible exact ih1 _ _ _ _ _)
   | (with_reducible exact spec_l20Rd_odd.mono _ _ _ _)
   | (with_reducible exact spec_l20Rd_pick.mono _ _ _ _)
   | (with_reducible exact LeO.refl _)
   | (with_reducible exact LeO.none _)
   | (with_reducible refine LeO.ite ?_ ?_)
   | (with_reducible refine LeO.bind ?_ (fun _ => ?_))
   | refine LeO.ite ?_ ?_
   | refine LeO.bind ?_ (fun _ => ?_)
  ·intro y0 y1 y2 y3 y4
   unfold spec_l20Rank.l1
   repeat' first
   | (with_reducible exact ih0 _ _ _ _ _ _ _)
   | (with_reducible exact ih1 _ _ _ _ _)
   | (with_reducible exact spec_l20Rd_odd.mono _ _ _ _)
   | (with_reducible exact spec_l20Rd_pick.mono _ _ _ _)
   | (with_reducible exact LeO.refl _)
   | (with_reducible exact LeO.none _)
   | (with_reducible refine LeO.ite ?_ ?_)
   | (with_reducible refine LeO.bind ?_ (fun _ => ?_))
   | refine LeO.ite ?_ ?_
   | refine LeO.bind ?_ (fun _ => ?_)
theorem spec_l20Rank.mono : ∀ a0 a1 a2 a3 k, LeO (spec_l20Rank.f k a0 a1 a2 a3) (spec_l20Rank.f (k + 1) a0 a1 a2 a3) := by
 intro a0 a1 a2 a3 k
 obtain ⟨ih0, ih1⟩ := spec_l20Rank.mono_l k
 unfold spec_l20Rank.f
 repeat' first
   | (with_reducible exact ih0 _ _ _ _ _ _ _)
   | (with_reducible exact ih1 _ _ _ _ _)
   | (with_reducible exact spec_l20Rd_odd.mono _ _ _ _)
   | (with_reducible exact spec_l20Rd_pick.mono _ _ _ _)
   | (with_reducible exact LeO.refl _)
   | (with_reducible exact LeO.none _)
   | (with_reducible refine LeO.ite ?_ ?_)
   | (with_reducible refine LeO.bind ?_ (fun _ => ?_))
   | refine LeO.ite ?_ ?_
   | refine LeO.bind ?_ (fun _ => ?_)
set_option maxHeartbeats 8000000 in
set_option maxRecDepth 100000 in
theorem spec_l20Rank.calls (k : Nat) (g : Nat) (s0_0 : List Int) (s0_1 : Int) (a1 : Int) (a2 : Int) (r1 : List Int) (r2 : Int) (w0 w : World) (hI : Iz w0 w g s0_0 s0_1) (hB : Below w0.heap.size w0 w) (h : spec_l20Rank.f k s0_0 s0_1 a1 a2 = some (r1, r2)) :
  Calls Try.prog 103 #[.pointer (some ⟨g, 0, none⟩), .int .i64 a1, .int .i64 a2] w fun e w' => ∃ v0_ : Value, e = .returned (v0_) ∧ Kd.R (Kd.int .i64) 3 w' w.heap.size (fun _ => True) v0_ r1 ∧ Iz w0 w' g s0_0 r2 ∧ Below w0.heap.size w0 w' ∧ Kbt w w' g none := by
 have HI0 := Asd.mk hI
 have HK := Asd.mk (Kbt.refl w g none)
 have HL := Asd.mk hB.size
 clear hI
 have HW0 := Asd.mk hB.size
 have HB := Asd.mk hB
 clear hB
 have H : ((spec_WorldsOf.f a1).bind fun t354 => ((spec_l20Rd_pick.f k s0_0 s0_1 3).bind fun bt355 => (spec_l20Rank.l0 k a2 (([] : List Int)) (mx t354 1) bt355.1 0 s0_0 bt355.2))) = some (r1, r2) := h
 clear h
 obtain ⟨y351, hy351⟩ : ∃ y_ : List Int, y_ = (([] : List Int)) := ⟨_, rfl⟩
 replace H : ((spec_WorldsOf.f a1).bind fun t354 => ((spec_l20Rd_pick.f k s0_0 s0_1 3).bind fun bt355 => (spec_l20Rank.l0 k a2 y351 (mx t354 1) bt355.1 0 s0_0 bt355.2))) = some (r1, r2) := by first | (rw [hy351]; with_reducible exact H) | (have H2_ := (Option.bind_some _ _).symm.trans H; rw [hy351]; with_reducible exact H2_) | (have H2_ := (Option.bind_some _ _).symm.trans H; with_reducible exact H2_) | with_reducible exact H | (rw [hy351]; exact H) | exact H
 have Ny351 := Asd.mk hy351
 clear hy351
 replace H := Option.bind_eq_some_iff.mp H
 obtain ⟨t354, A40, H⟩ := H
 try dsimp only at H
 have A4 := Asd.mk A40
 clear A40
 obtain ⟨ji5, hji5⟩ : ∃ j_ : Int, (mx t354 1) = j_ := ⟨_, rfl⟩
 replace H : ((spec_l20Rd_pick.f k s0_0 s0_1 3).bind fun bt355 => (spec_l20Rank.l0 k a2 y351 ji5 bt355.1 0 s0_0 bt355.2)) = some (r1, r2) := by first | (rw [hji5] at H; exact H) | (simp only [hji5] at H ⊢; exact H)
 (try rw [hji5] at A4)
 (try (have hji5l : 1 ≤ ji5 := by (rw [← hji5]; unfold mx; (repeat' split) <;> omega)))
 (try (have hji5m : 0 ≤ ji5 := by omega))
 have hji5_ : (if t354 < 1 then 1 else t354) = ji5 := hji5
 replace H := Option.bind_eq_some_iff.mp H
 obtain ⟨⟨t355, t356⟩, A60, H⟩ := H
 try dsimp only at H
 have A6 := Asd.mk A60
 clear A60
 have H' := Asd.mk H
 clear H
 go_enter Try.func103, Try.ntmps103
 go_wp2_with (first | ((with_reducible refine gate_dst (N := 12) rfl ?_); refine Kd.R_lit (Kd.int .i64) _ 3 ?hg (N := 12) ?hd (xs := ([] : List Int)) (inner := []) (ok := fun _ => True) (okp := fun _ => True) ?hr ?hp (fun _ hk => hk) trivial (Below.refl _ _) (Nat.le_refl _) (by simp) ?_; (case hd => rfl); (case hg => rfl); (case hr => first | (go_simp; done) | (go_simp; rfl)); (case hp => exact (Reps.none _ _)); intro v352 w7 ho8 hb hg_ hnew_; clear hg_ hnew_; (first | rw [← Ny351.out] at ho8 | (simp only [Int.reduceToNat] at ho8; rw [← Ny351.out] at ho8)); have n0_ := Asd.mk (Kd.R_lower ho8 (kpZ (w := w) (g := g) (row := none) (by repeat (with_reducible first | exact HK.out | apply Kbt.set_ | apply kpX)))); have n1_ := Asd.mk (Iz.below (by repeat (with_reducible first | exact HI0.out | refine Iz.below ?_ StB.b | apply Iz.set_1)) hb); have n2_ := Asd.mk (Kbt.trans (by repeat (with_reducible first | exact HK.out | apply Kbt.set_ | apply kpX)) (Kbt.of_below hb g none) (.inl rfl)); have n3_ := Asd.mk (bwP (by repeat (with_reducible first | exact HB.out | apply bwX | refine bwS ?_ (Iz.ge HI0.out))) hb); clear HI0; clear HK; clear HB; have HO353 := n0_; have HI0 := n1_; have HK := n2_; have HB := n3_; clear n0_ n1_ n2_ n3_; clear hb ho8) | ((with_reducible refine gate_callee (f := 131) rfl ?_); refine gsM (some 14) rfl rfl Try.func131 (by kernel_rfl) rfl #[.int .i64 a1] rfl ?_; (with_reducible refine (spec_WorldsOf.calls a1 t354 _ A4.out).mono ?_); rintro e w' ⟨rfl, ⟨nd, rfl⟩⟩; refine ⟨_, rfl, ?_⟩) | ((with_reducible refine gate_callee (f := 82) rfl ?_); refine gsM (some 17) rfl rfl Try.func82 (by kernel_rfl) rfl #[.pointer (some ⟨g, 0, none⟩), .int .i64 3] rfl ?_; (with_reducible refine (spec_l20Rd_pick.calls k g s0_0 s0_1 3 t355 t356 w0 _ ?side1 ?side2 A6.out).mono ?_); (case side1 => repeat (with_reducible first | exact HI0.out | refine Iz.below ?_ StB.b | apply Iz.set_1)); (case side2 => repeat (with_reducible first | exact HB.out | apply bwX | refine bwS ?_ (Iz.ge HI0.out))); rintro e w9 ⟨rfl, hi, hb, hk⟩; refine ⟨_, rfl, ?_⟩; have n0_ := Asd.mk (Kd.R_mono (Kd.R_keep (Iz.apart (show Iz w0 _ g s0_0 s0_1 from by repeat (with_reducible first | exact HI0.out | refine Iz.below ?_ StB.b | apply Iz.set_1)) (by (repeat apply Kd.RS); exact HO353.out) (by decide)) hk (fun _ h => h.2)) (fun _ h => h.1)); have n1_ := Asd.mk (Kbt.trans (by repeat (with_reducible first | exact HK.out | apply Kbt.set_ | apply kpX)) hk (.inl rfl)); have n2_ := Asd.mk (hb); have n3_ := Asd.mk (hi); clear HO353; clear HK; clear HB; clear HI0; have HO353 := n0_; have HK := n1_; have HB := n2_; have HI0 := n3_; clear n0_ n1_ n2_ n3_; (try clear hb); (try clear hb2); (try clear hk); (try clear hi)))
 go_loopg [7, 10] k (fun kq v7 v10 w' => ∃ (x7_1 : List Int) (x10_1 : Int) (x1001_1 : Int), v10 = .int .i64 x10_1 ∧ Asd (spec_l20Rank.l0 kq a2 x7_1 ji5 t355 x10_1 s0_0 x1001_1 = some (r1, r2)) ∧ Asd (kq ≤ k) ∧ Asd (Kd.R (Kd.int .i64) 3 w' w.heap.size (fun _ => True) v7 x7_1) ∧ Asd (Iz w0 w' g s0_0 x1001_1) ∧ Asd (Kbt w w' g none) ∧ Asd (Below w0.heap.size w0 w'))
 case atStart => exact ⟨(y351), (0), (t356), (by first | rfl | (simp; done) | (simp [*]; done)), H', ⟨Nat.le_refl _⟩, ⟨by (repeat apply Kd.RS); exact HO353.out⟩, ⟨by repeat (with_reducible first | exact HI0.out | refine Iz.below ?_ StB.b | apply Iz.set_1)⟩, ⟨by repeat (with_reducible first | exact HK.out | apply Kbt.set_ | apply kpX)⟩, ⟨by repeat (with_reducible first | exact HB.out | apply bwX | refine bwS ?_ (Iz.ge HI0.out))⟩⟩
 case round =>
  clear H'
  obtain ⟨x7_1, x10_1, x1001_1, rfl, HA, HK1, HO_7, HI0, HK, HB⟩ := hrel
  cases gk with
  | zero => exact absurd HA.out (by simp [spec_l20Rank.l0])
  | succ k1 =>
   have H := HA.out
   clear HA
   simp only [spec_l20Rank.l0] at H
   by_cases c10 : x10_1 < ji5
   ·rw [if_pos c10] at H
    have c10b0 : decide (x10_1 < ji5) = true := decide_eq_true c10
    clear c10
    obtain ⟨y357, hy357⟩ : ∃ y_ : List Int, y_ = (([2, 4, 10] : List Int)) := ⟨_, rfl⟩
    replace H : (if 0 ≤ t355 then (if t355 < (y357.length : Int) then ((spec_l20Rd_pick.f k1 s0_0 x1001_1 (rd y357 t355)).bind fun bt361 => (if x7_1.length < 17592186044416 then (spec_l20Rank.l0 k1 a2 (x7_1 ++ [bt361.1]) ji5 t355 (wrap64 (x10_1 + 1)) s0_0 bt361.2) else (none))) else (none)) else (none)) = some (r1, r2) := by first | (rw [hy357]; with_reducible exact H) | (have H2_ := (Option.bind_some _ _).symm.trans H; rw [hy357]; with_reducible exact H2_) | (have H2_ := (Option.bind_some _ _).symm.trans H; with_reducible exact H2_) | with_reducible exact H | (rw [hy357]; exact H) | exact H
    have Ny357 := Asd.mk hy357
    clear hy357
    by_cases c11 : 0 ≤ t355; rotate_left; (rw [if_neg c11] at H; exact absurd H (by simp))
    rw [if_pos c11] at H
    have c11b0 : decide (0 ≤ t355) = true := decide_eq_true c11
    clear c11
    by_cases c12 : t355 < (y357.length : Int); rotate_left; (rw [if_neg c12] at H; exact absurd H (by simp))
    rw [if_pos c12] at H
    have c12b0 : decide (t355 < (y357.length : Int)) = true := decide_eq_true c12
    clear c12
    replace H := Option.bind_eq_some_iff.mp H
    obtain ⟨⟨t361, t362⟩, A130, H⟩ := H
    try dsimp only at H
    have A13 := Asd.mk A130
    clear A130
    by_cases c14 : x7_1.length < 17592186044416; rotate_left; (rw [if_neg c14] at H; exact absurd H (by simp))
    rw [if_pos c14] at H
    have LMc14 := Asd.mk c14
    clear c14
    obtain ⟨y363, hy363⟩ : ∃ y_ : List Int, y_ = (x7_1 ++ [t361]) := ⟨_, rfl⟩
    replace H : (spec_l20Rank.l0 k1 a2 y363 ji5 t355 (wrap64 (x10_1 + 1)) s0_0 t362) = some (r1, r2) := by first | (rw [hy363]; with_reducible exact H) | (have H2_ := (Option.bind_some _ _).symm.trans H; rw [hy363]; with_reducible exact H2_) | (have H2_ := (Option.bind_some _ _).symm.trans H; with_reducible exact H2_) | with_reducible exact H | (rw [hy363]; exact H) | exact H
    have Ny363 := Asd.mk hy363
    clear hy363
    have H' := Asd.mk H
    clear H
    go_wp2_with (first | ((with_reducible refine gate_dst (N := 25) rfl ?_); refine Kd.R_lit (Kd.int .i64) _ 3 ?hg (N := 25) ?hd (xs := ([2, 4, 10] : List Int)) (inner := [.int .i64 2, .int .i64 4, .int .i64 10]) (ok := fun _ => True) (okp := fun _ => True) ?hr ?hp (fun _ hk => hk) trivial (Below.refl _ _) (Nat.le_refl _) (by simp) ?_; (case hd => rfl); (case hg => rfl); (case hr => first | (go_simp; done) | (go_simp; rfl)); (case hp => exact (Reps.one (show Kd.M (Kd.int .i64) _ _ _ 2 [.int .i64 2] from rfl) (Reps.one (show Kd.M (Kd.int .i64) _ _ _ 4 [.int .i64 4] from rfl) (Reps.one (show Kd.M (Kd.int .i64) _ _ _ 10 [.int .i64 10] from rfl) (Reps.none _ _))))); intro v358 w15 ho16 hb hg_ hnew_; clear hg_ hnew_; (first | rw [← Ny357.out] at ho16 | (simp only [Int.reduceToNat] at ho16; rw [← Ny357.out] at ho16)); have n0_ := Asd.mk (Kd.R_elder' (by (repeat apply Kd.RS); exact HO_7.out) (Kd.R_base ho16) hb); have n1_ := Asd.mk (Kd.R_lower (Kd.R_new' ho16 (Kd.R_lt (by (repeat apply Kd.RS); exact HO_7.out))) (kpZ (w := w) (g := g) (row := none) (by repeat (with_reducible first | exact HK.out | apply Kbt.set_ | apply kpX)))); have n2_ := Asd.mk (Iz.below (by repeat (with_reducible first | exact HI0.out | refine Iz.below ?_ StB.b | apply Iz.set_1)) hb); have n3_ := Asd.mk (Kbt.trans (by repeat (with_reducible first | exact HK.out | apply Kbt.set_ | apply kpX)) (Kbt.of_below hb g none) (.inl rfl)); have n4_ := Asd.mk (bwP (by repeat (with_reducible first | exact HB.out | apply bwX | refine bwS ?_ (Iz.ge HI0.out))) hb); clear HO_7; clear HI0; clear HK; clear HB; have HO_7 := n0_; have HO359 := n1_; have HI0 := n2_; have HK := n3_; have HB := n4_; clear n0_ n1_ n2_ n3_ n4_; clear hb ho16; obtain ⟨Ao17, co17, eo17⟩ := Kd.R_slice HO359.out; subst eo17; have p360 : 0 ≤ (t355 : Int) := odt; have q360 : t355 < (y357.length : Int) := odt; obtain ⟨ad360, e360, hx360_0⟩ := Kd.at_int (Kd.R_reads' HO359.out).2.2 t355 p360 q360; cases e360; replace p360 := eq_true p360; replace q360 := eq_true q360) | ((with_reducible refine gate_callee (f := 82) rfl ?_); refine gsM (some 29) rfl rfl Try.func82 (by kernel_rfl) rfl #[.pointer (some ⟨g, 0, none⟩), .int .i64 (rd y357 t355)] rfl ?_; (with_reducible refine (spec_l20Rd_pick.calls k1 g s0_0 x1001_1 (rd y357 t355) t361 t362 w0 _ ?side1 ?side2 A13.out).mono ?_); (case side1 => repeat (with_reducible first | exact HI0.out | refine Iz.below ?_ StB.b | apply Iz.set_1)); (case side2 => repeat (with_reducible first | exact HB.out | apply bwX | refine bwS ?_ (Iz.ge HI0.out))); rintro e w18 ⟨rfl, hi, hb, hk⟩; refine ⟨_, rfl, ?_⟩; have n0_ := Asd.mk (Kd.R_mono (Kd.R_keep (Iz.apart (show Iz w0 _ g s0_0 x1001_1 from by repeat (with_reducible first | exact HI0.out | refine Iz.below ?_ StB.b | apply Iz.set_1)) (by (repeat apply Kd.RS); exact HO_7.out) (by decide)) hk (fun _ h => h.2)) (fun _ h => h.1)); have n1_ := Asd.mk (Kd.R_mono (Kd.R_keep (Iz.apart (show Iz w0 _ g s0_0 x1001_1 from by repeat (with_reducible first | exact HI0.out | refine Iz.below ?_ StB.b | apply Iz.set_1)) (by (repeat apply Kd.RS); exact HO359.out) (by decide)) hk (fun _ h => h.2)) (fun _ h => h.1)); have n2_ := Asd.mk (Kbt.trans (by repeat (with_reducible first | exact HK.out | apply Kbt.set_ | apply kpX)) hk (.inl rfl)); have n3_ := Asd.mk (hb); have n4_ := Asd.mk (hi); clear HO_7; clear HO359; clear HK; clear HB; clear HI0; have HO_7 := n0_; have HO359 := n1_; have HK := n2_; have HB := n3_; have HI0 := n4_; clear n0_ n1_ n2_ n3_ n4_; (try clear hb); (try clear hb2); (try clear hk); (try clear hi)) | ((with_reducible refine gate_builtin (b := .append) (xs := #[.tmp 23, .tmp 30]) rfl ?_); at_builtin; refine Kd.R_append (Kd.int .i64) w.heap.size rfl (.tmp 23) (.tmp 30) 55 3 (.int .i64 0) 8 rfl Try.underlying55 info3 rfl (by decide) (by omega) u7 x7_1 t361 [.int .i64 t361] (fun k_ => some k_ ≠ (.slice (some ad360) y357.length co17 : Value).ownBlock) (fun _ => False) rfl rfl ?aP (fun _ hk => hk.elim) ?aF ?aO (Below.refl _ _) ?aS ?aL ?_; (case aP => exact rfl); (case aF => exact (fun k_ hk => Kd.fresh' (Kd.R_lt (by (repeat apply Kd.RS); exact HO359.out)) k_ hk)); (case aO => exact (by (repeat apply Kd.RS); exact Kd.R_mono HO_7.out (fun _ hk => hk.2))); (case aS => exact (kpZ (w := w) (g := g) (row := none) (by repeat (with_reducible first | exact HK.out | apply Kbt.set_ | apply kpX)))); (case aL => have := LMc14.out; omega); intro v364 w19 ho hb hg hat; rw [← Ny363.out] at ho; have n0_ := Asd.mk (Iz.grown (by repeat (with_reducible first | exact HI0.out | refine Iz.below ?_ StB.b | apply Iz.set_1)) hg (Iz.own_ne HI0.out HO_7.out (by decide))); have n1_ := Asd.mk (Kd.R_after (ok := (fun _ => True)) (by (repeat apply Kd.RS); exact HO359.out) hg hat); have n2_ := Asd.mk (below_weaken (by repeat (with_reducible first | exact HB.out | apply bwX | refine bwS ?_ (Iz.ge HI0.out))) HL.out hb); have n3_ := Asd.mk (Kbt.trans (by repeat (with_reducible first | exact HK.out | apply Kbt.set_ | apply kpX)) (Kbt.of_grown hg g) (Kd.R_base2 HO_7.out)); have n4_ := Asd.mk (ho); clear HI0; clear HO359; clear HB; clear HK; clear HO_7; have HI0 := n0_; have HO359 := n1_; have HB := n2_; have HK := n3_; have HO365 := n4_; clear n0_ n1_ n2_ n3_ n4_; clear ho hb hg hat))
    go_roundg k1
    case measure => have := HK1.out; omega
    case rel => exact ⟨(y363), (wrap64 (x10_1 + 1)), (t362), (by first | rfl | (simp; done) | (simp [*]; done)), H', ⟨by have := HK1.out; omega⟩, ⟨by (repeat apply Kd.RS); exact Kd.R_mono HO365.out (fun _ hk => trivial)⟩, ⟨by repeat (with_reducible first | exact HI0.out | refine Iz.below ?_ StB.b | apply Iz.set_1)⟩, ⟨by repeat (with_reducible first | exact HK.out | apply Kbt.set_ | apply kpX)⟩, ⟨by repeat (with_reducible first | exact HB.out | apply bwX | refine bwS ?_ (Iz.ge HI0.out))⟩⟩
   ·rw [if_neg c10] at H
    have c10b0 : decide (x10_1 < ji5) = false := decide_eq_false c10
    clear c10
    replace H := Option.bind_eq_some_iff.mp H
    obtain ⟨⟨t366, t367⟩, A200, H⟩ := H
    try dsimp only at H
    have A20 := Asd.mk A200
    clear A200
    by_cases c21 : 0 ≤ t366; rotate_left; (rw [if_neg c21] at H; exact absurd H (by simp))
    rw [if_pos c21] at H
    have c21b0 : decide (0 ≤ t366) = true := decide_eq_true c21
    clear c21
    by_cases c22 : t366 < (x7_1.length : Int); rotate_left; (rw [if_neg c22] at H; exact absurd H (by simp))
    rw [if_pos c22] at H
    have c22b0 : decide (t366 < (x7_1.length : Int)) = true := decide_eq_true c22
    clear c22
    obtain ⟨y368, hy368⟩ : ∃ y_ : List Int, y_ = (x7_1.set (t366 : Int).toNat 0) := ⟨_, rfl⟩
    replace H : ((spec_l20Rd_odd.f k1 s0_0 t367 a2).bind fun bt369 => (if bt369.1 = true then ((spec_l20Rd_pick.f k1 s0_0 bt369.2 3).bind fun bt371 => (if bt371.1 = 0 then (if y368.length < 17592186044416 then (some ((y368 ++ [0]), bt371.2)) else (none)) else (if bt371.1 = 1 then (if 0 < (x7_1.length : Int) then (some ((y368.set (0 : Int).toNat (-1)), bt371.2)) else (none)) else (spec_l20Rank.l1 k1 y368 ji5 0 s0_0 bt371.2)))) else (some (y368, bt369.2)))) = some (r1, r2) := by first | (rw [hy368]; with_reducible exact H) | (have H2_ := (Option.bind_some _ _).symm.trans H; rw [hy368]; with_reducible exact H2_) | (have H2_ := (Option.bind_some _ _).symm.trans H; with_reducible exact H2_) | with_reducible exact H | (rw [hy368]; exact H) | exact H
    have Ny368 := Asd.mk hy368
    clear hy368
    replace H := Option.bind_eq_some_iff.mp H
    obtain ⟨⟨t369, t370⟩, A240, H⟩ := H
    try dsimp only at H
    have A24 := Asd.mk A240
    clear A240
    by_cases c25 : t369 = true
    ·subst c25
     rw [if_pos rfl] at H
     replace H := Option.bind_eq_some_iff.mp H
     obtain ⟨⟨t371, t372⟩, A260, H⟩ := H
     try dsimp only at H
     have A26 := Asd.mk A260
     clear A260
     by_cases c27 : t371 = 0
     ·rw [if_pos c27] at H
      have c27b0 : (t371 == 0) = true := beq_iff_eq.mpr c27
      have c27b1 : (t371 != 0) = false := bne_eq_false_iff_eq.mpr c27
      clear c27
      by_cases c28 : y368.length < 17592186044416; rotate_left; (rw [if_neg c28] at H; exact absurd H (by simp))
      rw [if_pos c28] at H
      have LMc28 := Asd.mk c28
      clear c28
      obtain ⟨y373, hy373⟩ : ∃ y_ : List Int, y_ = (y368 ++ [0]) := ⟨_, rfl⟩
      replace H : (some (y373, t372)) = some (r1, r2) := by first | (rw [hy373]; with_reducible exact H) | (have H2_ := (Option.bind_some _ _).symm.trans H; rw [hy373]; with_reducible exact H2_) | (have H2_ := (Option.bind_some _ _).symm.trans H; with_reducible exact H2_) | with_reducible exact H | (rw [hy373]; exact H) | exact H
      have Ny373 := Asd.mk hy373
      clear hy373
      simp only [Option.some.injEq, Prod.mk.injEq] at H
      obtain ⟨rfl, rfl⟩ := H
      go_wp2_with (first | ((with_reducible refine gate_callee (f := 82) rfl ?_); refine gsL (some 35) rfl rfl Try.func82 (by kernel_rfl) rfl #[.pointer (some ⟨g, 0, none⟩), .int .i64 ji5] rfl (by (try simp only [List.map_toArray, List.map_cons, List.map_nil]); first | done | (simp only [hji5]; rfl) | rfl | (simp only [List.length_drop, List.length_take]; rfl)) ?_; (with_reducible refine (spec_l20Rd_pick.calls k1 g s0_0 x1001_1 ji5 t366 t367 w0 _ ?side1 ?side2 A20.out).mono ?_); (case side1 => repeat (with_reducible first | exact HI0.out | refine Iz.below ?_ StB.b | apply Iz.set_1)); (case side2 => repeat (with_reducible first | exact HB.out | apply bwX | refine bwS ?_ (Iz.ge HI0.out))); rintro e w29 ⟨rfl, hi, hb, hk⟩; refine ⟨_, rfl, ?_⟩; have n0_ := Asd.mk (Kd.R_mono (Kd.R_keep (Iz.apart (show Iz w0 _ g s0_0 x1001_1 from by repeat (with_reducible first | exact HI0.out | refine Iz.below ?_ StB.b | apply Iz.set_1)) (by (repeat apply Kd.RS); exact HO_7.out) (by decide)) hk (fun _ h => h.2)) (fun _ h => h.1)); have n1_ := Asd.mk (Kbt.trans (by repeat (with_reducible first | exact HK.out | apply Kbt.set_ | apply kpX)) hk (.inl rfl)); have n2_ := Asd.mk (hb); have n3_ := Asd.mk (hi); clear HO_7; clear HK; clear HB; clear HI0; have HO_7 := n0_; have HK := n1_; have HB := n2_; have HI0 := n3_; clear n0_ n1_ n2_ n3_; (try clear hb); (try clear hb2); (try clear hk); (try clear hi); have p23 : 0 ≤ (t366 : Int) := odt; have q23 : (t366 : Int) < ((x7_1.length : Int) : Int) := odt; obtain ⟨go23, co23, eo23, gb23, gl23, cl23, HG23⟩ := Kd.R_form HO_7.out (by omega); (first | cases eo23 | (injection eo23 with ea_ en_ ec_; (first | subst ea_ | (injection ea_ with ea_; subst ea_)); subst ec_; clear en_)); have GB23 := Asd.mk gb23; have GG23 := Asd.mk HG23; clear gb23 gl23 HG23; obtain ⟨hx23_0, hf23_0⟩ := Kd.R_celln 0 HO_7.out (t366 : Int) p23 q23; replace p23 := eq_true p23; replace q23 := eq_true q23; obtain ⟨hy30_, hz30_⟩ := Kd.R_celln 0 HO_7.out (t366 : Int) (odt) (odt); have HP30 := Kd.R_putg HO_7.out (t366 : Int) 0) | ((with_reducible refine gate_store (t := 3) (p := 36) rfl ?_); refine store_event (t := 3) (p := 36) (v := ?vo_w31) (w1 := (w29.setCell ⟨go23, (t366 : Int).toNat, none⟩ (.int .i64 0))) ?hg ?ho ?hn ?hr ?_; (case ho => rfl); (case hg => rfl); (case hn => rfl); (case hr => first | (go_simp; done) | (go_simp; rfl)); intro w31 hw; have hg : w29.grownBy w31 (some go23) := (by rw [hw]; exact HP30.2); have hp_ : Kd.R (Kd.int .i64) 3 w31 w.heap.size (fun _ => True) (.slice (some ⟨go23, 0, none⟩) x7_1.length co23) y368 := (by rw [hw, Ny368.out]; exact HP30.1); clear HP30; have n0_ := Asd.mk (hp_); have n1_ := Asd.mk (Iz.grown (by repeat (with_reducible first | exact HI0.out | refine Iz.below ?_ StB.b | apply Iz.set_1)) hg (Iz.own_ne HI0.out HO_7.out (by decide))); have n2_ := Asd.mk ((by rw [hw]; exact bwS (HB.out) (Nat.le_trans HL.out GB23.out) : Below w0.heap.size w0 w31)); have n3_ := Asd.mk (Kbt.trans (by repeat (with_reducible first | exact HK.out | apply Kbt.set_ | apply kpX)) (Kbt.of_grown hg g) (Kd.R_base2 HO_7.out)); clear HO_7; clear HI0; clear HB; clear HK; have HO_7 := n0_; have HI0 := n1_; have HB := n2_; have HK := n3_; clear n0_ n1_ n2_ n3_; clear hg hw hp_) | ((with_reducible refine gate_callee (f := 81) rfl ?_); refine gsM (some 39) rfl rfl Try.func81 (by kernel_rfl) rfl #[.pointer (some ⟨g, 0, none⟩), .int .i64 a2] rfl ?_; (with_reducible refine (spec_l20Rd_odd.calls k1 g s0_0 t367 a2 true t370 w0 _ ?side1 ?side2 A24.out).mono ?_); (case side1 => repeat (with_reducible first | exact HI0.out | refine Iz.below ?_ StB.b | apply Iz.set_1)); (case side2 => repeat (with_reducible first | exact HB.out | apply bwX | refine bwS ?_ (Iz.ge HI0.out))); rintro e w32 ⟨rfl, hi, hb, hk⟩; refine ⟨_, rfl, ?_⟩; have n0_ := Asd.mk (Kd.R_mono (Kd.R_keep (Iz.apart (show Iz w0 _ g s0_0 t367 from by repeat (with_reducible first | exact HI0.out | refine Iz.below ?_ StB.b | apply Iz.set_1)) (by (repeat apply Kd.RS); exact HO_7.out) (by decide)) hk (fun _ h => h.2)) (fun _ h => h.1)); have n1_ := Asd.mk (Kbt.trans (by repeat (with_reducible first | exact HK.out | apply Kbt.set_ | apply kpX)) hk (.inl rfl)); have n2_ := Asd.mk (hb); have n3_ := Asd.mk (hi); clear HO_7; clear HK; clear HB; clear HI0; have HO_7 := n0_; have HK := n1_; have HB := n2_; have HI0 := n3_; clear n0_ n1_ n2_ n3_; (try clear hb); (try clear hb2); (try clear hk); (try clear hi)) | ((with_reducible refine gate_callee (f := 82) rfl ?_); refine gsM (some 41) rfl rfl Try.func82 (by kernel_rfl) rfl #[.pointer (some ⟨g, 0, none⟩), .int .i64 3] rfl ?_; (with_reducible refine (spec_l20Rd_pick.calls k1 g s0_0 t370 3 t371 t372 w0 _ ?side1 ?side2 A26.out).mono ?_); (case side1 => repeat (with_reducible first | exact HI0.out | refine Iz.below ?_ StB.b | apply Iz.set_1)); (case side2 => repeat (with_reducible first | exact HB.out | apply bwX | refine bwS ?_ (Iz.ge HI0.out))); rintro e w33 ⟨rfl, hi, hb, hk⟩; refine ⟨_, rfl, ?_⟩; have n0_ := Asd.mk (Kd.R_mono (Kd.R_keep (Iz.apart (show Iz w0 _ g s0_0 t370 from by repeat (with_reducible first | exact HI0.out | refine Iz.below ?_ StB.b | apply Iz.set_1)) (by (repeat apply Kd.RS); exact HO_7.out) (by decide)) hk (fun _ h => h.2)) (fun _ h => h.1)); have n1_ := Asd.mk (Kbt.trans (by repeat (with_reducible first | exact HK.out | apply Kbt.set_ | apply kpX)) hk (.inl rfl)); have n2_ := Asd.mk (hb); have n3_ := Asd.mk (hi); clear HO_7; clear HK; clear HB; clear HI0; have HO_7 := n0_; have HK := n1_; have HB := n2_; have HI0 := n3_; clear n0_ n1_ n2_ n3_; (try clear hb); (try clear hb2); (try clear hk); (try clear hi)) | ((with_reducible refine gate_builtin (b := .append) (xs := #[.tmp 57, .tmp 58]) rfl ?_); at_builtin; refine Kd.R_append (Kd.int .i64) w.heap.size rfl (.tmp 57) (.tmp 58) 55 3 (.int .i64 0) 8 rfl Try.underlying55 info3 rfl (by decide) (by omega) (.slice (some ⟨go23, 0, none⟩) x7_1.length co23) y368 0 [.int .i64 0] (fun _ => True) (fun _ => False) rfl rfl ?aP (fun _ hk => hk.elim) ?aF ?aO (Below.refl _ _) ?aS ?aL ?_; (case aP => exact rfl); (case aF => exact (fun _ _ => trivial)); (case aO => exact (by (repeat apply Kd.RS); exact HO_7.out)); (case aS => exact (kpZ (w := w) (g := g) (row := none) (by repeat (with_reducible first | exact HK.out | apply Kbt.set_ | apply kpX)))); (case aL => have := LMc28.out; omega); intro v374 w34 ho hb hg hat; rw [← Ny373.out] at ho; have n0_ := Asd.mk (Iz.grown (by repeat (with_reducible first | exact HI0.out | refine Iz.below ?_ StB.b | apply Iz.set_1)) hg (Iz.own_ne HI0.out HO_7.out (by decide))); have n1_ := Asd.mk (below_weaken (by repeat (with_reducible first | exact HB.out | apply bwX | refine bwS ?_ (Iz.ge HI0.out))) HL.out hb); have n2_ := Asd.mk (Kbt.trans (by repeat (with_reducible first | exact HK.out | apply Kbt.set_ | apply kpX)) (Kbt.of_grown hg g) (Kd.R_base2 HO_7.out)); have n3_ := Asd.mk (ho); clear HI0; clear HB; clear HK; clear HO_7; have HI0 := n0_; have HB := n1_; have HK := n2_; have HO375 := n3_; clear n0_ n1_ n2_ n3_; clear ho hb hg hat))
      go_ret
      exact ⟨_, by first | rfl | (simp [errW_none, errW_some] <;> rfl) | (simp only [← hji5]; first | rfl | (simp [errW_none, errW_some] <;> rfl)) | (simp [*, errW_none, errW_some] <;> rfl), by (repeat apply Kd.RS); exact HO375.out, by repeat (with_reducible first | exact HI0.out | refine Iz.below ?_ StB.b | apply Iz.set_1), by repeat (with_reducible first | exact HB.out | apply bwX | refine bwS ?_ (Iz.ge HI0.out)), by repeat (with_reducible first | exact HK.out | apply Kbt.set_ | apply kpX)⟩
     ·rw [if_neg c27] at H
      have c27b0 : (t371 == 0) = false := beq_eq_false_iff_ne.mpr c27
      have c27b1 : (t371 != 0) = true := bne_iff_ne.mpr c27
      by_cases c35 : t371 = 1
      ·rw [if_pos c35] at H
       have c35b0 : (t371 == 1) = true := beq_iff_eq.mpr c35
       have c35b1 : (t371 != 1) = false := bne_eq_false_iff_eq.mpr c35
       clear c35
       by_cases c36 : 0 < (x7_1.length : Int); rotate_left; (rw [if_neg c36] at H; exact absurd H (by simp))
       rw [if_pos c36] at H
       have c36b0 : decide (0 < (x7_1.length : Int)) = true := decide_eq_true c36
       have c36b1 : decide (0 < x7_1.length) = true := decide_eq_true (by omega)
       clear c36
       obtain ⟨y376, hy376⟩ : ∃ y_ : List Int, y_ = (y368.set (0 : Int).toNat (-1)) := ⟨_, rfl⟩
       replace H : (some (y376, t372)) = some (r1, r2) := by first | (rw [hy376]; with_reducible exact H) | (have H2_ := (Option.bind_some _ _).symm.trans H; rw [hy376]; with_reducible exact H2_) | (have H2_ := (Option.bind_some _ _).symm.trans H; with_reducible exact H2_) | with_reducible exact H | (rw [hy376]; exact H) | exact H
       have Ny376 := Asd.mk hy376
       clear hy376
       simp only [Option.some.injEq, Prod.mk.injEq] at H
       obtain ⟨rfl, rfl⟩ := H
       go_wp2_with (first | ((with_reducible refine gate_callee (f := 82) rfl ?_); refine gsL (some 35) rfl rfl Try.func82 (by kernel_rfl) rfl #[.pointer (some ⟨g, 0, none⟩), .int .i64 ji5] rfl (by (try simp only [List.map_toArray, List.map_cons, List.map_nil]); first | done | (simp only [hji5]; rfl) | rfl | (simp only [List.length_drop, List.length_take]; rfl)) ?_; (with_reducible refine (spec_l20Rd_pick.calls k1 g s0_0 x1001_1 ji5 t366 t367 w0 _ ?side1 ?side2 A20.out).mono ?_); (case side1 => repeat (with_reducible first | exact HI0.out | refine Iz.below ?_ StB.b | apply Iz.set_1)); (case side2 => repeat (with_reducible first | exact HB.out | apply bwX | refine bwS ?_ (Iz.ge HI0.out))); rintro e w38 ⟨rfl, hi, hb, hk⟩; refine ⟨_, rfl, ?_⟩; have n0_ := Asd.mk (Kd.R_mono (Kd.R_keep (Iz.apart (show Iz w0 _ g s0_0 x1001_1 from by repeat (with_reducible first | exact HI0.out | refine Iz.below ?_ StB.b | apply Iz.set_1)) (by (repeat apply Kd.RS); exact HO_7.out) (by decide)) hk (fun _ h => h.2)) (fun _ h => h.1)); have n1_ := Asd.mk (Kbt.trans (by repeat (with_reducible first | exact HK.out | apply Kbt.set_ | apply kpX)) hk (.inl rfl)); have n2_ := Asd.mk (hb); have n3_ := Asd.mk (hi); clear HO_7; clear HK; clear HB; clear HI0; have HO_7 := n0_; have HK := n1_; have HB := n2_; have HI0 := n3_; clear n0_ n1_ n2_ n3_; (try clear hb); (try clear hb2); (try clear hk); (try clear hi); have p23 : 0 ≤ (t366 : Int) := odt; have q23 : (t366 : Int) < ((x7_1.length : Int) : Int) := odt; obtain ⟨go23, co23, eo23, gb23, gl23, cl23, HG23⟩ := Kd.R_form HO_7.out (by omega); (first | cases eo23 | (injection eo23 with ea_ en_ ec_; (first | subst ea_ | (injection ea_ with ea_; subst ea_)); subst ec_; clear en_)); have GB23 := Asd.mk gb23; have GG23 := Asd.mk HG23; clear gb23 gl23 HG23; obtain ⟨hx23_0, hf23_0⟩ := Kd.R_celln 0 HO_7.out (t366 : Int) p23 q23; replace p23 := eq_true p23; replace q23 := eq_true q23; obtain ⟨hy39_, hz39_⟩ := Kd.R_celln 0 HO_7.out (t366 : Int) (odt) (odt); have HP39 := Kd.R_putg HO_7.out (t366 : Int) 0) | ((with_reducible refine gate_store (t := 3) (p := 36) rfl ?_); refine store_event (t := 3) (p := 36) (v := ?vo_w40) (w1 := (w38.setCell ⟨go23, (t366 : Int).toNat, none⟩ (.int .i64 0))) ?hg ?ho ?hn ?hr ?_; (case ho => rfl); (case hg => rfl); (case hn => rfl); (case hr => first | (go_simp; done) | (go_simp; rfl)); intro w40 hw; have hg : w38.grownBy w40 (some go23) := (by rw [hw]; exact HP39.2); have hp_ : Kd.R (Kd.int .i64) 3 w40 w.heap.size (fun _ => True) (.slice (some ⟨go23, 0, none⟩) x7_1.length co23) y368 := (by rw [hw, Ny368.out]; exact HP39.1); clear HP39; have n0_ := Asd.mk (hp_); have n1_ := Asd.mk (Iz.grown (by repeat (with_reducible first | exact HI0.out | refine Iz.below ?_ StB.b | apply Iz.set_1)) hg (Iz.own_ne HI0.out HO_7.out (by decide))); have n2_ := Asd.mk ((by rw [hw]; exact bwS (HB.out) (Nat.le_trans HL.out GB23.out) : Below w0.heap.size w0 w40)); have n3_ := Asd.mk (Kbt.trans (by repeat (with_reducible first | exact HK.out | apply Kbt.set_ | apply kpX)) (Kbt.of_grown hg g) (Kd.R_base2 HO_7.out)); clear HO_7; clear HI0; clear HB; clear HK; have HO_7 := n0_; have HI0 := n1_; have HB := n2_; have HK := n3_; clear n0_ n1_ n2_ n3_; clear hg hw hp_) | ((with_reducible refine gate_callee (f := 81) rfl ?_); refine gsM (some 39) rfl rfl Try.func81 (by kernel_rfl) rfl #[.pointer (some ⟨g, 0, none⟩), .int .i64 a2] rfl ?_; (with_reducible refine (spec_l20Rd_odd.calls k1 g s0_0 t367 a2 true t370 w0 _ ?side1 ?side2 A24.out).mono ?_); (case side1 => repeat (with_reducible first | exact HI0.out | refine Iz.below ?_ StB.b | apply Iz.set_1)); (case side2 => repeat (with_reducible first | exact HB.out | apply bwX | refine bwS ?_ (Iz.ge HI0.out))); rintro e w41 ⟨rfl, hi, hb, hk⟩; refine ⟨_, rfl, ?_⟩; have n0_ := Asd.mk (Kd.R_mono (Kd.R_keep (Iz.apart (show Iz w0 _ g s0_0 t367 from by repeat (with_reducible first | exact HI0.out | refine Iz.below ?_ StB.b | apply Iz.set_1)) (by (repeat apply Kd.RS); exact HO_7.out) (by decide)) hk (fun _ h => h.2)) (fun _ h => h.1)); have n1_ := Asd.mk (Kbt.trans (by repeat (with_reducible first | exact HK.out | apply Kbt.set_ | apply kpX)) hk (.inl rfl)); have n2_ := Asd.mk (hb); have n3_ := Asd.mk (hi); clear HO_7; clear HK; clear HB; clear HI0; have HO_7 := n0_; have HK := n1_; have HB := n2_; have HI0 := n3_; clear n0_ n1_ n2_ n3_; (try clear hb); (try clear hb2); (try clear hk); (try clear hi)) | ((with_reducible refine gate_callee (f := 82) rfl ?_); refine gsM (some 41) rfl rfl Try.func82 (by kernel_rfl) rfl #[.pointer (some ⟨g, 0, none⟩), .int .i64 3] rfl ?_; (with_reducible refine (spec_l20Rd_pick.calls k1 g s0_0 t370 3 t371 t372 w0 _ ?side1 ?side2 A26.out).mono ?_); (case side1 => repeat (with_reducible first | exact HI0.out | refine Iz.below ?_ StB.b | apply Iz.set_1)); (case side2 => repeat (with_reducible first | exact HB.out | apply bwX | refine bwS ?_ (Iz.ge HI0.out))); rintro e w42 ⟨rfl, hi, hb, hk⟩; refine ⟨_, rfl, ?_⟩; have n0_ := Asd.mk (Kd.R_mono (Kd.R_keep (Iz.apart (show Iz w0 _ g s0_0 t370 from by repeat (with_reducible first | exact HI0.out | refine Iz.below ?_ StB.b | apply Iz.set_1)) (by (repeat apply Kd.RS); exact HO_7.out) (by decide)) hk (fun _ h => h.2)) (fun _ h => h.1)); have n1_ := Asd.mk (Kbt.trans (by repeat (with_reducible first | exact HK.out | apply Kbt.set_ | apply kpX)) hk (.inl rfl)); have n2_ := Asd.mk (hb); have n3_ := Asd.mk (hi); clear HO_7; clear HK; clear HB; clear HI0; have HO_7 := n0_; have HK := n1_; have HB := n2_; have HI0 := n3_; clear n0_ n1_ n2_ n3_; (try clear hb); (try clear hb2); (try clear hk); (try clear hi); have p37 : 0 ≤ (0 : Int) := (by omega); have q37 : (0 : Int) < ((x7_1.length : Int) : Int) := odt; have qi37 : (0 < x7_1.length) = True := eq_true (by omega); obtain ⟨hx37_0, hf37_0⟩ := Kd.R_celln 0 HO_7.out (0 : Int) p37 q37; (try rw [show ((0 : Int)).toNat = 0 from rfl] at hx37_0); (try simp only [Nat.reduceMul, Nat.zero_mul, Nat.zero_add, Nat.reduceAdd] at hx37_0); (try rw [show ((0 : Int)).toNat = 0 from rfl] at hf37_0); (try simp only [Nat.reduceMul, Nat.zero_mul, Nat.zero_add, Nat.reduceAdd] at hf37_0); replace p37 := eq_true p37; replace q37 := eq_true q37; obtain ⟨hy43_, hz43_⟩ := Kd.R_celln 0 HO_7.out (0 : Int) (by omega) (odt); (try simp only [Int.reduceToNat, Int.toNat_zero, Int.toNat_ofNat, Nat.reduceMul, Nat.zero_mul, Nat.zero_add] at hy43_ hz43_); (try rw [show ((0 : Int)).toNat = 0 from rfl] at hy43_); (try rw [show ((0 : Int)).toNat = 0 from rfl] at hz43_); have HP43 := Kd.R_putg HO_7.out (0 : Int) (-1)) | ((with_reducible refine gate_store (t := 3) (p := 63) rfl ?_); refine store_event (t := 3) (p := 63) (v := ?vo_w44) (w1 := (w42.setCell ⟨go23, (0 : Int).toNat, none⟩ (.int .i64 (-1)))) ?hg ?ho ?hn ?hr ?_; (case ho => rfl); (case hg => rfl); (case hn => rfl); (case hr => first | (go_simp; done) | (go_simp; rfl)); intro w44 hw; have hg : w42.grownBy w44 (some go23) := (by rw [hw]; exact HP43.2); have hp_ : Kd.R (Kd.int .i64) 3 w44 w.heap.size (fun _ => True) (.slice (some ⟨go23, 0, none⟩) x7_1.length co23) y376 := (by rw [hw, Ny376.out]; exact HP43.1); clear HP43; have n0_ := Asd.mk (hp_); have n1_ := Asd.mk (Iz.grown (by repeat (with_reducible first | exact HI0.out | refine Iz.below ?_ StB.b | apply Iz.set_1)) hg (Iz.own_ne HI0.out HO_7.out (by decide))); have n2_ := Asd.mk ((by rw [hw]; exact bwS (HB.out) (Nat.le_trans HL.out GB23.out) : Below w0.heap.size w0 w44)); have n3_ := Asd.mk (Kbt.trans (by repeat (with_reducible first | exact HK.out | apply Kbt.set_ | apply kpX)) (Kbt.of_grown hg g) (Kd.R_base2 HO_7.out)); clear HO_7; clear HI0; clear HB; clear HK; have HO_7 := n0_; have HI0 := n1_; have HB := n2_; have HK := n3_; clear n0_ n1_ n2_ n3_; clear hg hw hp_))
       go_ret
       exact ⟨_, by first | rfl | (simp [errW_none, errW_some] <;> rfl) | (simp only [← hji5]; first | rfl | (simp [errW_none, errW_some] <;> rfl)) | (simp [*, errW_none, errW_some] <;> rfl), by (repeat apply Kd.RS); exact HO_7.out, by repeat (with_reducible first | exact HI0.out | refine Iz.below ?_ StB.b | apply Iz.set_1), by repeat (with_reducible first | exact HB.out | apply bwX | refine bwS ?_ (Iz.ge HI0.out)), by repeat (with_reducible first | exact HK.out | apply Kbt.set_ | apply kpX)⟩
      ·rw [if_neg c35] at H
       have c35b0 : (t371 == 1) = false := beq_eq_false_iff_ne.mpr c35
       have c35b1 : (t371 != 1) = true := bne_iff_ne.mpr c35
       have H' := Asd.mk H
       clear H
       go_wp2_with (first | ((with_reducible refine gate_callee (f := 82) rfl ?_); refine gsL (some 35) rfl rfl Try.func82 (by kernel_rfl) rfl #[.pointer (some ⟨g, 0, none⟩), .int .i64 ji5] rfl (by (try simp only [List.map_toArray, List.map_cons, List.map_nil]); first | done | (simp only [hji5]; rfl) | rfl | (simp only [List.length_drop, List.length_take]; rfl)) ?_; (with_reducible refine (spec_l20Rd_pick.calls k1 g s0_0 x1001_1 ji5 t366 t367 w0 _ ?side1 ?side2 A20.out).mono ?_); (case side1 => repeat (with_reducible first | exact HI0.out | refine Iz.below ?_ StB.b | apply Iz.set_1)); (case side2 => repeat (with_reducible first | exact HB.out | apply bwX | refine bwS ?_ (Iz.ge HI0.out))); rintro e w45 ⟨rfl, hi, hb, hk⟩; refine ⟨_, rfl, ?_⟩; have n0_ := Asd.mk (Kd.R_mono (Kd.R_keep (Iz.apart (show Iz w0 _ g s0_0 x1001_1 from by repeat (with_reducible first | exact HI0.out | refine Iz.below ?_ StB.b | apply Iz.set_1)) (by (repeat apply Kd.RS); exact HO_7.out) (by decide)) hk (fun _ h => h.2)) (fun _ h => h.1)); have n1_ := Asd.mk (Kbt.trans (by repeat (with_reducible first | exact HK.out | apply Kbt.set_ | apply kpX)) hk (.inl rfl)); have n2_ := Asd.mk (hb); have n3_ := Asd.mk (hi); clear HO_7; clear HK; clear HB; clear HI0; have HO_7 := n0_; have HK := n1_; have HB := n2_; have HI0 := n3_; clear n0_ n1_ n2_ n3_; (try clear hb); (try clear hb2); (try clear hk); (try clear hi); have p23 : 0 ≤ (t366 : Int) := odt; have q23 : (t366 : Int) < ((x7_1.length : Int) : Int) := odt; obtain ⟨go23, co23, eo23, gb23, gl23, cl23, HG23⟩ := Kd.R_form HO_7.out (by omega); (first | cases eo23 | (injection eo23 with ea_ en_ ec_; (first | subst ea_ | (injection ea_ with ea_; subst ea_)); subst ec_; clear en_)); have GB23 := Asd.mk gb23; have GG23 := Asd.mk HG23; clear gb23 gl23 HG23; obtain ⟨hx23_0, hf23_0⟩ := Kd.R_celln 0 HO_7.out (t366 : Int) p23 q23; replace p23 := eq_true p23; replace q23 := eq_true q23; obtain ⟨hy46_, hz46_⟩ := Kd.R_celln 0 HO_7.out (t366 : Int) (odt) (odt); have HP46 := Kd.R_putg HO_7.out (t366 : Int) 0) | ((with_reducible refine gate_store (t := 3) (p := 36) rfl ?_); refine store_event (t := 3) (p := 36) (v := ?vo_w47) (w1 := (w45.setCell ⟨go23, (t366 : Int).toNat, none⟩ (.int .i64 0))) ?hg ?ho ?hn ?hr ?_; (case ho => rfl); (case hg => rfl); (case hn => rfl); (case hr => first | (go_simp; done) | (go_simp; rfl)); intro w47 hw; have hg : w45.grownBy w47 (some go23) := (by rw [hw]; exact HP46.2); have hp_ : Kd.R (Kd.int .i64) 3 w47 w.heap.size (fun _ => True) (.slice (some ⟨go23, 0, none⟩) x7_1.length co23) y368 := (by rw [hw, Ny368.out]; exact HP46.1); clear HP46; have n0_ := Asd.mk (hp_); have n1_ := Asd.mk (Iz.grown (by repeat (with_reducible first | exact HI0.out | refine Iz.below ?_ StB.b | apply Iz.set_1)) hg (Iz.own_ne HI0.out HO_7.out (by decide))); have n2_ := Asd.mk ((by rw [hw]; exact bwS (HB.out) (Nat.le_trans HL.out GB23.out) : Below w0.heap.size w0 w47)); have n3_ := Asd.mk (Kbt.trans (by repeat (with_reducible first | exact HK.out | apply Kbt.set_ | apply kpX)) (Kbt.of_grown hg g) (Kd.R_base2 HO_7.out)); clear HO_7; clear HI0; clear HB; clear HK; have HO_7 := n0_; have HI0 := n1_; have HB := n2_; have HK := n3_; clear n0_ n1_ n2_ n3_; clear hg hw hp_) | ((with_reducible refine gate_callee (f := 81) rfl ?_); refine gsM (some 39) rfl rfl Try.func81 (by kernel_rfl) rfl #[.pointer (some ⟨g, 0, none⟩), .int .i64 a2] rfl ?_; (with_reducible refine (spec_l20Rd_odd.calls k1 g s0_0 t367 a2 true t370 w0 _ ?side1 ?side2 A24.out).mono ?_); (case side1 => repeat (with_reducible first | exact HI0.out | refine Iz.below ?_ StB.b | apply Iz.set_1)); (case side2 => repeat (with_reducible first | exact HB.out | apply bwX | refine bwS ?_ (Iz.ge HI0.out))); rintro e w48 ⟨rfl, hi, hb, hk⟩; refine ⟨_, rfl, ?_⟩; have n0_ := Asd.mk (Kd.R_mono (Kd.R_keep (Iz.apart (show Iz w0 _ g s0_0 t367 from by repeat (with_reducible first | exact HI0.out | refine Iz.below ?_ StB.b | apply Iz.set_1)) (by (repeat apply Kd.RS); exact HO_7.out) (by decide)) hk (fun _ h => h.2)) (fun _ h => h.1)); have n1_ := Asd.mk (Kbt.trans (by repeat (with_reducible first | exact HK.out | apply Kbt.set_ | apply kpX)) hk (.inl rfl)); have n2_ := Asd.mk (hb); have n3_ := Asd.mk (hi); clear HO_7; clear HK; clear HB; clear HI0; have HO_7 := n0_; have HK := n1_; have HB := n2_; have HI0 := n3_; clear n0_ n1_ n2_ n3_; (try clear hb); (try clear hb2); (try clear hk); (try clear hi)) | ((with_reducible refine gate_callee (f := 82) rfl ?_); refine gsM (some 41) rfl rfl Try.func82 (by kernel_rfl) rfl #[.pointer (some ⟨g, 0, none⟩), .int .i64 3] rfl ?_; (with_reducible refine (spec_l20Rd_pick.calls k1 g s0_0 t370 3 t371 t372 w0 _ ?side1 ?side2 A26.out).mono ?_); (case side1 => repeat (with_reducible first | exact HI0.out | refine Iz.below ?_ StB.b | apply Iz.set_1)); (case side2 => repeat (with_reducible first | exact HB.out | apply bwX | refine bwS ?_ (Iz.ge HI0.out))); rintro e w49 ⟨rfl, hi, hb, hk⟩; refine ⟨_, rfl, ?_⟩; have n0_ := Asd.mk (Kd.R_mono (Kd.R_keep (Iz.apart (show Iz w0 _ g s0_0 t370 from by repeat (with_reducible first | exact HI0.out | refine Iz.below ?_ StB.b | apply Iz.set_1)) (by (repeat apply Kd.RS); exact HO_7.out) (by decide)) hk (fun _ h => h.2)) (fun _ h => h.1)); have n1_ := Asd.mk (Kbt.trans (by repeat (with_reducible first | exact HK.out | apply Kbt.set_ | apply kpX)) hk (.inl rfl)); have n2_ := Asd.mk (hb); have n3_ := Asd.mk (hi); clear HO_7; clear HK; clear HB; clear HI0; have HO_7 := n0_; have HK := n1_; have HB := n2_; have HI0 := n3_; clear n0_ n1_ n2_ n3_; (try clear hb); (try clear hb2); (try clear hk); (try clear hi)))
       go_loopg [11] k1 (fun kq v11 w' => ∃ (x7_2 : List Int) (x11_2 : Int), v11 = .int .i64 x11_2 ∧ Asd (spec_l20Rank.l1 kq x7_2 ji5 x11_2 s0_0 t372 = some (r1, r2)) ∧ Asd (kq ≤ k1) ∧ Asd (Kd.R (Kd.int .i64) 3 w' w.heap.size (fun _ => True) (.slice (some ⟨go23, 0, none⟩) x7_1.length co23) x7_2) ∧ Asd (Iz w0 w' g s0_0 t372) ∧ Asd (Kbt w w' g none) ∧ Asd (Below w0.heap.size w0 w'))
       case atStart => exact ⟨(y368), (0), (by first | rfl | (simp; done) | (simp [*]; done)), H', ⟨Nat.le_refl _⟩, ⟨by (repeat apply Kd.RS); exact HO_7.out⟩, ⟨by repeat (with_reducible first | exact HI0.out | refine Iz.below ?_ StB.b | apply Iz.set_1)⟩, ⟨by repeat (with_reducible first | exact HK.out | apply Kbt.set_ | apply kpX)⟩, ⟨by repeat (with_reducible first | exact HB.out | apply bwX | refine bwS ?_ (Iz.ge HI0.out))⟩⟩
       case round =>
        clear H'
        obtain ⟨x7_2, x11_2, rfl, HA, HK2, HO_7, HI0, HK, HB⟩ := hrel
        have hl7_2 := (Kd.R_reads' HO_7.out).1
        rw [hl7_2] at HO_7
        (try simp only [hl7_2])
        cases gk with
        | zero => exact absurd HA.out (by simp [spec_l20Rank.l1])
        | succ k2 =>
         have H := HA.out
         clear HA
         simp only [spec_l20Rank.l1] at H
         by_cases c50 : x11_2 < ji5
         ·rw [if_pos c50] at H
          have c50b0 : decide (x11_2 < ji5) = true := decide_eq_true c50
          clear c50
          by_cases c51 : 0 ≤ x11_2; rotate_left; (rw [if_neg c51] at H; exact absurd H (by simp))
          rw [if_pos c51] at H
          have c51b0 : decide (0 ≤ x11_2) = true := decide_eq_true c51
          clear c51
          by_cases c52 : x11_2 < (x7_2.length : Int); rotate_left; (rw [if_neg c52] at H; exact absurd H (by simp))
          rw [if_pos c52] at H
          have c52b0 : decide (x11_2 < (x7_2.length : Int)) = true := decide_eq_true c52
          clear c52
          obtain ⟨y378, hy378⟩ : ∃ y_ : List Int, y_ = (x7_2.set (x11_2 : Int).toNat (wrap64 ((rd x7_2 x11_2) + 1))) := ⟨_, rfl⟩
          replace H : (spec_l20Rank.l1 k2 y378 ji5 (wrap64 (x11_2 + 1)) s0_0 t372) = some (r1, r2) := by first | (rw [hy378]; with_reducible exact H) | (have H2_ := (Option.bind_some _ _).symm.trans H; rw [hy378]; with_reducible exact H2_) | (have H2_ := (Option.bind_some _ _).symm.trans H; with_reducible exact H2_) | with_reducible exact H | (rw [hy378]; exact H) | exact H
          have Ny378 := Asd.mk hy378
          clear hy378
          have H' := Asd.mk H
          clear H
          have p377 : 0 ≤ (x11_2 : Int) := odt
          have q377 : x11_2 < (x7_2.length : Int) := odt
          obtain ⟨ad377, e377, hx377_0⟩ := Kd.at_int (Kd.R_reads' HO_7.out).2.2 x11_2 p377 q377
          obtain rfl : (⟨go23, 0, none⟩ : Addr) = ad377 := (by injection e377)
          (first | simp only [add_plain] at hx377_0 | simp only [add_at] at hx377_0 | simp only [Addr.add, Nat.zero_add] at hx377_0 | skip)
          replace p377 := eq_true p377
          replace q377 := eq_true q377
          have p53 : 0 ≤ (x11_2 : Int) := odt
          have q53 : (x11_2 : Int) < ((x7_2.length : Int) : Int) := odt
          obtain ⟨hx53_0, hf53_0⟩ := Kd.R_celln 0 HO_7.out (x11_2 : Int) p53 q53
          replace p53 := eq_true p53
          replace q53 := eq_true q53
          have HP54 := Kd.R_putg HO_7.out (x11_2 : Int) (wrap64 ((rd x7_2 x11_2) + 1))
          go_wp2_with (first | ((with_reducible refine gate_store (t := 3) (p := 54) rfl ?_); refine store_event (t := 3) (p := 54) (v := ?vo_w55) (w1 := (wr.setCell ⟨go23, (x11_2 : Int).toNat, none⟩ (.int .i64 (wrap64 ((rd x7_2 x11_2) + 1))))) ?hg ?ho ?hn ?hr ?_; (case ho => rfl); (case hg => rfl); (case hn => rfl); (case hr => first | (go_simp; done) | (go_simp; rfl)); intro w55 hw; have hg : wr.grownBy w55 (some go23) := (by rw [hw]; exact HP54.2); have hp_ : Kd.R (Kd.int .i64) 3 w55 w.heap.size (fun _ => True) (.slice (some ⟨go23, 0, none⟩) x7_2.length co23) y378 := (by rw [hw, Ny378.out]; exact HP54.1); clear HP54; have n0_ := Asd.mk (hp_); have n1_ := Asd.mk (Iz.grown (by repeat (with_reducible first | exact HI0.out | refine Iz.below ?_ StB.b | apply Iz.set_1)) hg (Iz.own_ne HI0.out HO_7.out (by decide))); have n2_ := Asd.mk ((by rw [hw]; exact bwS (HB.out) (Nat.le_trans HL.out GB23.out) : Below w0.heap.size w0 w55)); have n3_ := Asd.mk (Kbt.trans (by repeat (with_reducible first | exact HK.out | apply Kbt.set_ | apply kpX)) (Kbt.of_grown hg g) (Kd.R_base2 HO_7.out)); clear HO_7; clear HI0; clear HB; clear HK; have HO_7 := n0_; have HI0 := n1_; have HB := n2_; have HK := n3_; clear n0_ n1_ n2_ n3_; clear hg hw hp_))
          (try simp only [← hl7_2])
          go_roundg k2
          case measure => have := HK1.out; have := HK2.out; omega
          case rel => exact ⟨(y378), (wrap64 (x11_2 + 1)), (by first | rfl | (simp; done) | (simp [*]; done)), H', ⟨by have := HK1.out; have := HK2.out; omega⟩, ⟨by (try simp only [hl7_2]); (repeat apply Kd.RS); exact HO_7.out⟩, ⟨by repeat (with_reducible first | exact HI0.out | refine Iz.below ?_ StB.b | apply Iz.set_1)⟩, ⟨by repeat (with_reducible first | exact HK.out | apply Kbt.set_ | apply kpX)⟩, ⟨by repeat (with_reducible first | exact HB.out | apply bwX | refine bwS ?_ (Iz.ge HI0.out))⟩⟩
         ·rw [if_neg c50] at H
          have c50b0 : decide (x11_2 < ji5) = false := decide_eq_false c50
          clear c50
          simp only [Option.some.injEq, Prod.mk.injEq] at H
          obtain ⟨rfl, rfl⟩ := H
          go_wp2
          go_ret
          exact ⟨_, by first | rfl | (simp [errW_none, errW_some] <;> rfl) | (simp only [← hji5]; first | rfl | (simp [errW_none, errW_some] <;> rfl)) | (simp [*, errW_none, errW_some] <;> rfl), by (repeat apply Kd.RS); exact HO_7.out, by repeat (with_reducible first | exact HI0.out | refine Iz.below ?_ StB.b | apply Iz.set_1), by repeat (with_reducible first | exact HB.out | apply bwX | refine bwS ?_ (Iz.ge HI0.out)), by repeat (with_reducible first | exact HK.out | apply Kbt.set_ | apply kpX)⟩
    ·replace c25 := Bool.eq_false_iff.mpr c25
     subst c25
     rw [if_neg (show ¬ (false = true) by decide)] at H
     simp only [Option.some.injEq, Prod.mk.injEq] at H
     obtain ⟨rfl, rfl⟩ := H
     go_wp2_with (first | ((with_reducible refine gate_callee (f := 82) rfl ?_); refine gsL (some 35) rfl rfl Try.func82 (by kernel_rfl) rfl #[.pointer (some ⟨g, 0, none⟩), .int .i64 ji5] rfl (by (try simp only [List.map_toArray, List.map_cons, List.map_nil]); first | done | (simp only [hji5]; rfl) | rfl | (simp only [List.length_drop, List.length_take]; rfl)) ?_; (with_reducible refine (spec_l20Rd_pick.calls k1 g s0_0 x1001_1 ji5 t366 t367 w0 _ ?side1 ?side2 A20.out).mono ?_); (case side1 => repeat (with_reducible first | exact HI0.out | refine Iz.below ?_ StB.b | apply Iz.set_1)); (case side2 => repeat (with_reducible first | exact HB.out | apply bwX | refine bwS ?_ (Iz.ge HI0.out))); rintro e w56 ⟨rfl, hi, hb, hk⟩; refine ⟨_, rfl, ?_⟩; have n0_ := Asd.mk (Kd.R_mono (Kd.R_keep (Iz.apart (show Iz w0 _ g s0_0 x1001_1 from by repeat (with_reducible first | exact HI0.out | refine Iz.below ?_ StB.b | apply Iz.set_1)) (by (repeat apply Kd.RS); exact HO_7.out) (by decide)) hk (fun _ h => h.2)) (fun _ h => h.1)); have n1_ := Asd.mk (Kbt.trans (by repeat (with_reducible first | exact HK.out | apply Kbt.set_ | apply kpX)) hk (.inl rfl)); have n2_ := Asd.mk (hb); have n3_ := Asd.mk (hi); clear HO_7; clear HK; clear HB; clear HI0; have HO_7 := n0_; have HK := n1_; have HB := n2_; have HI0 := n3_; clear n0_ n1_ n2_ n3_; (try clear hb); (try clear hb2); (try clear hk); (try clear hi); have p23 : 0 ≤ (t366 : Int) := odt; have q23 : (t366 : Int) < ((x7_1.length : Int) : Int) := odt; obtain ⟨go23, co23, eo23, gb23, gl23, cl23, HG23⟩ := Kd.R_form HO_7.out (by omega); (first | cases eo23 | (injection eo23 with ea_ en_ ec_; (first | subst ea_ | (injection ea_ with ea_; subst ea_)); subst ec_; clear en_)); have GB23 := Asd.mk gb23; have GG23 := Asd.mk HG23; clear gb23 gl23 HG23; obtain ⟨hx23_0, hf23_0⟩ := Kd.R_celln 0 HO_7.out (t366 : Int) p23 q23; replace p23 := eq_true p23; replace q23 := eq_true q23; obtain ⟨hy57_, hz57_⟩ := Kd.R_celln 0 HO_7.out (t366 : Int) (odt) (odt); have HP57 := Kd.R_putg HO_7.out (t366 : Int) 0) | ((with_reducible refine gate_store (t := 3) (p := 36) rfl ?_); refine store_event (t := 3) (p := 36) (v := ?vo_w58) (w1 := (w56.setCell ⟨go23, (t366 : Int).toNat, none⟩ (.int .i64 0))) ?hg ?ho ?hn ?hr ?_; (case ho => rfl); (case hg => rfl); (case hn => rfl); (case hr => first | (go_simp; done) | (go_simp; rfl)); intro w58 hw; have hg : w56.grownBy w58 (some go23) := (by rw [hw]; exact HP57.2); have hp_ : Kd.R (Kd.int .i64) 3 w58 w.heap.size (fun _ => True) (.slice (some ⟨go23, 0, none⟩) x7_1.length co23) y368 := (by rw [hw, Ny368.out]; exact HP57.1); clear HP57; have n0_ := Asd.mk (hp_); have n1_ := Asd.mk (Iz.grown (by repeat (with_reducible first | exact HI0.out | refine Iz.below ?_ StB.b | apply Iz.set_1)) hg (Iz.own_ne HI0.out HO_7.out (by decide))); have n2_ := Asd.mk ((by rw [hw]; exact bwS (HB.out) (Nat.le_trans HL.out GB23.out) : Below w0.heap.size w0 w58)); have n3_ := Asd.mk (Kbt.trans (by repeat (with_reducible first | exact HK.out | apply Kbt.set_ | apply kpX)) (Kbt.of_grown hg g) (Kd.R_base2 HO_7.out)); clear HO_7; clear HI0; clear HB; clear HK; have HO_7 := n0_; have HI0 := n1_; have HB := n2_; have HK := n3_; clear n0_ n1_ n2_ n3_; clear hg hw hp_) | ((with_reducible refine gate_callee (f := 81) rfl ?_); refine gsM (some 39) rfl rfl Try.func81 (by kernel_rfl) rfl #[.pointer (some ⟨g, 0, none⟩), .int .i64 a2] rfl ?_; (with_reducible refine (spec_l20Rd_odd.calls k1 g s0_0 t367 a2 false t370 w0 _ ?side1 ?side2 A24.out).mono ?_); (case side1 => repeat (with_reducible first | exact HI0.out | refine Iz.below ?_ StB.b | apply Iz.set_1)); (case side2 => repeat (with_reducible first | exact HB.out | apply bwX | refine bwS ?_ (Iz.ge HI0.out))); rintro e w59 ⟨rfl, hi, hb, hk⟩; refine ⟨_, rfl, ?_⟩; have n0_ := Asd.mk (Kd.R_mono (Kd.R_keep (Iz.apart (show Iz w0 _ g s0_0 t367 from by repeat (with_reducible first | exact HI0.out | refine Iz.below ?_ StB.b | apply Iz.set_1)) (by (repeat apply Kd.RS); exact HO_7.out) (by decide)) hk (fun _ h => h.2)) (fun _ h => h.1)); have n1_ := Asd.mk (Kbt.trans (by repeat (with_reducible first | exact HK.out | apply Kbt.set_ | apply kpX)) hk (.inl rfl)); have n2_ := Asd.mk (hb); have n3_ := Asd.mk (hi); clear HO_7; clear HK; clear HB; clear HI0; have HO_7 := n0_; have HK := n1_; have HB := n2_; have HI0 := n3_; clear n0_ n1_ n2_ n3_; (try clear hb); (try clear hb2); (try clear hk); (try clear hi)))
     go_ret
     exact ⟨_, by first | rfl | (simp [errW_none, errW_some] <;> rfl) | (simp only [← hji5]; first | rfl | (simp [errW_none, errW_some] <;> rfl)) | (simp [*, errW_none, errW_some] <;> rfl), by (repeat apply Kd.RS); exact HO_7.out, by repeat (with_reducible first | exact HI0.out | refine Iz.below ?_ StB.b | apply Iz.set_1), by repeat (with_reducible first | exact HB.out | apply bwX | refine bwS ?_ (Iz.ge HI0.out)), by repeat (with_reducible first | exact HK.out | apply Kbt.set_ | apply kpX)⟩

end Go.Proofs.Ytihgpkohglcijaa.P
