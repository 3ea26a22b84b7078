-- Written by a program of this session (wip/hook.py), which runs the kit's printer; Lean checks it.
import Derived.Test.YtihgpkohglcijaaPx0
import Derived.Test.YtihgpkohglcijaaPx2
import Derived.Test.YtihgpkohglcijaaPx4
import Derived.Test.YtihgpkohglcijaaPx10
namespace Go.Proofs.Ytihgpkohglcijaa.P
open Go.RowKit Go.Proofs.YtihgpkohglcijaaW.PrintWords Go.Proofs.YtihgpkohglcijaaW.PrintLast Go.Proofs.YtihgpkohglcijaaW.PrintMore
attribute [local go_sem] max2_int min2_int max_two min_two max_three min_three max_four min_four   -- for this text's walks alone
set_option linter.unusedVariables false
set_option linter.unusedSimpArgs false

/-! ### spec_WorldsOf: function 131 -/
def spec_WorldsOf.f (a0 : Int) : Option (Int) := (spec_l1In.f a0 1 3).bind fun t360 => (if t360 = true then (if 0 ≤ a0 then (some (shl .i64 1 a0)) else (none)) else (some (-1)))
set_option maxHeartbeats 8000000 in
set_option maxRecDepth 100000 in
theorem spec_WorldsOf.calls (a0 : Int) (r : Int) (w : World) (h : spec_WorldsOf.f a0 = some r) :
  Calls Try.prog 131 #[.int .i64 a0] w fun e w' => e = .returned (.int .i64 r) ∧ Drawn0 w w' := by
 have H : ((spec_l1In.f a0 1 3).bind fun t360 => (if t360 = true then (if 0 ≤ a0 then (some (shl .i64 1 a0)) else (none)) else (some (-1)))) = some r := h
 clear h
 replace H := Option.bind_eq_some_iff.mp H
 obtain ⟨t360, A20, H⟩ := H
 try dsimp only at H
 have A2 := Asd.mk A20
 clear A20
 by_cases c3 : t360 = true
 ·subst c3
  rw [if_pos rfl] at H
  by_cases c4 : 0 ≤ a0; rotate_left; (rw [if_neg c4] at H; exact absurd H (by simp))
  rw [if_pos c4] at H
  have c4b0 := eq_true c4
  have c4b1 : decide (0 ≤ a0) = true := decide_eq_true c4
  clear c4
  obtain ⟨ji5, hji5⟩ : ∃ j_ : Int, (shl .i64 1 a0) = j_ := ⟨_, rfl⟩
  replace H : (some ji5) = some r := by first | (rw [hji5] at H; exact H) | (simp only [hji5] at H ⊢; exact H)
  (try rw [hji5] at A2)
  have hji5_ : (IntKind.i64.wrap (1 * 2 ^ min a0.toNat 64)) = ji5 := hji5
  have hji5z : a0 ≤ 64 → (IntKind.i64.wrap (1 * 2 ^ a0.toNat)) = ji5 := shl_small hji5
  have hji5u : (IntKind.i64.wrap (2 ^ min a0.toNat 64)) = ji5 := by have h_ := hji5_; rw [Int.one_mul] at h_; exact h_
  have hji5v : a0 ≤ 64 → (IntKind.i64.wrap (2 ^ a0.toNat)) = ji5 := fun hle_ => by have h_ := hji5z hle_; rw [Int.one_mul] at h_; exact h_
  have hji5y : (wrap64 (1 * 2 ^ min a0.toNat 64)) = ji5 := (i64_w _).symm.trans hji5_
  have hji5x : a0 ≤ 64 → (wrap64 (1 * 2 ^ a0.toNat)) = ji5 := fun h_ => (i64_w _).symm.trans (hji5z h_)
  obtain rfl := Option.some.inj H
  go_enter Try.func131, Try.ntmps131
  go_wp2_with (first | ((with_reducible refine gate_callee (f := 72) rfl ?_); refine gsM (some 4) rfl rfl Try.func72 (by kernel_rfl) rfl #[.int .i64 a0, .int .i64 1, .int .i64 3] rfl ?_; (with_reducible refine (spec_l1In.calls a0 1 3 true _ A2.out).mono ?_); rintro e w' ⟨rfl, ⟨nd, rfl⟩⟩; refine ⟨_, rfl, ?_⟩))
  go_ret
  exact ⟨by first | rfl | (simp; done) | (simp only [← hji5] <;> (first | rfl | simp)) | (simp [*]; done), by repeat (first | exact Drawn0.refl _ | apply Drawn0.step)⟩
 ·replace c3 := Bool.eq_false_iff.mpr c3
  subst c3
  rw [if_neg (show ¬ (false = true) by decide)] at H
  obtain rfl := Option.some.inj H
  go_enter Try.func131, Try.ntmps131
  go_wp2_with (first | ((with_reducible refine gate_callee (f := 72) rfl ?_); refine gsM (some 4) rfl rfl Try.func72 (by kernel_rfl) rfl #[.int .i64 a0, .int .i64 1, .int .i64 3] rfl ?_; (with_reducible refine (spec_l1In.calls a0 1 3 false _ A2.out).mono ?_); rintro e w' ⟨rfl, ⟨nd, rfl⟩⟩; refine ⟨_, rfl, ?_⟩))
  go_ret
  exact ⟨by first | rfl | (simp; done) | (simp [*]; done), by repeat (first | exact Drawn0.refl _ | apply Drawn0.step)⟩

/-! ### spec_l20Rank: function 103 -/
mutual
def spec_l20Rank.l0 : Nat → Int → List Int → Int → Int → Int → List Int → Int → Option (List Int × Int)
 | 0, _, _, _, _, _, _, _ => none
 | k + 1, x2, x7, x8, x9, x10, x1000, x1001 => if x10 < x8 then ((some (([2, 4, 10] : List Int) : List Int)).bind fun y367 => (if 0 ≤ x9 then (if x9 < (y367.length : Int) then ((spec_l20Rd_pick.f k x1000 x1001 (rd y367 x9)).bind fun bt371 => (if x7.length < 17592186044416 then (spec_l20Rank.l0 k x2 (x7 ++ [bt371.1]) x8 x9 (wrap64 (x10 + 1)) x1000 bt371.2) else (none))) else (none)) else (none))) else ((spec_l20Rd_pick.f k x1000 x1001 x8).bind fun bt376 => (if 0 ≤ bt376.1 then (if bt376.1 < (x7.length : Int) then ((some (x7.set (bt376.1 : Int).toNat 0 : List Int)).bind fun y378 => ((spec_l20Rd_odd.f k x1000 bt376.2 x2).bind fun bt379 => (if bt379.1 = true then ((spec_l20Rd_pick.f k x1000 bt379.2 3).bind fun bt381 => (if bt381.1 = 0 then (if y378.length < 17592186044416 then (some ((y378 ++ [0]), bt381.2)) else (none)) else (if bt381.1 = 1 then (if 0 < (x7.length : Int) then (some ((y378.set (0 : Int).toNat (-1)), bt381.2)) else (none)) else (spec_l20Rank.l1 k y378 x8 0 x1000 bt381.2)))) else (some (y378, bt379.2))))) else (none)) else (none)))
def spec_l20Rank.l1 : Nat → List Int → Int → Int → List Int → Int → Option (List Int × Int)
 | 0, _, _, _, _, _ => none
 | k + 1, x7, x8, x11, x1000, x1001 => if x11 < x8 then (if 0 ≤ x11 then (if x11 < (x7.length : Int) then (spec_l20Rank.l1 k (x7.set (x11 : Int).toNat (wrap64 ((rd x7 x11) + 1))) x8 (wrap64 (x11 + 1)) x1000 x1001) else (none)) else (none)) else (some (x7, x1001))
end
def spec_l20Rank.f (k : Nat) (s0_0 : List Int) (s0_1 : Int) (a1 : Int) (a2 : Int) : Option (List Int × Int) := (spec_WorldsOf.f a1).bind fun t364 => ((spec_l20Rd_pick.f k s0_0 s0_1 3).bind fun bt365 => (spec_l20Rank.l0 k a2 (([] : List Int)) (mx t364 1) bt365.1 0 s0_0 bt365.2))
theorem spec_l20Rank.mono_l : ∀ k, (∀ y0 y1 y2 y3 y4 y5 y6, LeO (spec_l20Rank.l0 k y0 y1 y2 y3 y4 y5 y6) (spec_l20Rank.l0 (k + 1) y0 y1 y2 y3 y4 y5 y6)) ∧ (∀ y0 y1 y2 y3 y4, LeO (spec_l20Rank.l1 k y0 y1 y2 y3 y4) (spec_l20Rank.l1 (k + 1) y0 y1 y2 y3 y4))
 | 0 => ⟨fun _ _ _ _ _ _ _ r h => by simp [spec_l20Rank.l0] at h, fun _ _ _ _ _ r h => by simp [spec_l20Rank.l1] at h⟩
 | k + 1 => by
  obtain ⟨ih0, ih1⟩ := spec_l20Rank.mono_l k
  refine ⟨?_, ?_⟩
  ·intro y0 y1 y2 y3 y4 y5 y6
   unfold spec_l20Rank.l0
   repeat' first
   | (with_reducible exact ih0 _ _ _ _ _ _ _)
   | (with_reducible exact ih1 _ _ _ _ _)
   | (with_reducible exact spec_l20Rd_odd.mono _ _ _ _)
   | (with_reducible exact spec_l20Rd_pick.mono _ _ _ _)
   | (with_reducible exact LeO.refl _)
   | (with_reducible exact LeO.none _)
   | (with_reducible refine LeO.ite ?_ ?_)
   | (with_reducible refine LeO.bind ?_ (fun _ => ?_))
   | refine LeO.ite ?_ ?_
   | refine LeO.bind ?_ (fun _ => ?_)
  ·intro y0 y1 y2 y3 y4
   unfold spec_l20Rank.l1
   repeat' first
   | (with_reducible exact ih0 _ _ _ _ _ _ _)
   | (with_reducible exact ih1 _ _ _ _ _)
   | (with_reducible exact spec_l20Rd_odd.mono _ _ _ _)
   | (with_reducible exact spec_l20Rd_pick.mono _ _ _ _)
   | (with_reducible exact LeO.refl _)
   | (with_reducible exact LeO.none _)
   | (with_reducible refine LeO.ite ?_ ?_)
   | (with_reducible refine LeO.bind ?_ (fun _ => ?_))
   | refine LeO.ite ?_ ?_
   | refine LeO.bind ?_ (fun _ => ?_)
theorem spec_l20Rank.mono : ∀ a0 a1 a2 a3 k, LeO (spec_l20Rank.f k a0 a1 a2 a3) (spec_l20Rank.f (k + 1) a0 a1 a2 a3) := by
 intro a0 a1 a2 a3 k
 obtain ⟨ih0, ih1⟩ := spec_l20Rank.mono_l k
 unfold spec_l20Rank.f
 repeat' first
   | (with_reducible exact ih0 _ _ _ _ _ _ _)
   | (with_reducible exact ih1 _ _ _ _ _)
   | (with_reducible exact spec_l20Rd_odd.mono _ _ _ _)
   | (with_reducible exact spec_l20Rd_pick.mono _ _ _ _)
   | (with_reducible exact LeO.refl _)
   | (with_reducible exact LeO.none _)
   | (with_reducible refine LeO.ite ?_ ?_)
   | (with_reducible refine LeO.bind ?_ (fun _ => ?_))
   | refine LeO.ite ?_ ?_
   | refine LeO.bind ?_ (fun _ => ?_)
set_option maxHeartbeats 8000000 in
set_option maxRecDepth 100000 in
theorem spec_l20Rank.calls (k : Nat) (g : Nat) (s0_0 : List Int) (s0_1 : Int) (a1 : Int) (a2 : Int) (r1 : List Int) (r2 : Int) (w0 w : World) (hI : Iz w0 w g s0_0 s0_1) (hB : Below w0.heap.size w0 w) (h : spec_l20Rank.f k s0_0 s0_1 a1 a2 = some (r1, r2)) :
  Calls Try.prog 103 #[.pointer (some ⟨g, 0, none⟩), .int .i64 a1, .int .i64 a2] w fun e w' => ∃ v0_ : Value, e = .returned (v0_) ∧ Kd.R (Kd.int .i64) 3 w' w.heap.size (fun _ => True) v0_ r1 ∧ Iz w0 w' g s0_0 r2 ∧ Below w0.heap.size w0 w' ∧ Kbt w w' g none := by
 have HI0 := Asd.mk hI
 have HK := Asd.mk (Kbt.refl w g none)
 have HL := Asd.mk hB.size
 clear hI
 have HW0 := Asd.mk hB.size
 have HB := Asd.mk hB
 clear hB
 have H : ((spec_WorldsOf.f a1).bind fun t364 => ((spec_l20Rd_pick.f k s0_0 s0_1 3).bind fun bt365 => (spec_l20Rank.l0 k a2 (([] : List Int)) (mx t364 1) bt365.1 0 s0_0 bt365.2))) = some (r1, r2) := h
 clear h
 obtain ⟨y361, hy361⟩ : ∃ y_ : List Int, y_ = (([] : List Int)) := ⟨_, rfl⟩
 replace H : ((spec_WorldsOf.f a1).bind fun t364 => ((spec_l20Rd_pick.f k s0_0 s0_1 3).bind fun bt365 => (spec_l20Rank.l0 k a2 y361 (mx t364 1) bt365.1 0 s0_0 bt365.2))) = some (r1, r2) := by first | (rw [hy361]; with_reducible exact H) | (have H2_ := (Option.bind_some _ _).symm.trans H; rw [hy361]; with_reducible exact H2_) | (have H2_ := (Option.bind_some _ _).symm.trans H; with_reducible exact H2_) | with_reducible exact H | (rw [hy361]; exact H) | exact H
 have Ny361 := Asd.mk hy361
 clear hy361
 replace H := Option.bind_eq_some_iff.mp H
 obtain ⟨t364, A40, H⟩ := H
 try dsimp only at H
 have A4 := Asd.mk A40
 clear A40
 obtain ⟨ji5, hji5⟩ : ∃ j_ : Int, (mx t364 1) = j_ := ⟨_, rfl⟩
 replace H : ((spec_l20Rd_pick.f k s0_0 s0_1 3).bind fun bt365 => (spec_l20Rank.l0 k a2 y361 ji5 bt365.1 0 s0_0 bt365.2)) = some (r1, r2) := by first | (rw [hji5] at H; exact H) | (simp only [hji5] at H ⊢; exact H)
 (try rw [hji5] at A4)
 (try (have hji5l : 1 ≤ ji5 := by (rw [← hji5]; unfold mx; (repeat' split) <;> omega)))
 (try (have hji5m : 0 ≤ ji5 := by omega))
 have hji5_ : (if t364 < 1 then 1 else t364) = ji5 := hji5
 replace H := Option.bind_eq_some_iff.mp H
 obtain ⟨⟨t365, t366⟩, A60, H⟩ := H
 try dsimp only at H
 have A6 := Asd.mk A60
 clear A60
 have H' := Asd.mk H
 clear H
 go_enter Try.func103, Try.ntmps103
 go_wp2_with (first | ((with_reducible refine gate_dst (N := 12) rfl ?_); refine Kd.R_lit (Kd.int .i64) _ 3 ?hg (N := 12) ?hd (xs := ([] : List Int)) (inner := []) (ok := fun _ => True) (okp := fun _ => True) ?hr ?hp (fun _ hk => hk) trivial (Below.refl _ _) (Nat.le_refl _) (by simp) ?_; (case hd => rfl); (case hg => rfl); (case hr => first | (go_simp; done) | (go_simp; rfl)); (case hp => exact (Reps.none _ _)); intro v362 w7 ho8 hb hg_ hnew_; clear hg_ hnew_; (first | rw [← Ny361.out] at ho8 | (simp only [Int.reduceToNat] at ho8; rw [← Ny361.out] at ho8)); have n0_ := Asd.mk (Kd.R_lower ho8 (kpZ (w := w) (g := g) (row := none) (by repeat (with_reducible first | exact HK.out | apply Kbt.set_ | apply kpX)))); have n1_ := Asd.mk (Iz.below (by repeat (with_reducible first | exact HI0.out | refine Iz.below ?_ StB.b | apply Iz.set_1)) hb); have n2_ := Asd.mk (Kbt.trans (by repeat (with_reducible first | exact HK.out | apply Kbt.set_ | apply kpX)) (Kbt.of_below hb g none) (.inl rfl)); have n3_ := Asd.mk (bwP (by repeat (with_reducible first | exact HB.out | apply bwX | refine bwS ?_ (Iz.ge HI0.out))) hb); clear HI0; clear HK; clear HB; have HO363 := n0_; have HI0 := n1_; have HK := n2_; have HB := n3_; clear n0_ n1_ n2_ n3_; clear hb ho8) | ((with_reducible refine gate_callee (f := 131) rfl ?_); refine gsM (some 14) rfl rfl Try.func131 (by kernel_rfl) rfl #[.int .i64 a1] rfl ?_; (with_reducible refine (spec_WorldsOf.calls a1 t364 _ A4.out).mono ?_); rintro e w' ⟨rfl, ⟨nd, rfl⟩⟩; refine ⟨_, rfl, ?_⟩) | ((with_reducible refine gate_callee (f := 82) rfl ?_); refine gsM (some 17) rfl rfl Try.func82 (by kernel_rfl) rfl #[.pointer (some ⟨g, 0, none⟩), .int .i64 3] rfl ?_; (with_reducible refine (spec_l20Rd_pick.calls k g s0_0 s0_1 3 t365 t366 w0 _ ?side1 ?side2 A6.out).mono ?_); (case side1 => repeat (with_reducible first | exact HI0.out | refine Iz.below ?_ StB.b | apply Iz.set_1)); (case side2 => repeat (with_reducible first | exact HB.out | apply bwX | refine bwS ?_ (Iz.ge HI0.out))); rintro e w9 ⟨rfl, hi, hb, hk⟩; refine ⟨_, rfl, ?_⟩; have n0_ := Asd.mk (Kd.R_mono (Kd.R_keep (Iz.apart (show Iz w0 _ g s0_0 s0_1 from by repeat (with_reducible first | exact HI0.out | refine Iz.below ?_ StB.b | apply Iz.set_1)) (by (repeat apply Kd.RS); exact HO363.out) (by decide)) hk (fun _ h => h.2)) (fun _ h => h.1)); have n1_ := Asd.mk (Kbt.trans (by repeat (with_reducible first | exact HK.out | apply Kbt.set_ | apply kpX)) hk (.inl rfl)); have n2_ := Asd.mk (hb); have n3_ := Asd.mk (hi); clear HO363; clear HK; clear HB; clear HI0; have HO363 := n0_; have HK := n1_; have HB := n2_; have HI0 := n3_; clear n0_ n1_ n2_ n3_; (try clear hb); (try clear hb2); (try clear hk); (try clear hi)))
 go_loopg [7, 10] k (fun kq v7 v10 w' => ∃ (x7_1 : List Int) (x10_1 : Int) (x1001_1 : Int), v10 = .int .i64 x10_1 ∧ Asd (spec_l20Rank.l0 kq a2 x7_1 ji5 t365 x10_1 s0_0 x1001_1 = some (r1, r2)) ∧ Asd (kq ≤ k) ∧ Asd (Kd.R (Kd.int .i64) 3 w' w.heap.size (fun _ => True) v7 x7_1) ∧ Asd (Iz w0 w' g s0_0 x1001_1) ∧ Asd (Kbt w w' g none) ∧ Asd (Below w0.heap.size w0 w'))
 case atStart => exact ⟨(y361), (0), (t366), (by first | rfl | (simp; done) | (simp [*]; done)), H', ⟨Nat.le_refl _⟩, ⟨by (repeat apply Kd.RS); exact HO363.out⟩, ⟨by repeat (with_reducible first | exact HI0.out | refine Iz.below ?_ StB.b | apply Iz.set_1)⟩, ⟨by repeat (with_reducible first | exact HK.out | apply Kbt.set_ | apply kpX)⟩, ⟨by repeat (with_reducible first | exact HB.out | apply bwX | refine bwS ?_ (Iz.ge HI0.out))⟩⟩
 case round =>
  clear H'
  obtain ⟨x7_1, x10_1, x1001_1, rfl, HA, HK1, HO_7, HI0, HK, HB⟩ := hrel
  cases gk with
  | zero => exact absurd HA.out (by simp [spec_l20Rank.l0])
  | succ k1 =>
   have H := HA.out
   clear HA
   simp only [spec_l20Rank.l0] at H
   by_cases c10 : x10_1 < ji5
   ·rw [if_pos c10] at H
    have c10b0 : decide (x10_1 < ji5) = true := decide_eq_true c10
    clear c10
    obtain ⟨y367, hy367⟩ : ∃ y_ : List Int, y_ = (([2, 4, 10] : List Int)) := ⟨_, rfl⟩
    replace H : (if 0 ≤ t365 then (if t365 < (y367.length : Int) then ((spec_l20Rd_pick.f k1 s0_0 x1001_1 (rd y367 t365)).bind fun bt371 => (if x7_1.length < 17592186044416 then (spec_l20Rank.l0 k1 a2 (x7_1 ++ [bt371.1]) ji5 t365 (wrap64 (x10_1 + 1)) s0_0 bt371.2) else (none))) else (none)) else (none)) = some (r1, r2) := by first | (rw [hy367]; with_reducible exact H) | (have H2_ := (Option.bind_some _ _).symm.trans H; rw [hy367]; with_reducible exact H2_) | (have H2_ := (Option.bind_some _ _).symm.trans H; with_reducible exact H2_) | with_reducible exact H | (rw [hy367]; exact H) | exact H
    have Ny367 := Asd.mk hy367
    clear hy367
    by_cases c11 : 0 ≤ t365; rotate_left; (rw [if_neg c11] at H; exact absurd H (by simp))
    rw [if_pos c11] at H
    have c11b0 : decide (0 ≤ t365) = true := decide_eq_true c11
    clear c11
    by_cases c12 : t365 < (y367.length : Int); rotate_left; (rw [if_neg c12] at H; exact absurd H (by simp))
    rw [if_pos c12] at H
    have c12b0 : decide (t365 < (y367.length : Int)) = true := decide_eq_true c12
    clear c12
    replace H := Option.bind_eq_some_iff.mp H
    obtain ⟨⟨t371, t372⟩, A130, H⟩ := H
    try dsimp only at H
    have A13 := Asd.mk A130
    clear A130
    by_cases c14 : x7_1.length < 17592186044416; rotate_left; (rw [if_neg c14] at H; exact absurd H (by simp))
    rw [if_pos c14] at H
    have LMc14 := Asd.mk c14
    clear c14
    obtain ⟨y373, hy373⟩ : ∃ y_ : List Int, y_ = (x7_1 ++ [t371]) := ⟨_, rfl⟩
    replace H : (spec_l20Rank.l0 k1 a2 y373 ji5 t365 (wrap64 (x10_1 + 1)) s0_0 t372) = some (r1, r2) := by first | (rw [hy373]; with_reducible exact H) | (have H2_ := (Option.bind_some _ _).symm.trans H; rw [hy373]; with_reducible exact H2_) | (have H2_ := (Option.bind_some _ _).symm.trans H; with_reducible exact H2_) | with_reducible exact H | (rw [hy373]; exact H) | exact H
    have Ny373 := Asd.mk hy373
    clear hy373
    have H' := Asd.mk H
    clear H
    go_wp2_with (first | ((with_reducible refine gate_dst (N := 25) rfl ?_); refine Kd.R_lit (Kd.int .i64) _ 3 ?hg (N := 25) ?hd (xs := ([2, 4, 10] : List Int)) (inner := [.int .i64 2, .int .i64 4, .int .i64 10]) (ok := fun _ => True) (okp := fun _ => True) ?hr ?hp (fun _ hk => hk) trivial (Below.refl _ _) (Nat.le_refl _) (by simp) ?_; (case hd => rfl); (case hg => rfl); (case hr => first | (go_simp; done) | (go_simp; rfl)); (case hp => exact (Reps.one (show Kd.M (Kd.int .i64) _ _ _ 2 [.int .i64 2] from rfl) (Reps.one (show Kd.M (Kd.int .i64) _ _ _ 4 [.int .i64 4] from rfl) (Reps.one (show Kd.M (Kd.int .i64) _ _ _ 10 [.int .i64 10] from rfl) (Reps.none _ _))))); intro v368 w15 ho16 hb hg_ hnew_; clear hg_ hnew_; (first | rw [← Ny367.out] at ho16 | (simp only [Int.reduceToNat] at ho16; rw [← Ny367.out] at ho16)); have n0_ := Asd.mk (Kd.R_elder' (by (repeat apply Kd.RS); exact HO_7.out) (Kd.R_base ho16) hb); have n1_ := Asd.mk (Kd.R_lower (Kd.R_new' ho16 (Kd.R_lt (by (repeat apply Kd.RS); exact HO_7.out))) (kpZ (w := w) (g := g) (row := none) (by repeat (with_reducible first | exact HK.out | apply Kbt.set_ | apply kpX)))); have n2_ := Asd.mk (Iz.below (by repeat (with_reducible first | exact HI0.out | refine Iz.below ?_ StB.b | apply Iz.set_1)) hb); have n3_ := Asd.mk (Kbt.trans (by repeat (with_reducible first | exact HK.out | apply Kbt.set_ | apply kpX)) (Kbt.of_below hb g none) (.inl rfl)); have n4_ := Asd.mk (bwP (by repeat (with_reducible first | exact HB.out | apply bwX | refine bwS ?_ (Iz.ge HI0.out))) hb); clear HO_7; clear HI0; clear HK; clear HB; have HO_7 := n0_; have HO369 := n1_; have HI0 := n2_; have HK := n3_; have HB := n4_; clear n0_ n1_ n2_ n3_ n4_; clear hb ho16; obtain ⟨Ao17, co17, eo17⟩ := Kd.R_slice HO369.out; subst eo17; have p370 : 0 ≤ (t365 : Int) := odt; have q370 : t365 < (y367.length : Int) := odt; obtain ⟨ad370, e370, hx370_0⟩ := Kd.at_int (Kd.R_reads' HO369.out).2.2 t365 p370 q370; cases e370; replace p370 := eq_true p370; replace q370 := eq_true q370) | ((with_reducible refine gate_callee (f := 82) rfl ?_); refine gsM (some 29) rfl rfl Try.func82 (by kernel_rfl) rfl #[.pointer (some ⟨g, 0, none⟩), .int .i64 (rd y367 t365)] rfl ?_; (with_reducible refine (spec_l20Rd_pick.calls k1 g s0_0 x1001_1 (rd y367 t365) t371 t372 w0 _ ?side1 ?side2 A13.out).mono ?_); (case side1 => repeat (with_reducible first | exact HI0.out | refine Iz.below ?_ StB.b | apply Iz.set_1)); (case side2 => repeat (with_reducible first | exact HB.out | apply bwX | refine bwS ?_ (Iz.ge HI0.out))); rintro e w18 ⟨rfl, hi, hb, hk⟩; refine ⟨_, rfl, ?_⟩; have n0_ := Asd.mk (Kd.R_mono (Kd.R_keep (Iz.apart (show Iz w0 _ g s0_0 x1001_1 from by repeat (with_reducible first | exact HI0.out | refine Iz.below ?_ StB.b | apply Iz.set_1)) (by (repeat apply Kd.RS); exact HO_7.out) (by decide)) hk (fun _ h => h.2)) (fun _ h => h.1)); have n1_ := Asd.mk (Kd.R_mono (Kd.R_keep (Iz.apart (show Iz w0 _ g s0_0 x1001_1 from by repeat (with_reducible first | exact HI0.out | refine Iz.below ?_ StB.b | apply Iz.set_1)) (by (repeat apply Kd.RS); exact HO369.out) (by decide)) hk (fun _ h => h.2)) (fun _ h => h.1)); have n2_ := Asd.mk (Kbt.trans (by repeat (with_reducible first | exact HK.out | apply Kbt.set_ | apply kpX)) hk (.inl rfl)); have n3_ := Asd.mk (hb); have n4_ := Asd.mk (hi); clear HO_7; clear HO369; clear HK; clear HB; clear HI0; have HO_7 := n0_; have HO369 := n1_; have HK := n2_; have HB := n3_; have HI0 := n4_; clear n0_ n1_ n2_ n3_ n4_; (try clear hb); (try clear hb2); (try clear hk); (try clear hi)) | ((with_reducible refine gate_builtin (b := .append) (xs := #[.tmp 23, .tmp 30]) rfl ?_); at_builtin; refine Kd.R_append (Kd.int .i64) w.heap.size rfl (.tmp 23) (.tmp 30) 55 3 (.int .i64 0) 8 rfl Try.underlying55 info3 rfl (by decide) (by omega) u7 x7_1 t371 [.int .i64 t371] (fun k_ => some k_ ≠ (.slice (some ad370) y367.length co17 : Value).ownBlock) (fun _ => False) rfl rfl ?aP (fun _ hk => hk.elim) ?aF ?aO (Below.refl _ _) ?aS ?aL ?_; (case aP => exact rfl); (case aF => exact (fun k_ hk => Kd.fresh' (Kd.R_lt (by (repeat apply Kd.RS); exact HO369.out)) k_ hk)); (case aO => exact (by (repeat apply Kd.RS); exact Kd.R_mono HO_7.out (fun _ hk => hk.2))); (case aS => exact (kpZ (w := w) (g := g) (row := none) (by repeat (with_reducible first | exact HK.out | apply Kbt.set_ | apply kpX)))); (case aL => have := LMc14.out; omega); intro v374 w19 ho hb hg hat; rw [← Ny373.out] at ho; have n0_ := Asd.mk (Iz.grown (by repeat (with_reducible first | exact HI0.out | refine Iz.below ?_ StB.b | apply Iz.set_1)) hg (Iz.own_ne HI0.out HO_7.out (by decide))); have n1_ := Asd.mk (Kd.R_after (ok := (fun _ => True)) (by (repeat apply Kd.RS); exact HO369.out) hg hat); have n2_ := Asd.mk (below_weaken (by repeat (with_reducible first | exact HB.out | apply bwX | refine bwS ?_ (Iz.ge HI0.out))) HL.out hb); have n3_ := Asd.mk (Kbt.trans (by repeat (with_reducible first | exact HK.out | apply Kbt.set_ | apply kpX)) (Kbt.of_grown hg g) (Kd.R_base2 HO_7.out)); have n4_ := Asd.mk (ho); clear HI0; clear HO369; clear HB; clear HK; clear HO_7; have HI0 := n0_; have HO369 := n1_; have HB := n2_; have HK := n3_; have HO375 := n4_; clear n0_ n1_ n2_ n3_ n4_; clear ho hb hg hat))
    go_roundg k1
    case measure => have := HK1.out; omega
    case rel => exact ⟨(y373), (wrap64 (x10_1 + 1)), (t372), (by first | rfl | (simp; done) | (simp [*]; done)), H', ⟨by have := HK1.out; omega⟩, ⟨by (repeat apply Kd.RS); exact Kd.R_mono HO375.out (fun _ hk => trivial)⟩, ⟨by repeat (with_reducible first | exact HI0.out | refine Iz.below ?_ StB.b | apply Iz.set_1)⟩, ⟨by repeat (with_reducible first | exact HK.out | apply Kbt.set_ | apply kpX)⟩, ⟨by repeat (with_reducible first | exact HB.out | apply bwX | refine bwS ?_ (Iz.ge HI0.out))⟩⟩
   ·rw [if_neg c10] at H
    have c10b0 : decide (x10_1 < ji5) = false := decide_eq_false c10
    clear c10
    replace H := Option.bind_eq_some_iff.mp H
    obtain ⟨⟨t376, t377⟩, A200, H⟩ := H
    try dsimp only at H
    have A20 := Asd.mk A200
    clear A200
    by_cases c21 : 0 ≤ t376; rotate_left; (rw [if_neg c21] at H; exact absurd H (by simp))
    rw [if_pos c21] at H
    have c21b0 : decide (0 ≤ t376) = true := decide_eq_true c21
    clear c21
    by_cases c22 : t376 < (x7_1.length : Int); rotate_left; (rw [if_neg c22] at H; exact absurd H (by simp))
    rw [if_pos c22] at H
    have c22b0 : decide (t376 < (x7_1.length : Int)) = true := decide_eq_true c22
    clear c22
    obtain ⟨y378, hy378⟩ : ∃ y_ : List Int, y_ = (x7_1.set (t376 : Int).toNat 0) := ⟨_, rfl⟩
    replace H : ((spec_l20Rd_odd.f k1 s0_0 t377 a2).bind fun bt379 => (if bt379.1 = true then ((spec_l20Rd_pick.f k1 s0_0 bt379.2 3).bind fun bt381 => (if bt381.1 = 0 then (if y378.length < 17592186044416 then (some ((y378 ++ [0]), bt381.2)) else (none)) else (if bt381.1 = 1 then (if 0 < (x7_1.length : Int) then (some ((y378.set (0 : Int).toNat (-1)), bt381.2)) else (none)) else (spec_l20Rank.l1 k1 y378 ji5 0 s0_0 bt381.2)))) else (some (y378, bt379.2)))) = some (r1, r2) := by first | (rw [hy378]; with_reducible exact H) | (have H2_ := (Option.bind_some _ _).symm.trans H; rw [hy378]; with_reducible exact H2_) | (have H2_ := (Option.bind_some _ _).symm.trans H; with_reducible exact H2_) | with_reducible exact H | (rw [hy378]; exact H) | exact H
    have Ny378 := Asd.mk hy378
    clear hy378
    replace H := Option.bind_eq_some_iff.mp H
    obtain ⟨⟨t379, t380⟩, A240, H⟩ := H
    try dsimp only at H
    have A24 := Asd.mk A240
    clear A240
    by_cases c25 : t379 = true
    ·subst c25
     rw [if_pos rfl] at H
     replace H := Option.bind_eq_some_iff.mp H
     obtain ⟨⟨t381, t382⟩, A260, H⟩ := H
     try dsimp only at H
     have A26 := Asd.mk A260
     clear A260
     by_cases c27 : t381 = 0
     ·rw [if_pos c27] at H
      have c27b0 : (t381 == 0) = true := beq_iff_eq.mpr c27
      have c27b1 : (t381 != 0) = false := bne_eq_false_iff_eq.mpr c27
      clear c27
      by_cases c28 : y378.length < 17592186044416; rotate_left; (rw [if_neg c28] at H; exact absurd H (by simp))
      rw [if_pos c28] at H
      have LMc28 := Asd.mk c28
      clear c28
      obtain ⟨y383, hy383⟩ : ∃ y_ : List Int, y_ = (y378 ++ [0]) := ⟨_, rfl⟩
      replace H : (some (y383, t382)) = some (r1, r2) := by first | (rw [hy383]; with_reducible exact H) | (have H2_ := (Option.bind_some _ _).symm.trans H; rw [hy383]; with_reducible exact H2_) | (have H2_ := (Option.bind_some _ _).symm.trans H; with_reducible exact H2_) | with_reducible exact H | (rw [hy383]; exact H) | exact H
      have Ny383 := Asd.mk hy383
      clear hy383
      simp only [Option.some.injEq, Prod.mk.injEq] at H
      obtain ⟨rfl, rfl⟩ := H
      go_wp2_with (first | ((with_reducible refine gate_callee (f := 82) rfl ?_); refine gsL (some 35) rfl rfl Try.func82 (by kernel_rfl) rfl #[.pointer (some ⟨g, 0, none⟩), .int .i64 ji5] rfl (by (try simp only [List.map_toArray, List.map_cons, List.map_nil]); first | done | (simp only [hji5]; rfl) | rfl | (simp only [List.length_drop, List.length_take]; rfl)) ?_; (with_reducible refine (spec_l20Rd_pick.calls k1 g s0_0 x1001_1 ji5 t376 t377 w0 _ ?side1 ?side2 A20.out).mono ?_); (case side1 => repeat (with_reducible first | exact HI0.out | refine Iz.below ?_ StB.b | apply Iz.set_1)); (case side2 => repeat (with_reducible first | exact HB.out | apply bwX | refine bwS ?_ (Iz.ge HI0.out))); rintro e w29 ⟨rfl, hi, hb, hk⟩; refine ⟨_, rfl, ?_⟩; have n0_ := Asd.mk (Kd.R_mono (Kd.R_keep (Iz.apart (show Iz w0 _ g s0_0 x1001_1 from by repeat (with_reducible first | exact HI0.out | refine Iz.below ?_ StB.b | apply Iz.set_1)) (by (repeat apply Kd.RS); exact HO_7.out) (by decide)) hk (fun _ h => h.2)) (fun _ h => h.1)); have n1_ := Asd.mk (Kbt.trans (by repeat (with_reducible first | exact HK.out | apply Kbt.set_ | apply kpX)) hk (.inl rfl)); have n2_ := Asd.mk (hb); have n3_ := Asd.mk (hi); clear HO_7; clear HK; clear HB; clear HI0; have HO_7 := n0_; have HK := n1_; have HB := n2_; have HI0 := n3_; clear n0_ n1_ n2_ n3_; (try clear hb); (try clear hb2); (try clear hk); (try clear hi); have p23 : 0 ≤ (t376 : Int) := odt; have q23 : (t376 : Int) < ((x7_1.length : Int) : Int) := odt; obtain ⟨go23, co23, eo23, gb23, gl23, cl23, HG23⟩ := Kd.R_form HO_7.out (by omega); (first | cases eo23 | (injection eo23 with ea_ en_ ec_; (first | subst ea_ | (injection ea_ with ea_; subst ea_)); subst ec_; clear en_)); have GB23 := Asd.mk gb23; have GG23 := Asd.mk HG23; clear gb23 gl23 HG23; obtain ⟨hx23_0, hf23_0⟩ := Kd.R_celln 0 HO_7.out (t376 : Int) p23 q23; replace p23 := eq_true p23; replace q23 := eq_true q23; obtain ⟨hy30_, hz30_⟩ := Kd.R_celln 0 HO_7.out (t376 : Int) (odt) (odt); have HP30 := Kd.R_putg HO_7.out (t376 : Int) 0) | ((with_reducible refine gate_store (t := 3) (p := 36) rfl ?_); refine store_event (t := 3) (p := 36) (v := ?vo_w31) (w1 := (w29.setCell ⟨go23, (t376 : Int).toNat, none⟩ (.int .i64 0))) ?hg ?ho ?hn ?hr ?_; (case ho => rfl); (case hg => rfl); (case hn => rfl); (case hr => first | (go_simp; done) | (go_simp; rfl)); intro w31 hw; have hg : w29.grownBy w31 (some go23) := (by rw [hw]; exact HP30.2); have hp_ : Kd.R (Kd.int .i64) 3 w31 w.heap.size (fun _ => True) (.slice (some ⟨go23, 0, none⟩) x7_1.length co23) y378 := (by rw [hw, Ny378.out]; exact HP30.1); clear HP30; have n0_ := Asd.mk (hp_); have n1_ := Asd.mk (Iz.grown (by repeat (with_reducible first | exact HI0.out | refine Iz.below ?_ StB.b | apply Iz.set_1)) hg (Iz.own_ne HI0.out HO_7.out (by decide))); have n2_ := Asd.mk ((by rw [hw]; exact bwS (HB.out) (Nat.le_trans HL.out GB23.out) : Below w0.heap.size w0 w31)); have n3_ := Asd.mk (Kbt.trans (by repeat (with_reducible first | exact HK.out | apply Kbt.set_ | apply kpX)) (Kbt.of_grown hg g) (Kd.R_base2 HO_7.out)); clear HO_7; clear HI0; clear HB; clear HK; have HO_7 := n0_; have HI0 := n1_; have HB := n2_; have HK := n3_; clear n0_ n1_ n2_ n3_; clear hg hw hp_) | ((with_reducible refine gate_callee (f := 81) rfl ?_); refine gsM (some 39) rfl rfl Try.func81 (by kernel_rfl) rfl #[.pointer (some ⟨g, 0, none⟩), .int .i64 a2] rfl ?_; (with_reducible refine (spec_l20Rd_odd.calls k1 g s0_0 t377 a2 true t380 w0 _ ?side1 ?side2 A24.out).mono ?_); (case side1 => repeat (with_reducible first | exact HI0.out | refine Iz.below ?_ StB.b | apply Iz.set_1)); (case side2 => repeat (with_reducible first | exact HB.out | apply bwX | refine bwS ?_ (Iz.ge HI0.out))); rintro e w32 ⟨rfl, hi, hb, hk⟩; refine ⟨_, rfl, ?_⟩; have n0_ := Asd.mk (Kd.R_mono (Kd.R_keep (Iz.apart (show Iz w0 _ g s0_0 t377 from by repeat (with_reducible first | exact HI0.out | refine Iz.below ?_ StB.b | apply Iz.set_1)) (by (repeat apply Kd.RS); exact HO_7.out) (by decide)) hk (fun _ h => h.2)) (fun _ h => h.1)); have n1_ := Asd.mk (Kbt.trans (by repeat (with_reducible first | exact HK.out | apply Kbt.set_ | apply kpX)) hk (.inl rfl)); have n2_ := Asd.mk (hb); have n3_ := Asd.mk (hi); clear HO_7; clear HK; clear HB; clear HI0; have HO_7 := n0_; have HK := n1_; have HB := n2_; have HI0 := n3_; clear n0_ n1_ n2_ n3_; (try clear hb); (try clear hb2); (try clear hk); (try clear hi)) | ((with_reducible refine gate_callee (f := 82) rfl ?_); refine gsM (some 41) rfl rfl Try.func82 (by kernel_rfl) rfl #[.pointer (some ⟨g, 0, none⟩), .int .i64 3] rfl ?_; (with_reducible refine (spec_l20Rd_pick.calls k1 g s0_0 t380 3 t381 t382 w0 _ ?side1 ?side2 A26.out).mono ?_); (case side1 => repeat (with_reducible first | exact HI0.out | refine Iz.below ?_ StB.b | apply Iz.set_1)); (case side2 => repeat (with_reducible first | exact HB.out | apply bwX | refine bwS ?_ (Iz.ge HI0.out))); rintro e w33 ⟨rfl, hi, hb, hk⟩; refine ⟨_, rfl, ?_⟩; have n0_ := Asd.mk (Kd.R_mono (Kd.R_keep (Iz.apart (show Iz w0 _ g s0_0 t380 from by repeat (with_reducible first | exact HI0.out | refine Iz.below ?_ StB.b | apply Iz.set_1)) (by (repeat apply Kd.RS); exact HO_7.out) (by decide)) hk (fun _ h => h.2)) (fun _ h => h.1)); have n1_ := Asd.mk (Kbt.trans (by repeat (with_reducible first | exact HK.out | apply Kbt.set_ | apply kpX)) hk (.inl rfl)); have n2_ := Asd.mk (hb); have n3_ := Asd.mk (hi); clear HO_7; clear HK; clear HB; clear HI0; have HO_7 := n0_; have HK := n1_; have HB := n2_; have HI0 := n3_; clear n0_ n1_ n2_ n3_; (try clear hb); (try clear hb2); (try clear hk); (try clear hi)) | ((with_reducible refine gate_builtin (b := .append) (xs := #[.tmp 57, .tmp 58]) rfl ?_); at_builtin; refine Kd.R_append (Kd.int .i64) w.heap.size rfl (.tmp 57) (.tmp 58) 55 3 (.int .i64 0) 8 rfl Try.underlying55 info3 rfl (by decide) (by omega) (.slice (some ⟨go23, 0, none⟩) x7_1.length co23) y378 0 [.int .i64 0] (fun _ => True) (fun _ => False) rfl rfl ?aP (fun _ hk => hk.elim) ?aF ?aO (Below.refl _ _) ?aS ?aL ?_; (case aP => exact rfl); (case aF => exact (fun _ _ => trivial)); (case aO => exact (by (repeat apply Kd.RS); exact HO_7.out)); (case aS => exact (kpZ (w := w) (g := g) (row := none) (by repeat (with_reducible first | exact HK.out | apply Kbt.set_ | apply kpX)))); (case aL => have := LMc28.out; omega); intro v384 w34 ho hb hg hat; rw [← Ny383.out] at ho; have n0_ := Asd.mk (Iz.grown (by repeat (with_reducible first | exact HI0.out | refine Iz.below ?_ StB.b | apply Iz.set_1)) hg (Iz.own_ne HI0.out HO_7.out (by decide))); have n1_ := Asd.mk (below_weaken (by repeat (with_reducible first | exact HB.out | apply bwX | refine bwS ?_ (Iz.ge HI0.out))) HL.out hb); have n2_ := Asd.mk (Kbt.trans (by repeat (with_reducible first | exact HK.out | apply Kbt.set_ | apply kpX)) (Kbt.of_grown hg g) (Kd.R_base2 HO_7.out)); have n3_ := Asd.mk (ho); clear HI0; clear HB; clear HK; clear HO_7; have HI0 := n0_; have HB := n1_; have HK := n2_; have HO385 := n3_; clear n0_ n1_ n2_ n3_; clear ho hb hg hat))
      go_ret
      exact ⟨_, by first | rfl | (simp [errW_none, errW_some] <;> rfl) | (simp only [← hji5]; first | rfl | (simp [errW_none, errW_some] <;> rfl)) | (simp [*, errW_none, errW_some] <;> rfl), by (repeat apply Kd.RS); exact HO385.out, by repeat (with_reducible first | exact HI0.out | refine Iz.below ?_ StB.b | apply Iz.set_1), by repeat (with_reducible first | exact HB.out | apply bwX | refine bwS ?_ (Iz.ge HI0.out)), by repeat (with_reducible first | exact HK.out | apply Kbt.set_ | apply kpX)⟩
     ·rw [if_neg c27] at H
      have c27b0 : (t381 == 0) = false := beq_eq_false_iff_ne.mpr c27
      have c27b1 : (t381 != 0) = true := bne_iff_ne.mpr c27
      by_cases c35 : t381 = 1
      ·rw [if_pos c35] at H
       have c35b0 : (t381 == 1) = true := beq_iff_eq.mpr c35
       have c35b1 : (t381 != 1) = false := bne_eq_false_iff_eq.mpr c35
       clear c35
       by_cases c36 : 0 < (x7_1.length : Int); rotate_left; (rw [if_neg c36] at H; exact absurd H (by simp))
       rw [if_pos c36] at H
       have c36b0 : decide (0 < (x7_1.length : Int)) = true := decide_eq_true c36
       have c36b1 : decide (0 < x7_1.length) = true := decide_eq_true (by omega)
       clear c36
       obtain ⟨y386, hy386⟩ : ∃ y_ : List Int, y_ = (y378.set (0 : Int).toNat (-1)) := ⟨_, rfl⟩
       replace H : (some (y386, t382)) = some (r1, r2) := by first | (rw [hy386]; with_reducible exact H) | (have H2_ := (Option.bind_some _ _).symm.trans H; rw [hy386]; with_reducible exact H2_) | (have H2_ := (Option.bind_some _ _).symm.trans H; with_reducible exact H2_) | with_reducible exact H | (rw [hy386]; exact H) | exact H
       have Ny386 := Asd.mk hy386
       clear hy386
       simp only [Option.some.injEq, Prod.mk.injEq] at H
       obtain ⟨rfl, rfl⟩ := H
       go_wp2_with (first | ((with_reducible refine gate_callee (f := 82) rfl ?_); refine gsL (some 35) rfl rfl Try.func82 (by kernel_rfl) rfl #[.pointer (some ⟨g, 0, none⟩), .int .i64 ji5] rfl (by (try simp only [List.map_toArray, List.map_cons, List.map_nil]); first | done | (simp only [hji5]; rfl) | rfl | (simp only [List.length_drop, List.length_take]; rfl)) ?_; (with_reducible refine (spec_l20Rd_pick.calls k1 g s0_0 x1001_1 ji5 t376 t377 w0 _ ?side1 ?side2 A20.out).mono ?_); (case side1 => repeat (with_reducible first | exact HI0.out | refine Iz.below ?_ StB.b | apply Iz.set_1)); (case side2 => repeat (with_reducible first | exact HB.out | apply bwX | refine bwS ?_ (Iz.ge HI0.out))); rintro e w38 ⟨rfl, hi, hb, hk⟩; refine ⟨_, rfl, ?_⟩; have n0_ := Asd.mk (Kd.R_mono (Kd.R_keep (Iz.apart (show Iz w0 _ g s0_0 x1001_1 from by repeat (with_reducible first | exact HI0.out | refine Iz.below ?_ StB.b | apply Iz.set_1)) (by (repeat apply Kd.RS); exact HO_7.out) (by decide)) hk (fun _ h => h.2)) (fun _ h => h.1)); have n1_ := Asd.mk (Kbt.trans (by repeat (with_reducible first | exact HK.out | apply Kbt.set_ | apply kpX)) hk (.inl rfl)); have n2_ := Asd.mk (hb); have n3_ := Asd.mk (hi); clear HO_7; clear HK; clear HB; clear HI0; have HO_7 := n0_; have HK := n1_; have HB := n2_; have HI0 := n3_; clear n0_ n1_ n2_ n3_; (try clear hb); (try clear hb2); (try clear hk); (try clear hi); have p23 : 0 ≤ (t376 : Int) := odt; have q23 : (t376 : Int) < ((x7_1.length : Int) : Int) := odt; obtain ⟨go23, co23, eo23, gb23, gl23, cl23, HG23⟩ := Kd.R_form HO_7.out (by omega); (first | cases eo23 | (injection eo23 with ea_ en_ ec_; (first | subst ea_ | (injection ea_ with ea_; subst ea_)); subst ec_; clear en_)); have GB23 := Asd.mk gb23; have GG23 := Asd.mk HG23; clear gb23 gl23 HG23; obtain ⟨hx23_0, hf23_0⟩ := Kd.R_celln 0 HO_7.out (t376 : Int) p23 q23; replace p23 := eq_true p23; replace q23 := eq_true q23; obtain ⟨hy39_, hz39_⟩ := Kd.R_celln 0 HO_7.out (t376 : Int) (odt) (odt); have HP39 := Kd.R_putg HO_7.out (t376 : Int) 0) | ((with_reducible refine gate_store (t := 3) (p := 36) rfl ?_); refine store_event (t := 3) (p := 36) (v := ?vo_w40) (w1 := (w38.setCell ⟨go23, (t376 : Int).toNat, none⟩ (.int .i64 0))) ?hg ?ho ?hn ?hr ?_; (case ho => rfl); (case hg => rfl); (case hn => rfl); (case hr => first | (go_simp; done) | (go_simp; rfl)); intro w40 hw; have hg : w38.grownBy w40 (some go23) := (by rw [hw]; exact HP39.2); have hp_ : Kd.R (Kd.int .i64) 3 w40 w.heap.size (fun _ => True) (.slice (some ⟨go23, 0, none⟩) x7_1.length co23) y378 := (by rw [hw, Ny378.out]; exact HP39.1); clear HP39; have n0_ := Asd.mk (hp_); have n1_ := Asd.mk (Iz.grown (by repeat (with_reducible first | exact HI0.out | refine Iz.below ?_ StB.b | apply Iz.set_1)) hg (Iz.own_ne HI0.out HO_7.out (by decide))); have n2_ := Asd.mk ((by rw [hw]; exact bwS (HB.out) (Nat.le_trans HL.out GB23.out) : Below w0.heap.size w0 w40)); have n3_ := Asd.mk (Kbt.trans (by repeat (with_reducible first | exact HK.out | apply Kbt.set_ | apply kpX)) (Kbt.of_grown hg g) (Kd.R_base2 HO_7.out)); clear HO_7; clear HI0; clear HB; clear HK; have HO_7 := n0_; have HI0 := n1_; have HB := n2_; have HK := n3_; clear n0_ n1_ n2_ n3_; clear hg hw hp_) | ((with_reducible refine gate_callee (f := 81) rfl ?_); refine gsM (some 39) rfl rfl Try.func81 (by kernel_rfl) rfl #[.pointer (some ⟨g, 0, none⟩), .int .i64 a2] rfl ?_; (with_reducible refine (spec_l20Rd_odd.calls k1 g s0_0 t377 a2 true t380 w0 _ ?side1 ?side2 A24.out).mono ?_); (case side1 => repeat (with_reducible first | exact HI0.out | refine Iz.below ?_ StB.b | apply Iz.set_1)); (case side2 => repeat (with_reducible first | exact HB.out | apply bwX | refine bwS ?_ (Iz.ge HI0.out))); rintro e w41 ⟨rfl, hi, hb, hk⟩; refine ⟨_, rfl, ?_⟩; have n0_ := Asd.mk (Kd.R_mono (Kd.R_keep (Iz.apart (show Iz w0 _ g s0_0 t377 from by repeat (with_reducible first | exact HI0.out | refine Iz.below ?_ StB.b | apply Iz.set_1)) (by (repeat apply Kd.RS); exact HO_7.out) (by decide)) hk (fun _ h => h.2)) (fun _ h => h.1)); have n1_ := Asd.mk (Kbt.trans (by repeat (with_reducible first | exact HK.out | apply Kbt.set_ | apply kpX)) hk (.inl rfl)); have n2_ := Asd.mk (hb); have n3_ := Asd.mk (hi); clear HO_7; clear HK; clear HB; clear HI0; have HO_7 := n0_; have HK := n1_; have HB := n2_; have HI0 := n3_; clear n0_ n1_ n2_ n3_; (try clear hb); (try clear hb2); (try clear hk); (try clear hi)) | ((with_reducible refine gate_callee (f := 82) rfl ?_); refine gsM (some 41) rfl rfl Try.func82 (by kernel_rfl) rfl #[.pointer (some ⟨g, 0, none⟩), .int .i64 3] rfl ?_; (with_reducible refine (spec_l20Rd_pick.calls k1 g s0_0 t380 3 t381 t382 w0 _ ?side1 ?side2 A26.out).mono ?_); (case side1 => repeat (with_reducible first | exact HI0.out | refine Iz.below ?_ StB.b | apply Iz.set_1)); (case side2 => repeat (with_reducible first | exact HB.out | apply bwX | refine bwS ?_ (Iz.ge HI0.out))); rintro e w42 ⟨rfl, hi, hb, hk⟩; refine ⟨_, rfl, ?_⟩; have n0_ := Asd.mk (Kd.R_mono (Kd.R_keep (Iz.apart (show Iz w0 _ g s0_0 t380 from by repeat (with_reducible first | exact HI0.out | refine Iz.below ?_ StB.b | apply Iz.set_1)) (by (repeat apply Kd.RS); exact HO_7.out) (by decide)) hk (fun _ h => h.2)) (fun _ h => h.1)); have n1_ := Asd.mk (Kbt.trans (by repeat (with_reducible first | exact HK.out | apply Kbt.set_ | apply kpX)) hk (.inl rfl)); have n2_ := Asd.mk (hb); have n3_ := Asd.mk (hi); clear HO_7; clear HK; clear HB; clear HI0; have HO_7 := n0_; have HK := n1_; have HB := n2_; have HI0 := n3_; clear n0_ n1_ n2_ n3_; (try clear hb); (try clear hb2); (try clear hk); (try clear hi); have p37 : 0 ≤ (0 : Int) := (by omega); have q37 : (0 : Int) < ((x7_1.length : Int) : Int) := odt; have qi37 : (0 < x7_1.length) = True := eq_true (by omega); obtain ⟨hx37_0, hf37_0⟩ := Kd.R_celln 0 HO_7.out (0 : Int) p37 q37; (try rw [show ((0 : Int)).toNat = 0 from rfl] at hx37_0); (try simp only [Nat.reduceMul, Nat.zero_mul, Nat.zero_add, Nat.reduceAdd] at hx37_0); (try rw [show ((0 : Int)).toNat = 0 from rfl] at hf37_0); (try simp only [Nat.reduceMul, Nat.zero_mul, Nat.zero_add, Nat.reduceAdd] at hf37_0); replace p37 := eq_true p37; replace q37 := eq_true q37; obtain ⟨hy43_, hz43_⟩ := Kd.R_celln 0 HO_7.out (0 : Int) (by omega) (odt); (try simp only [Int.reduceToNat, Int.toNat_zero, Int.toNat_ofNat, Nat.reduceMul, Nat.zero_mul, Nat.zero_add] at hy43_ hz43_); (try rw [show ((0 : Int)).toNat = 0 from rfl] at hy43_); (try rw [show ((0 : Int)).toNat = 0 from rfl] at hz43_); have HP43 := Kd.R_putg HO_7.out (0 : Int) (-1)) | ((with_reducible refine gate_store (t := 3) (p := 63) rfl ?_); refine store_event (t := 3) (p := 63) (v := ?vo_w44) (w1 := (w42.setCell ⟨go23, (0 : Int).toNat, none⟩ (.int .i64 (-1)))) ?hg ?ho ?hn ?hr ?_; (case ho => rfl); (case hg => rfl); (case hn => rfl); (case hr => first | (go_simp; done) | (go_simp; rfl)); intro w44 hw; have hg : w42.grownBy w44 (some go23) := (by rw [hw]; exact HP43.2); have hp_ : Kd.R (Kd.int .i64) 3 w44 w.heap.size (fun _ => True) (.slice (some ⟨go23, 0, none⟩) x7_1.length co23) y386 := (by rw [hw, Ny386.out]; exact HP43.1); clear HP43; have n0_ := Asd.mk (hp_); have n1_ := Asd.mk (Iz.grown (by repeat (with_reducible first | exact HI0.out | refine Iz.below ?_ StB.b | apply Iz.set_1)) hg (Iz.own_ne HI0.out HO_7.out (by decide))); have n2_ := Asd.mk ((by rw [hw]; exact bwS (HB.out) (Nat.le_trans HL.out GB23.out) : Below w0.heap.size w0 w44)); have n3_ := Asd.mk (Kbt.trans (by repeat (with_reducible first | exact HK.out | apply Kbt.set_ | apply kpX)) (Kbt.of_grown hg g) (Kd.R_base2 HO_7.out)); clear HO_7; clear HI0; clear HB; clear HK; have HO_7 := n0_; have HI0 := n1_; have HB := n2_; have HK := n3_; clear n0_ n1_ n2_ n3_; clear hg hw hp_))
       go_ret
       exact ⟨_, by first | rfl | (simp [errW_none, errW_some] <;> rfl) | (simp only [← hji5]; first | rfl | (simp [errW_none, errW_some] <;> rfl)) | (simp [*, errW_none, errW_some] <;> rfl), by (repeat apply Kd.RS); exact HO_7.out, by repeat (with_reducible first | exact HI0.out | refine Iz.below ?_ StB.b | apply Iz.set_1), by repeat (with_reducible first | exact HB.out | apply bwX | refine bwS ?_ (Iz.ge HI0.out)), by repeat (with_reducible first | exact HK.out | apply Kbt.set_ | apply kpX)⟩
      ·rw [if_neg c35] at H
       have c35b0 : (t381 == 1) = false := beq_eq_false_iff_ne.mpr c35
       have c35b1 : (t381 != 1) = true := bne_iff_ne.mpr c35
       have H' := Asd.mk H
       clear H
       go_wp2_with (first | ((with_reducible refine gate_callee (f := 82) rfl ?_); refine gsL (some 35) rfl rfl Try.func82 (by kernel_rfl) rfl #[.pointer (some ⟨g, 0, none⟩), .int .i64 ji5] rfl (by (try simp only [List.map_toArray, List.map_cons, List.map_nil]); first | done | (simp only [hji5]; rfl) | rfl | (simp only [List.length_drop, List.length_take]; rfl)) ?_; (with_reducible refine (spec_l20Rd_pick.calls k1 g s0_0 x1001_1 ji5 t376 t377 w0 _ ?side1 ?side2 A20.out).mono ?_); (case side1 => repeat (with_reducible first | exact HI0.out | refine Iz.below ?_ StB.b | apply Iz.set_1)); (case side2 => repeat (with_reducible first | exact HB.out | apply bwX | refine bwS ?_ (Iz.ge HI0.out))); rintro e w45 ⟨rfl, hi, hb, hk⟩; refine ⟨_, rfl, ?_⟩; have n0_ := Asd.mk (Kd.R_mono (Kd.R_keep (Iz.apart (show Iz w0 _ g s0_0 x1001_1 from by repeat (with_reducible first | exact HI0.out | refine Iz.below ?_ StB.b | apply Iz.set_1)) (by (repeat apply Kd.RS); exact HO_7.out) (by decide)) hk (fun _ h => h.2)) (fun _ h => h.1)); have n1_ := Asd.mk (Kbt.trans (by repeat (with_reducible first | exact HK.out | apply Kbt.set_ | apply kpX)) hk (.inl rfl)); have n2_ := Asd.mk (hb); have n3_ := Asd.mk (hi); clear HO_7; clear HK; clear HB; clear HI0; have HO_7 := n0_; have HK := n1_; have HB := n2_; have HI0 := n3_; clear n0_ n1_ n2_ n3_; (try clear hb); (try clear hb2); (try clear hk); (try clear hi); have p23 : 0 ≤ (t376 : Int) := odt; have q23 : (t376 : Int) < ((x7_1.length : Int) : Int) := odt; obtain ⟨go23, co23, eo23, gb23, gl23, cl23, HG23⟩ := Kd.R_form HO_7.out (by omega); (first | cases eo23 | (injection eo23 with ea_ en_ ec_; (first | subst ea_ | (injection ea_ with ea_; subst ea_)); subst ec_; clear en_)); have GB23 := Asd.mk gb23; have GG23 := Asd.mk HG23; clear gb23 gl23 HG23; obtain ⟨hx23_0, hf23_0⟩ := Kd.R_celln 0 HO_7.out (t376 : Int) p23 q23; replace p23 := eq_true p23; replace q23 := eq_true q23; obtain ⟨hy46_, hz46_⟩ := Kd.R_celln 0 HO_7.out (t376 : Int) (odt) (odt); have HP46 := Kd.R_putg HO_7.out (t376 : Int) 0) | ((with_reducible refine gate_store (t := 3) (p := 36) rfl ?_); refine store_event (t := 3) (p := 36) (v := ?vo_w47) (w1 := (w45.setCell ⟨go23, (t376 : Int).toNat, none⟩ (.int .i64 0))) ?hg ?ho ?hn ?hr ?_; (case ho => rfl); (case hg => rfl); (case hn => rfl); (case hr => first | (go_simp; done) | (go_simp; rfl)); intro w47 hw; have hg : w45.grownBy w47 (some go23) := (by rw [hw]; exact HP46.2); have hp_ : Kd.R (Kd.int .i64) 3 w47 w.heap.size (fun _ => True) (.slice (some ⟨go23, 0, none⟩) x7_1.length co23) y378 := (by rw [hw, Ny378.out]; exact HP46.1); clear HP46; have n0_ := Asd.mk (hp_); have n1_ := Asd.mk (Iz.grown (by repeat (with_reducible first | exact HI0.out | refine Iz.below ?_ StB.b | apply Iz.set_1)) hg (Iz.own_ne HI0.out HO_7.out (by decide))); have n2_ := Asd.mk ((by rw [hw]; exact bwS (HB.out) (Nat.le_trans HL.out GB23.out) : Below w0.heap.size w0 w47)); have n3_ := Asd.mk (Kbt.trans (by repeat (with_reducible first | exact HK.out | apply Kbt.set_ | apply kpX)) (Kbt.of_grown hg g) (Kd.R_base2 HO_7.out)); clear HO_7; clear HI0; clear HB; clear HK; have HO_7 := n0_; have HI0 := n1_; have HB := n2_; have HK := n3_; clear n0_ n1_ n2_ n3_; clear hg hw hp_) | ((with_reducible refine gate_callee (f := 81) rfl ?_); refine gsM (some 39) rfl rfl Try.func81 (by kernel_rfl) rfl #[.pointer (some ⟨g, 0, none⟩), .int .i64 a2] rfl ?_; (with_reducible refine (spec_l20Rd_odd.calls k1 g s0_0 t377 a2 true t380 w0 _ ?side1 ?side2 A24.out).mono ?_); (case side1 => repeat (with_reducible first | exact HI0.out | refine Iz.below ?_ StB.b | apply Iz.set_1)); (case side2 => repeat (with_reducible first | exact HB.out | apply bwX | refine bwS ?_ (Iz.ge HI0.out))); rintro e w48 ⟨rfl, hi, hb, hk⟩; refine ⟨_, rfl, ?_⟩; have n0_ := Asd.mk (Kd.R_mono (Kd.R_keep (Iz.apart (show Iz w0 _ g s0_0 t377 from by repeat (with_reducible first | exact HI0.out | refine Iz.below ?_ StB.b | apply Iz.set_1)) (by (repeat apply Kd.RS); exact HO_7.out) (by decide)) hk (fun _ h => h.2)) (fun _ h => h.1)); have n1_ := Asd.mk (Kbt.trans (by repeat (with_reducible first | exact HK.out | apply Kbt.set_ | apply kpX)) hk (.inl rfl)); have n2_ := Asd.mk (hb); have n3_ := Asd.mk (hi); clear HO_7; clear HK; clear HB; clear HI0; have HO_7 := n0_; have HK := n1_; have HB := n2_; have HI0 := n3_; clear n0_ n1_ n2_ n3_; (try clear hb); (try clear hb2); (try clear hk); (try clear hi)) | ((with_reducible refine gate_callee (f := 82) rfl ?_); refine gsM (some 41) rfl rfl Try.func82 (by kernel_rfl) rfl #[.pointer (some ⟨g, 0, none⟩), .int .i64 3] rfl ?_; (with_reducible refine (spec_l20Rd_pick.calls k1 g s0_0 t380 3 t381 t382 w0 _ ?side1 ?side2 A26.out).mono ?_); (case side1 => repeat (with_reducible first | exact HI0.out | refine Iz.below ?_ StB.b | apply Iz.set_1)); (case side2 => repeat (with_reducible first | exact HB.out | apply bwX | refine bwS ?_ (Iz.ge HI0.out))); rintro e w49 ⟨rfl, hi, hb, hk⟩; refine ⟨_, rfl, ?_⟩; have n0_ := Asd.mk (Kd.R_mono (Kd.R_keep (Iz.apart (show Iz w0 _ g s0_0 t380 from by repeat (with_reducible first | exact HI0.out | refine Iz.below ?_ StB.b | apply Iz.set_1)) (by (repeat apply Kd.RS); exact HO_7.out) (by decide)) hk (fun _ h => h.2)) (fun _ h => h.1)); have n1_ := Asd.mk (Kbt.trans (by repeat (with_reducible first | exact HK.out | apply Kbt.set_ | apply kpX)) hk (.inl rfl)); have n2_ := Asd.mk (hb); have n3_ := Asd.mk (hi); clear HO_7; clear HK; clear HB; clear HI0; have HO_7 := n0_; have HK := n1_; have HB := n2_; have HI0 := n3_; clear n0_ n1_ n2_ n3_; (try clear hb); (try clear hb2); (try clear hk); (try clear hi)))
       go_loopg [11] k1 (fun kq v11 w' => ∃ (x7_2 : List Int) (x11_2 : Int), v11 = .int .i64 x11_2 ∧ Asd (spec_l20Rank.l1 kq x7_2 ji5 x11_2 s0_0 t382 = some (r1, r2)) ∧ Asd (kq ≤ k1) ∧ Asd (Kd.R (Kd.int .i64) 3 w' w.heap.size (fun _ => True) (.slice (some ⟨go23, 0, none⟩) x7_1.length co23) x7_2) ∧ Asd (Iz w0 w' g s0_0 t382) ∧ Asd (Kbt w w' g none) ∧ Asd (Below w0.heap.size w0 w'))
       case atStart => exact ⟨(y378), (0), (by first | rfl | (simp; done) | (simp [*]; done)), H', ⟨Nat.le_refl _⟩, ⟨by (repeat apply Kd.RS); exact HO_7.out⟩, ⟨by repeat (with_reducible first | exact HI0.out | refine Iz.below ?_ StB.b | apply Iz.set_1)⟩, ⟨by repeat (with_reducible first | exact HK.out | apply Kbt.set_ | apply kpX)⟩, ⟨by repeat (with_reducible first | exact HB.out | apply bwX | refine bwS ?_ (Iz.ge HI0.out))⟩⟩
       case round =>
        clear H'
        obtain ⟨x7_2, x11_2, rfl, HA, HK2, HO_7, HI0, HK, HB⟩ := hrel
        have hl7_2 := (Kd.R_reads' HO_7.out).1
        rw [hl7_2] at HO_7
        (try simp only [hl7_2])
        cases gk with
        | zero => exact absurd HA.out (by simp [spec_l20Rank.l1])
        | succ k2 =>
         have H := HA.out
         clear HA
         simp only [spec_l20Rank.l1] at H
         by_cases c50 : x11_2 < ji5
         ·rw [if_pos c50] at H
          have c50b0 : decide (x11_2 < ji5) = true := decide_eq_true c50
          clear c50
          by_cases c51 : 0 ≤ x11_2; rotate_left; (rw [if_neg c51] at H; exact absurd H (by simp))
          rw [if_pos c51] at H
          have c51b0 : decide (0 ≤ x11_2) = true := decide_eq_true c51
          clear c51
          by_cases c52 : x11_2 < (x7_2.length : Int); rotate_left; (rw [if_neg c52] at H; exact absurd H (by simp))
          rw [if_pos c52] at H
          have c52b0 : decide (x11_2 < (x7_2.length : Int)) = true := decide_eq_true c52
          clear c52
          obtain ⟨y388, hy388⟩ : ∃ y_ : List Int, y_ = (x7_2.set (x11_2 : Int).toNat (wrap64 ((rd x7_2 x11_2) + 1))) := ⟨_, rfl⟩
          replace H : (spec_l20Rank.l1 k2 y388 ji5 (wrap64 (x11_2 + 1)) s0_0 t382) = some (r1, r2) := by first | (rw [hy388]; with_reducible exact H) | (have H2_ := (Option.bind_some _ _).symm.trans H; rw [hy388]; with_reducible exact H2_) | (have H2_ := (Option.bind_some _ _).symm.trans H; with_reducible exact H2_) | with_reducible exact H | (rw [hy388]; exact H) | exact H
          have Ny388 := Asd.mk hy388
          clear hy388
          have H' := Asd.mk H
          clear H
          have p387 : 0 ≤ (x11_2 : Int) := odt
          have q387 : x11_2 < (x7_2.length : Int) := odt
          obtain ⟨ad387, e387, hx387_0⟩ := Kd.at_int (Kd.R_reads' HO_7.out).2.2 x11_2 p387 q387
          obtain rfl : (⟨go23, 0, none⟩ : Addr) = ad387 := (by injection e387)
          (first | simp only [add_plain] at hx387_0 | simp only [add_at] at hx387_0 | simp only [Addr.add, Nat.zero_add] at hx387_0 | skip)
          replace p387 := eq_true p387
          replace q387 := eq_true q387
          have p53 : 0 ≤ (x11_2 : Int) := odt
          have q53 : (x11_2 : Int) < ((x7_2.length : Int) : Int) := odt
          obtain ⟨hx53_0, hf53_0⟩ := Kd.R_celln 0 HO_7.out (x11_2 : Int) p53 q53
          replace p53 := eq_true p53
          replace q53 := eq_true q53
          have HP54 := Kd.R_putg HO_7.out (x11_2 : Int) (wrap64 ((rd x7_2 x11_2) + 1))
          go_wp2_with (first | ((with_reducible refine gate_store (t := 3) (p := 54) rfl ?_); refine store_event (t := 3) (p := 54) (v := ?vo_w55) (w1 := (wr.setCell ⟨go23, (x11_2 : Int).toNat, none⟩ (.int .i64 (wrap64 ((rd x7_2 x11_2) + 1))))) ?hg ?ho ?hn ?hr ?_; (case ho => rfl); (case hg => rfl); (case hn => rfl); (case hr => first | (go_simp; done) | (go_simp; rfl)); intro w55 hw; have hg : wr.grownBy w55 (some go23) := (by rw [hw]; exact HP54.2); have hp_ : Kd.R (Kd.int .i64) 3 w55 w.heap.size (fun _ => True) (.slice (some ⟨go23, 0, none⟩) x7_2.length co23) y388 := (by rw [hw, Ny388.out]; exact HP54.1); clear HP54; have n0_ := Asd.mk (hp_); have n1_ := Asd.mk (Iz.grown (by repeat (with_reducible first | exact HI0.out | refine Iz.below ?_ StB.b | apply Iz.set_1)) hg (Iz.own_ne HI0.out HO_7.out (by decide))); have n2_ := Asd.mk ((by rw [hw]; exact bwS (HB.out) (Nat.le_trans HL.out GB23.out) : Below w0.heap.size w0 w55)); have n3_ := Asd.mk (Kbt.trans (by repeat (with_reducible first | exact HK.out | apply Kbt.set_ | apply kpX)) (Kbt.of_grown hg g) (Kd.R_base2 HO_7.out)); clear HO_7; clear HI0; clear HB; clear HK; have HO_7 := n0_; have HI0 := n1_; have HB := n2_; have HK := n3_; clear n0_ n1_ n2_ n3_; clear hg hw hp_))
          (try simp only [← hl7_2])
          go_roundg k2
          case measure => have := HK1.out; have := HK2.out; omega
          case rel => exact ⟨(y388), (wrap64 (x11_2 + 1)), (by first | rfl | (simp; done) | (simp [*]; done)), H', ⟨by have := HK1.out; have := HK2.out; omega⟩, ⟨by (try simp only [hl7_2]); (repeat apply Kd.RS); exact HO_7.out⟩, ⟨by repeat (with_reducible first | exact HI0.out | refine Iz.below ?_ StB.b | apply Iz.set_1)⟩, ⟨by repeat (with_reducible first | exact HK.out | apply Kbt.set_ | apply kpX)⟩, ⟨by repeat (with_reducible first | exact HB.out | apply bwX | refine bwS ?_ (Iz.ge HI0.out))⟩⟩
         ·rw [if_neg c50] at H
          have c50b0 : decide (x11_2 < ji5) = false := decide_eq_false c50
          clear c50
          simp only [Option.some.injEq, Prod.mk.injEq] at H
          obtain ⟨rfl, rfl⟩ := H
          go_wp2
          go_ret
          exact ⟨_, by first | rfl | (simp [errW_none, errW_some] <;> rfl) | (simp only [← hji5]; first | rfl | (simp [errW_none, errW_some] <;> rfl)) | (simp [*, errW_none, errW_some] <;> rfl), by (repeat apply Kd.RS); exact HO_7.out, by repeat (with_reducible first | exact HI0.out | refine Iz.below ?_ StB.b | apply Iz.set_1), by repeat (with_reducible first | exact HB.out | apply bwX | refine bwS ?_ (Iz.ge HI0.out)), by repeat (with_reducible first | exact HK.out | apply Kbt.set_ | apply kpX)⟩
    ·replace c25 := Bool.eq_false_iff.mpr c25
     subst c25
     rw [if_neg (show ¬ (false = true) by decide)] at H
     simp only [Option.some.injEq, Prod.mk.injEq] at H
     obtain ⟨rfl, rfl⟩ := H
     go_wp2_with (first | ((with_reducible refine gate_callee (f := 82) rfl ?_); refine gsL (some 35) rfl rfl Try.func82 (by kernel_rfl) rfl #[.pointer (some ⟨g, 0, none⟩), .int .i64 ji5] rfl (by (try simp only [List.map_toArray, List.map_cons, List.map_nil]); first | done | (simp only [hji5]; rfl) | rfl | (simp only [List.length_drop, List.length_take]; rfl)) ?_; (with_reducible refine (spec_l20Rd_pick.calls k1 g s0_0 x1001_1 ji5 t376 t377 w0 _ ?side1 ?side2 A20.out).mono ?_); (case side1 => repeat (with_reducible first | exact HI0.out | refine Iz.below ?_ StB.b | apply Iz.set_1)); (case side2 => repeat (with_reducible first | exact HB.out | apply bwX | refine bwS ?_ (Iz.ge HI0.out))); rintro e w56 ⟨rfl, hi, hb, hk⟩; refine ⟨_, rfl, ?_⟩; have n0_ := Asd.mk (Kd.R_mono (Kd.R_keep (Iz.apart (show Iz w0 _ g s0_0 x1001_1 from by repeat (with_reducible first | exact HI0.out | refine Iz.below ?_ StB.b | apply Iz.set_1)) (by (repeat apply Kd.RS); exact HO_7.out) (by decide)) hk (fun _ h => h.2)) (fun _ h => h.1)); have n1_ := Asd.mk (Kbt.trans (by repeat (with_reducible first | exact HK.out | apply Kbt.set_ | apply kpX)) hk (.inl rfl)); have n2_ := Asd.mk (hb); have n3_ := Asd.mk (hi); clear HO_7; clear HK; clear HB; clear HI0; have HO_7 := n0_; have HK := n1_; have HB := n2_; have HI0 := n3_; clear n0_ n1_ n2_ n3_; (try clear hb); (try clear hb2); (try clear hk); (try clear hi); have p23 : 0 ≤ (t376 : Int) := odt; have q23 : (t376 : Int) < ((x7_1.length : Int) : Int) := odt; obtain ⟨go23, co23, eo23, gb23, gl23, cl23, HG23⟩ := Kd.R_form HO_7.out (by omega); (first | cases eo23 | (injection eo23 with ea_ en_ ec_; (first | subst ea_ | (injection ea_ with ea_; subst ea_)); subst ec_; clear en_)); have GB23 := Asd.mk gb23; have GG23 := Asd.mk HG23; clear gb23 gl23 HG23; obtain ⟨hx23_0, hf23_0⟩ := Kd.R_celln 0 HO_7.out (t376 : Int) p23 q23; replace p23 := eq_true p23; replace q23 := eq_true q23; obtain ⟨hy57_, hz57_⟩ := Kd.R_celln 0 HO_7.out (t376 : Int) (odt) (odt); have HP57 := Kd.R_putg HO_7.out (t376 : Int) 0) | ((with_reducible refine gate_store (t := 3) (p := 36) rfl ?_); refine store_event (t := 3) (p := 36) (v := ?vo_w58) (w1 := (w56.setCell ⟨go23, (t376 : Int).toNat, none⟩ (.int .i64 0))) ?hg ?ho ?hn ?hr ?_; (case ho => rfl); (case hg => rfl); (case hn => rfl); (case hr => first | (go_simp; done) | (go_simp; rfl)); intro w58 hw; have hg : w56.grownBy w58 (some go23) := (by rw [hw]; exact HP57.2); have hp_ : Kd.R (Kd.int .i64) 3 w58 w.heap.size (fun _ => True) (.slice (some ⟨go23, 0, none⟩) x7_1.length co23) y378 := (by rw [hw, Ny378.out]; exact HP57.1); clear HP57; have n0_ := Asd.mk (hp_); have n1_ := Asd.mk (Iz.grown (by repeat (with_reducible first | exact HI0.out | refine Iz.below ?_ StB.b | apply Iz.set_1)) hg (Iz.own_ne HI0.out HO_7.out (by decide))); have n2_ := Asd.mk ((by rw [hw]; exact bwS (HB.out) (Nat.le_trans HL.out GB23.out) : Below w0.heap.size w0 w58)); have n3_ := Asd.mk (Kbt.trans (by repeat (with_reducible first | exact HK.out | apply Kbt.set_ | apply kpX)) (Kbt.of_grown hg g) (Kd.R_base2 HO_7.out)); clear HO_7; clear HI0; clear HB; clear HK; have HO_7 := n0_; have HI0 := n1_; have HB := n2_; have HK := n3_; clear n0_ n1_ n2_ n3_; clear hg hw hp_) | ((with_reducible refine gate_callee (f := 81) rfl ?_); refine gsM (some 39) rfl rfl Try.func81 (by kernel_rfl) rfl #[.pointer (some ⟨g, 0, none⟩), .int .i64 a2] rfl ?_; (with_reducible refine (spec_l20Rd_odd.calls k1 g s0_0 t377 a2 false t380 w0 _ ?side1 ?side2 A24.out).mono ?_); (case side1 => repeat (with_reducible first | exact HI0.out | refine Iz.below ?_ StB.b | apply Iz.set_1)); (case side2 => repeat (with_reducible first | exact HB.out | apply bwX | refine bwS ?_ (Iz.ge HI0.out))); rintro e w59 ⟨rfl, hi, hb, hk⟩; refine ⟨_, rfl, ?_⟩; have n0_ := Asd.mk (Kd.R_mono (Kd.R_keep (Iz.apart (show Iz w0 _ g s0_0 t377 from by repeat (with_reducible first | exact HI0.out | refine Iz.below ?_ StB.b | apply Iz.set_1)) (by (repeat apply Kd.RS); exact HO_7.out) (by decide)) hk (fun _ h => h.2)) (fun _ h => h.1)); have n1_ := Asd.mk (Kbt.trans (by repeat (with_reducible first | exact HK.out | apply Kbt.set_ | apply kpX)) hk (.inl rfl)); have n2_ := Asd.mk (hb); have n3_ := Asd.mk (hi); clear HO_7; clear HK; clear HB; clear HI0; have HO_7 := n0_; have HK := n1_; have HB := n2_; have HI0 := n3_; clear n0_ n1_ n2_ n3_; (try clear hb); (try clear hb2); (try clear hk); (try clear hi)))
     go_ret
     exact ⟨_, by first | rfl | (simp [errW_none, errW_some] <;> rfl) | (simp only [← hji5]; first | rfl | (simp [errW_none, errW_some] <;> rfl)) | (simp [*, errW_none, errW_some] <;> rfl), by (repeat apply Kd.RS); exact HO_7.out, by repeat (with_reducible first | exact HI0.out | refine Iz.below ?_ StB.b | apply Iz.set_1), by repeat (with_reducible first | exact HB.out | apply bwX | refine bwS ?_ (Iz.ge HI0.out)), by repeat (with_reducible first | exact HK.out | apply Kbt.set_ | apply kpX)⟩

end Go.Proofs.Ytihgpkohglcijaa.P
