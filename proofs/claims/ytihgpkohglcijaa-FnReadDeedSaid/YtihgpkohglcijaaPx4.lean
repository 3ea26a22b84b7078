-- Written by a program of this session (wip/hook.py), which runs the kit's printer; Lean checks it.
import Derived.Test.YtihgpkohglcijaaPx0
import Derived.Test.YtihgpkohglcijaaPx3
namespace Go.Proofs.Ytihgpkohglcijaa.P
open Go.RowKit Go.Proofs.YtihgpkohglcijaaW.PrintWords Go.Proofs.YtihgpkohglcijaaW.PrintLast Go.Proofs.YtihgpkohglcijaaW.PrintMore
attribute [local go_sem] max2_int min2_int max_two min_two max_three min_three max_four min_four   -- for this text's walks alone
set_option linter.unusedVariables false
set_option linter.unusedSimpArgs false

/-! ### spec_l20Sentence: function 80 -/
mutual
def spec_l20Sentence.j0 : Nat → Int → Int → Bool → List Int → Int → Option (ByteArray × Int)
 | 0, _, _, _, _, _ => none
 | k + 1, x1, x2, x13, x1000, x1001 => if x13 = true then ((some (([(⟨#[97]⟩ : ByteArray), (⟨#[98]⟩ : ByteArray), (⟨#[99]⟩ : ByteArray), (⟨#[97]⟩ : ByteArray), (⟨#[48]⟩ : ByteArray), (⟨#[49]⟩ : ByteArray)] : List ByteArray) : List ByteArray)).bind fun y148 => ((spec_l20Rd_pick.f k x1000 x1001 8).bind fun bt151 => ((spec_l20Rd_pick.f k x1000 bt151.2 (wrap64 ((mx (mn x1 3) 1) + (wrap64 ((wrap64 (Int.tdiv bt151.1 7)) * 3))))).bind fun bt153 => (if 0 ≤ bt153.1 then (if bt153.1 < (y148.length : Int) then (some (rdOf ByteArray.empty y148 bt153.1, bt153.2)) else (none)) else (none))))) else ((spec_l20Rd_pick.f k x1000 x1001 4).bind fun bt156 => (if bt156.1 = 0 then ((spec_l20Sentence.f k x1000 bt156.2 x1 (wrap64 (x2 - 1))).bind fun bt158 => (if 1 + bt158.1.size ≤ 9223372036854775807 then (some ((⟨#[33]⟩ : ByteArray) ++ bt158.1, bt158.2)) else (none))) else (if bt156.1 = 1 then ((spec_l20Sentence.f k x1000 bt156.2 x1 (wrap64 (x2 - 1))).bind fun bt160 => (if 1 + bt160.1.size ≤ 9223372036854775807 then (if ((⟨#[40]⟩ : ByteArray) ++ bt160.1).size + 1 ≤ 9223372036854775807 then ((spec_l20Sentence.f k x1000 bt160.2 x1 (wrap64 (x2 - 1))).bind fun bt162 => (if (((⟨#[40]⟩ : ByteArray) ++ bt160.1) ++ (⟨#[38]⟩ : ByteArray)).size + bt162.1.size ≤ 9223372036854775807 then (if ((((⟨#[40]⟩ : ByteArray) ++ bt160.1) ++ (⟨#[38]⟩ : ByteArray)) ++ bt162.1).size + 1 ≤ 9223372036854775807 then (some (((((⟨#[40]⟩ : ByteArray) ++ bt160.1) ++ (⟨#[38]⟩ : ByteArray)) ++ bt162.1) ++ (⟨#[41]⟩ : ByteArray), bt162.2)) else (none)) else (none))) else (none)) else (none))) else (if bt156.1 = 2 then ((spec_l20Sentence.f k x1000 bt156.2 x1 (wrap64 (x2 - 1))).bind fun bt164 => (if 1 + bt164.1.size ≤ 9223372036854775807 then (if ((⟨#[40]⟩ : ByteArray) ++ bt164.1).size + 1 ≤ 9223372036854775807 then ((spec_l20Sentence.f k x1000 bt164.2 x1 (wrap64 (x2 - 1))).bind fun bt166 => (if (((⟨#[40]⟩ : ByteArray) ++ bt164.1) ++ (⟨#[124]⟩ : ByteArray)).size + bt166.1.size ≤ 9223372036854775807 then (if ((((⟨#[40]⟩ : ByteArray) ++ bt164.1) ++ (⟨#[124]⟩ : ByteArray)) ++ bt166.1).size + 1 ≤ 9223372036854775807 then (some (((((⟨#[40]⟩ : ByteArray) ++ bt164.1) ++ (⟨#[124]⟩ : ByteArray)) ++ bt166.1) ++ (⟨#[41]⟩ : ByteArray), bt166.2)) else (none)) else (none))) else (none)) else (none))) else ((spec_l20Sentence.f k x1000 bt156.2 x1 (wrap64 (x2 - 1))).bind fun bt168 => (if 1 + bt168.1.size ≤ 9223372036854775807 then (if ((⟨#[40]⟩ : ByteArray) ++ bt168.1).size + 1 ≤ 9223372036854775807 then ((spec_l20Sentence.f k x1000 bt168.2 x1 (wrap64 (x2 - 1))).bind fun bt170 => (if (((⟨#[40]⟩ : ByteArray) ++ bt168.1) ++ (⟨#[62]⟩ : ByteArray)).size + bt170.1.size ≤ 9223372036854775807 then (if ((((⟨#[40]⟩ : ByteArray) ++ bt168.1) ++ (⟨#[62]⟩ : ByteArray)) ++ bt170.1).size + 1 ≤ 9223372036854775807 then (some (((((⟨#[40]⟩ : ByteArray) ++ bt168.1) ++ (⟨#[62]⟩ : ByteArray)) ++ bt170.1) ++ (⟨#[41]⟩ : ByteArray), bt170.2)) else (none)) else (none))) else (none)) else (none)))))))
def spec_l20Sentence.f : Nat → List Int → Int → Int → Int → Option (ByteArray × Int)
 | 0, _, _, _, _ => none
 | k + 1, s0_0, s0_1, a1, a2 => if a2 = 0 then (spec_l20Sentence.j0 k a1 a2 true s0_0 s0_1) else ((spec_l20Rd_pick.f k s0_0 s0_1 3).bind fun bt146 => (spec_l20Sentence.j0 k a1 a2 (bt146.1 == 0) s0_0 bt146.2))
end
theorem spec_l20Sentence.mono_l : ∀ k, (∀ y0 y1 y2 y3, LeO (spec_l20Sentence.f k y0 y1 y2 y3) (spec_l20Sentence.f (k + 1) y0 y1 y2 y3)) ∧ (∀ y0 y1 y2 y3 y4, LeO (spec_l20Sentence.j0 k y0 y1 y2 y3 y4) (spec_l20Sentence.j0 (k + 1) y0 y1 y2 y3 y4))
 | 0 => ⟨fun _ _ _ _ r h => by simp [spec_l20Sentence.f] at h, fun _ _ _ _ _ r h => by simp [spec_l20Sentence.j0] at h⟩
 | k + 1 => by
  obtain ⟨ih0, ih1⟩ := spec_l20Sentence.mono_l k
  refine ⟨?_, ?_⟩
  ·intro y0 y1 y2 y3
   unfold spec_l20Sentence.f
   repeat' first
   | (with_reducible exact ih0 _ _ _ _)
   | (with_reducible exact ih1 _ _ _ _ _)
   | (with_reducible exact spec_l20Rd_pick.mono _ _ _ _)
   | (with_reducible exact LeO.refl _)
   | (with_reducible exact LeO.none _)
   | (with_reducible refine LeO.ite ?_ ?_)
   | (with_reducible refine LeO.bind ?_ (fun _ => ?_))
   | refine LeO.ite ?_ ?_
   | refine LeO.bind ?_ (fun _ => ?_)
  ·intro y0 y1 y2 y3 y4
   unfold spec_l20Sentence.j0
   repeat' first
   | (with_reducible exact ih0 _ _ _ _)
   | (with_reducible exact ih1 _ _ _ _ _)
   | (with_reducible exact spec_l20Rd_pick.mono _ _ _ _)
   | (with_reducible exact LeO.refl _)
   | (with_reducible exact LeO.none _)
   | (with_reducible refine LeO.ite ?_ ?_)
   | (with_reducible refine LeO.bind ?_ (fun _ => ?_))
   | refine LeO.ite ?_ ?_
   | refine LeO.bind ?_ (fun _ => ?_)
theorem spec_l20Sentence.mono : ∀ a0 a1 a2 a3 k, LeO (spec_l20Sentence.f k a0 a1 a2 a3) (spec_l20Sentence.f (k + 1) a0 a1 a2 a3) := by
 intro a0 a1 a2 a3 k
 obtain ⟨ih0, ih1⟩ := spec_l20Sentence.mono_l k
 exact ih0 a0 a1 a2 a3
set_option maxHeartbeats 8000000 in
set_option maxRecDepth 100000 in
theorem spec_l20Sentence.calls (k : Nat) : ∀ (g : Nat) (s0_0 : List Int) (s0_1 : Int) (a1 : Int) (a2 : Int) (r1 : ByteArray) (r2 : Int) (w0 w : World) (hI : Iz w0 w g s0_0 s0_1) (hB : Below w0.heap.size w0 w) (h : spec_l20Sentence.f k s0_0 s0_1 a1 a2 = some (r1, r2)),
  Calls Try.prog 80 #[.pointer (some ⟨g, 0, none⟩), .int .i64 a1, .int .i64 a2] w fun e w' => e = .returned (.string r1) ∧ Iz w0 w' g s0_0 r2 ∧ Below w0.heap.size w0 w' ∧ Kbt w w' g none := by
 induction k using Nat.strongRecOn with
 | _ k ih =>
 intro g s0_0 s0_1 a1 a2 r1 r2 w0 w hI hB h
 cases k with
 | zero => exact absurd h (by simp [spec_l20Sentence.f])
 | succ k =>
 simp only [spec_l20Sentence.f] at h
 have HI0 := Asd.mk hI
 have HK := Asd.mk (Kbt.refl w g none)
 have HL := Asd.mk hB.size
 clear hI
 have HW0 := Asd.mk hB.size
 have HB := Asd.mk hB
 clear hB
 have H : (if a2 = 0 then (spec_l20Sentence.j0 k a1 a2 true s0_0 s0_1) else ((spec_l20Rd_pick.f k s0_0 s0_1 3).bind fun bt146 => (spec_l20Sentence.j0 k a1 a2 (bt146.1 == 0) s0_0 bt146.2))) = some (r1, r2) := h
 clear h
 have HC4 := Asd.mk H
 clear H
 go_enter Try.func80, Try.ntmps80
 go_upto_region 1 with (fail)
 go_cut [13] (fun v13 wc => ∃ (kq : Nat) (x13_3 : Bool) (x1001_3 : Int), v13 = .bool x13_3 ∧ Asd (spec_l20Sentence.j0 kq a1 a2 x13_3 s0_0 x1001_3 = some (r1, r2)) ∧ Asd (kq ≤ k) ∧ Asd (Iz w0 wc g s0_0 x1001_3) ∧ Asd (Kbt w wc g none) ∧ Asd (Below w0.heap.size w0 wc))
 case first =>
  have H := HC4.out
  clear HC4
  by_cases c5 : a2 = 0
  ·rw [if_pos c5] at H
   have c5b0 : (a2 == 0) = true := beq_iff_eq.mpr c5
   have c5b1 : (a2 != 0) = false := bne_eq_false_iff_eq.mpr c5
   clear c5
   (first | rw [c5b0] | (simp only [i64_w, i32_w]; rw [c5b0]) | skip)
   have H' := Asd.mk H
   clear H
   go_wp2
   go_meet
   case rel => exact ⟨_, (true), (s0_1), (by first | rfl | (simp; done) | (simp [*]; done)), H', ⟨by first | omega | exact Nat.le_refl _⟩, ⟨by repeat (with_reducible first | exact HI0.out | refine Iz.below ?_ StB.b | apply Iz.set_1)⟩, ⟨by repeat (with_reducible first | exact HK.out | apply Kbt.set_ | apply kpX)⟩, ⟨by repeat (with_reducible first | exact HB.out | apply bwX | refine bwS ?_ (Iz.ge HI0.out))⟩⟩
  ·rw [if_neg c5] at H
   have c5b0 : (a2 == 0) = false := beq_eq_false_iff_ne.mpr c5
   have c5b1 : (a2 != 0) = true := bne_iff_ne.mpr c5
   (first | rw [c5b0] | (simp only [i64_w, i32_w]; rw [c5b0]) | skip)
   replace H := Option.bind_eq_some_iff.mp H
   obtain ⟨⟨t146, t147⟩, A60, H⟩ := H
   try dsimp only at H
   have A6 := Asd.mk A60
   clear A60
   have H' := Asd.mk H
   clear H
   go_wp2_with (first | (go_at_call 82; (with_reducible refine (spec_l20Rd_pick.calls k g s0_0 s0_1 3 t146 t147 w0 _ ?side1 ?side2 A6.out).mono ?_); (case side1 => repeat (with_reducible first | exact HI0.out | refine Iz.below ?_ StB.b | apply Iz.set_1)); (case side2 => repeat (with_reducible first | exact HB.out | apply bwX | refine bwS ?_ (Iz.ge HI0.out))); rintro e w7 ⟨rfl, hi, hb, hk⟩; have n0_ := Asd.mk (Kbt.trans (by repeat (with_reducible first | exact HK.out | apply Kbt.set_ | apply kpX)) hk (.inl rfl)); have n1_ := Asd.mk (hb); have n2_ := Asd.mk (hi); clear HK; clear HB; clear HI0; have HK := n0_; have HB := n1_; have HI0 := n2_; clear n0_ n1_ n2_; (try clear hb); (try clear hb2); (try clear hk); (try clear hi)))
   go_meet
   case rel => exact ⟨_, ((t146 == 0)), (t147), (by first | rfl | (simp; done) | (simp [*]; done)), H', ⟨by first | omega | exact Nat.le_refl _⟩, ⟨by repeat (with_reducible first | exact HI0.out | refine Iz.below ?_ StB.b | apply Iz.set_1)⟩, ⟨by repeat (with_reducible first | exact HK.out | apply Kbt.set_ | apply kpX)⟩, ⟨by repeat (with_reducible first | exact HB.out | apply bwX | refine bwS ?_ (Iz.ge HI0.out))⟩⟩
 case rest =>
  clear HC4
  obtain ⟨kq, x13_3, x1001_3, rfl, HA, HJ3, HI0, HK, HB⟩ := hcut
  cases kq with
  | zero => exact absurd HA.out (by simp [spec_l20Sentence.j0])
  | succ kj3 =>
   have H := HA.out
   clear HA
   simp only [spec_l20Sentence.j0] at H
   by_cases c8 : x13_3 = true
   ·subst c8
    rw [if_pos rfl] at H
    obtain ⟨y148, hy148⟩ : ∃ y_ : List ByteArray, y_ = (([(⟨#[97]⟩ : ByteArray), (⟨#[98]⟩ : ByteArray), (⟨#[99]⟩ : ByteArray), (⟨#[97]⟩ : ByteArray), (⟨#[48]⟩ : ByteArray), (⟨#[49]⟩ : ByteArray)] : List ByteArray)) := ⟨_, rfl⟩
    replace H : ((spec_l20Rd_pick.f kj3 s0_0 x1001_3 8).bind fun bt151 => ((spec_l20Rd_pick.f kj3 s0_0 bt151.2 (wrap64 ((mx (mn a1 3) 1) + (wrap64 ((wrap64 (Int.tdiv bt151.1 7)) * 3))))).bind fun bt153 => (if 0 ≤ bt153.1 then (if bt153.1 < (y148.length : Int) then (some (rdOf ByteArray.empty y148 bt153.1, bt153.2)) else (none)) else (none)))) = some (r1, r2) := by first | (rw [hy148]; with_reducible exact H) | (have H2_ := (Option.bind_some _ _).symm.trans H; rw [hy148]; with_reducible exact H2_) | (have H2_ := (Option.bind_some _ _).symm.trans H; with_reducible exact H2_) | with_reducible exact H | (rw [hy148]; exact H) | exact H
    have Ny148 := Asd.mk hy148
    clear hy148
    obtain ⟨ji9, hji9⟩ : ∃ j_ : Int, (mn a1 3) = j_ := ⟨_, rfl⟩
    replace H : ((spec_l20Rd_pick.f kj3 s0_0 x1001_3 8).bind fun bt151 => ((spec_l20Rd_pick.f kj3 s0_0 bt151.2 (wrap64 ((mx (ji9) 1) + (wrap64 ((wrap64 (Int.tdiv bt151.1 7)) * 3))))).bind fun bt153 => (if 0 ≤ bt153.1 then (if bt153.1 < (y148.length : Int) then (some (rdOf ByteArray.empty y148 bt153.1, bt153.2)) else (none)) else (none)))) = some (r1, r2) := by first | (rw [hji9] at H; exact H) | (simp only [hji9] at H ⊢; exact H)
    have hji9_ : (if 3 < a1 then 3 else a1) = ji9 := hji9
    obtain ⟨ji10, hji10⟩ : ∃ j_ : Int, (mx (ji9) 1) = j_ := ⟨_, rfl⟩
    replace H : ((spec_l20Rd_pick.f kj3 s0_0 x1001_3 8).bind fun bt151 => ((spec_l20Rd_pick.f kj3 s0_0 bt151.2 (wrap64 ((ji10) + (wrap64 ((wrap64 (Int.tdiv bt151.1 7)) * 3))))).bind fun bt153 => (if 0 ≤ bt153.1 then (if bt153.1 < (y148.length : Int) then (some (rdOf ByteArray.empty y148 bt153.1, bt153.2)) else (none)) else (none)))) = some (r1, r2) := by first | (rw [hji10] at H; exact H) | (simp only [hji10] at H ⊢; exact H)
    have hji10_ : (if (ji9) < 1 then 1 else (ji9)) = ji10 := hji10
    replace H := Option.bind_eq_some_iff.mp H
    obtain ⟨⟨t151, t152⟩, A110, H⟩ := H
    try dsimp only at H
    have A11 := Asd.mk A110
    clear A110
    replace H := Option.bind_eq_some_iff.mp H
    obtain ⟨⟨t153, t154⟩, A120, H⟩ := H
    try dsimp only at H
    have A12 := Asd.mk A120
    clear A120
    by_cases c13 : 0 ≤ t153; rotate_left; (rw [if_neg c13] at H; exact absurd H (by simp))
    rw [if_pos c13] at H
    have c13b0 : decide (0 ≤ t153) = true := decide_eq_true c13
    clear c13
    by_cases c14 : t153 < (y148.length : Int); rotate_left; (rw [if_neg c14] at H; exact absurd H (by simp))
    rw [if_pos c14] at H
    have c14b0 : decide (t153 < (y148.length : Int)) = true := decide_eq_true c14
    clear c14
    simp only [Option.some.injEq, Prod.mk.injEq] at H
    obtain ⟨rfl, rfl⟩ := H
    go_wp2_with (first | ((with_reducible refine gate_dst (N := 14) rfl ?_); refine Kd.R_lit Kd.string _ 9 ?hg (N := 14) ?hd (xs := ([(⟨#[97]⟩ : ByteArray), (⟨#[98]⟩ : ByteArray), (⟨#[99]⟩ : ByteArray), (⟨#[97]⟩ : ByteArray), (⟨#[48]⟩ : ByteArray), (⟨#[49]⟩ : ByteArray)] : List ByteArray)) (inner := [.string (⟨#[97]⟩ : ByteArray), .string (⟨#[98]⟩ : ByteArray), .string (⟨#[99]⟩ : ByteArray), .string (⟨#[97]⟩ : ByteArray), .string (⟨#[48]⟩ : ByteArray), .string (⟨#[49]⟩ : ByteArray)]) (ok := fun _ => True) (okp := fun _ => True) ?hr ?hp (fun _ hk => hk) trivial (Below.refl _ _) (Nat.le_refl _) (by simp) ?_; (case hd => rfl); (case hg => rfl); (case hr => first | (go_simp; done) | (go_simp; rfl)); (case hp => exact (Reps.one (show Kd.M Kd.string _ _ _ (⟨#[97]⟩ : ByteArray) [.string (⟨#[97]⟩ : ByteArray)] from rfl) (Reps.one (show Kd.M Kd.string _ _ _ (⟨#[98]⟩ : ByteArray) [.string (⟨#[98]⟩ : ByteArray)] from rfl) (Reps.one (show Kd.M Kd.string _ _ _ (⟨#[99]⟩ : ByteArray) [.string (⟨#[99]⟩ : ByteArray)] from rfl) (Reps.one (show Kd.M Kd.string _ _ _ (⟨#[97]⟩ : ByteArray) [.string (⟨#[97]⟩ : ByteArray)] from rfl) (Reps.one (show Kd.M Kd.string _ _ _ (⟨#[48]⟩ : ByteArray) [.string (⟨#[48]⟩ : ByteArray)] from rfl) (Reps.one (show Kd.M Kd.string _ _ _ (⟨#[49]⟩ : ByteArray) [.string (⟨#[49]⟩ : ByteArray)] from rfl) (Reps.none _ _)))))))); intro v149 w15 ho16 hb hg_ hnew_; clear hg_ hnew_; (first | rw [← Ny148.out] at ho16 | (simp only [Int.reduceToNat] at ho16; rw [← Ny148.out] at ho16)); have n0_ := Asd.mk (Kd.R_lower ho16 (kpZ (w := w) (g := g) (row := none) (by repeat (with_reducible first | exact HK.out | apply Kbt.set_ | apply kpX)))); have n1_ := Asd.mk (Iz.below (by repeat (with_reducible first | exact HI0.out | refine Iz.below ?_ StB.b | apply Iz.set_1)) hb); have n2_ := Asd.mk (Kbt.trans (by repeat (with_reducible first | exact HK.out | apply Kbt.set_ | apply kpX)) (Kbt.of_below hb g none) (.inl rfl)); have n3_ := Asd.mk (bwP (by repeat (with_reducible first | exact HB.out | apply bwX | refine bwS ?_ (Iz.ge HI0.out))) hb); clear HI0; clear HK; clear HB; have HO150 := n0_; have HI0 := n1_; have HK := n2_; have HB := n3_; clear n0_ n1_ n2_ n3_; clear hb ho16) | ((with_reducible refine gate_callee (f := 82) rfl ?_); refine gsM (some 20) rfl rfl Try.func82 (by kernel_rfl) rfl #[.pointer (some ⟨g, 0, none⟩), .int .i64 8] rfl ?_; (with_reducible refine (spec_l20Rd_pick.calls kj3 g s0_0 x1001_3 8 t151 t152 w0 _ ?side1 ?side2 A11.out).mono ?_); (case side1 => repeat (with_reducible first | exact HI0.out | refine Iz.below ?_ StB.b | apply Iz.set_1)); (case side2 => repeat (with_reducible first | exact HB.out | apply bwX | refine bwS ?_ (Iz.ge HI0.out))); rintro e w17 ⟨rfl, hi, hb, hk⟩; refine ⟨_, rfl, ?_⟩; have n0_ := Asd.mk (Kd.R_mono (Kd.R_keep (Iz.apart (show Iz w0 _ g s0_0 x1001_3 from by repeat (with_reducible first | exact HI0.out | refine Iz.below ?_ StB.b | apply Iz.set_1)) (by (repeat apply Kd.RS); exact HO150.out) (by decide)) hk (fun _ h => h.2)) (fun _ h => h.1)); have n1_ := Asd.mk (Kbt.trans (by repeat (with_reducible first | exact HK.out | apply Kbt.set_ | apply kpX)) hk (.inl rfl)); have n2_ := Asd.mk (hb); have n3_ := Asd.mk (hi); clear HO150; clear HK; clear HB; clear HI0; have HO150 := n0_; have HK := n1_; have HB := n2_; have HI0 := n3_; clear n0_ n1_ n2_ n3_; (try clear hb); (try clear hb2); (try clear hk); (try clear hi)) | ((with_reducible refine gate_callee (f := 82) rfl ?_); refine gsL (some 24) rfl rfl Try.func82 (by kernel_rfl) rfl #[.pointer (some ⟨g, 0, none⟩), .int .i64 (wrap64 ((ji10) + (wrap64 ((wrap64 (Int.tdiv t151 7)) * 3))))] rfl (by (try simp only [List.map_toArray, List.map_cons, List.map_nil]); first | done | (simp only [hji10]; rfl) | rfl | (simp only [List.length_drop, List.length_take]; rfl)) ?_; (with_reducible refine (spec_l20Rd_pick.calls kj3 g s0_0 t152 (wrap64 ((ji10) + (wrap64 ((wrap64 (Int.tdiv t151 7)) * 3)))) t153 t154 w0 _ ?side1 ?side2 A12.out).mono ?_); (case side1 => repeat (with_reducible first | exact HI0.out | refine Iz.below ?_ StB.b | apply Iz.set_1)); (case side2 => repeat (with_reducible first | exact HB.out | apply bwX | refine bwS ?_ (Iz.ge HI0.out))); rintro e w18 ⟨rfl, hi, hb, hk⟩; refine ⟨_, rfl, ?_⟩; have n0_ := Asd.mk (Kd.R_mono (Kd.R_keep (Iz.apart (show Iz w0 _ g s0_0 t152 from by repeat (with_reducible first | exact HI0.out | refine Iz.below ?_ StB.b | apply Iz.set_1)) (by (repeat apply Kd.RS); exact HO150.out) (by decide)) hk (fun _ h => h.2)) (fun _ h => h.1)); have n1_ := Asd.mk (Kbt.trans (by repeat (with_reducible first | exact HK.out | apply Kbt.set_ | apply kpX)) hk (.inl rfl)); have n2_ := Asd.mk (hb); have n3_ := Asd.mk (hi); clear HO150; clear HK; clear HB; clear HI0; have HO150 := n0_; have HK := n1_; have HB := n2_; have HI0 := n3_; clear n0_ n1_ n2_ n3_; (try clear hb); (try clear hb2); (try clear hk); (try clear hi); obtain ⟨Ao19, co19, eo19⟩ := Kd.R_slice HO150.out; subst eo19; have p155 : 0 ≤ (t153 : Int) := odt; have q155 : t153 < (y148.length : Int) := odt; obtain ⟨ad155, e155, hx155_0⟩ := Kd.at_string (Kd.R_reads' HO150.out).2.2 t153 p155 q155; cases e155; replace p155 := eq_true p155; replace q155 := eq_true q155))
    go_ret
    exact ⟨by first | rfl | (simp [errW_none, errW_some] <;> rfl) | (simp only [← hji9, ← hji10]; first | rfl | (simp [errW_none, errW_some] <;> rfl)) | (simp [*, errW_none, errW_some] <;> rfl), by repeat (with_reducible first | exact HI0.out | refine Iz.below ?_ StB.b | apply Iz.set_1), by repeat (with_reducible first | exact HB.out | apply bwX | refine bwS ?_ (Iz.ge HI0.out)), by repeat (with_reducible first | exact HK.out | apply Kbt.set_ | apply kpX)⟩
   ·replace c8 := Bool.eq_false_iff.mpr c8
    subst c8
    rw [if_neg (show ¬ (false = true) by decide)] at H
    replace H := Option.bind_eq_some_iff.mp H
    obtain ⟨⟨t156, t157⟩, A200, H⟩ := H
    try dsimp only at H
    have A20 := Asd.mk A200
    clear A200
    by_cases c21 : t156 = 0
    ·rw [if_pos c21] at H
     have c21b0 : (t156 == 0) = true := beq_iff_eq.mpr c21
     have c21b1 : (t156 != 0) = false := bne_eq_false_iff_eq.mpr c21
     clear c21
     replace H := Option.bind_eq_some_iff.mp H
     obtain ⟨⟨t158, t159⟩, A220, H⟩ := H
     try dsimp only at H
     have A22 := Asd.mk A220
     clear A220
     by_cases c23 : 1 + t158.size ≤ 9223372036854775807; rotate_left; (rw [if_neg c23] at H; exact absurd H (by simp))
     rw [if_pos c23] at H
     have c23b0 := eq_true c23
     have c23b1 : decide (1 + t158.size ≤ 9223372036854775807) = true := decide_eq_true c23
     try have c23b2 : (9223372036854775807 < 1 + t158.size) = False := eq_false (Nat.not_lt.2 c23)
     simp only [Option.some.injEq, Prod.mk.injEq] at H
     obtain ⟨rfl, rfl⟩ := H
     go_wp2_with (first | ((with_reducible refine gate_callee (f := 82) rfl ?_); refine gsM (some 28) rfl rfl Try.func82 (by kernel_rfl) rfl #[.pointer (some ⟨g, 0, none⟩), .int .i64 4] rfl ?_; (with_reducible refine (spec_l20Rd_pick.calls kj3 g s0_0 x1001_3 4 t156 t157 w0 _ ?side1 ?side2 A20.out).mono ?_); (case side1 => repeat (with_reducible first | exact HI0.out | refine Iz.below ?_ StB.b | apply Iz.set_1)); (case side2 => repeat (with_reducible first | exact HB.out | apply bwX | refine bwS ?_ (Iz.ge HI0.out))); rintro e w24 ⟨rfl, hi, hb, hk⟩; refine ⟨_, rfl, ?_⟩; have n0_ := Asd.mk (Kbt.trans (by repeat (with_reducible first | exact HK.out | apply Kbt.set_ | apply kpX)) hk (.inl rfl)); have n1_ := Asd.mk (hb); have n2_ := Asd.mk (hi); clear HK; clear HB; clear HI0; have HK := n0_; have HB := n1_; have HI0 := n2_; clear n0_ n1_ n2_; (try clear hb); (try clear hb2); (try clear hk); (try clear hi)) | ((with_reducible refine gate_callee (f := 80) rfl ?_); refine gsM (some 35) rfl rfl Try.func80 (by kernel_rfl) rfl #[.pointer (some ⟨g, 0, none⟩), .int .i64 a1, .int .i64 (wrap64 (a2 - 1))] rfl ?_; (with_reducible refine (ih kj3 (by have := HJ3.out; omega) g s0_0 t157 a1 (wrap64 (a2 - 1)) t158 t159 w0 _ ?side1 ?side2 A22.out).mono ?_); (case side1 => repeat (with_reducible first | exact HI0.out | refine Iz.below ?_ StB.b | apply Iz.set_1)); (case side2 => repeat (with_reducible first | exact HB.out | apply bwX | refine bwS ?_ (Iz.ge HI0.out))); rintro e w25 ⟨rfl, hi, hb, hk⟩; refine ⟨_, rfl, ?_⟩; have n0_ := Asd.mk (Kbt.trans (by repeat (with_reducible first | exact HK.out | apply Kbt.set_ | apply kpX)) hk (.inl rfl)); have n1_ := Asd.mk (hb); have n2_ := Asd.mk (hi); clear HK; clear HB; clear HI0; have HK := n0_; have HB := n1_; have HI0 := n2_; clear n0_ n1_ n2_; (try clear hb); (try clear hb2); (try clear hk); (try clear hi)))
     go_ret
     exact ⟨by first | rfl | (simp [*, errW_none, errW_some] <;> rfl), by repeat (with_reducible first | exact HI0.out | refine Iz.below ?_ StB.b | apply Iz.set_1), by repeat (with_reducible first | exact HB.out | apply bwX | refine bwS ?_ (Iz.ge HI0.out)), by repeat (with_reducible first | exact HK.out | apply Kbt.set_ | apply kpX)⟩
    ·rw [if_neg c21] at H
     have c21b0 : (t156 == 0) = false := beq_eq_false_iff_ne.mpr c21
     have c21b1 : (t156 != 0) = true := bne_iff_ne.mpr c21
     by_cases c26 : t156 = 1
     ·rw [if_pos c26] at H
      have c26b0 : (t156 == 1) = true := beq_iff_eq.mpr c26
      have c26b1 : (t156 != 1) = false := bne_eq_false_iff_eq.mpr c26
      clear c26
      replace H := Option.bind_eq_some_iff.mp H
      obtain ⟨⟨t160, t161⟩, A270, H⟩ := H
      try dsimp only at H
      have A27 := Asd.mk A270
      clear A270
      by_cases c28 : 1 + t160.size ≤ 9223372036854775807; rotate_left; (rw [if_neg c28] at H; exact absurd H (by simp))
      rw [if_pos c28] at H
      have c28b0 := eq_true c28
      have c28b1 : decide (1 + t160.size ≤ 9223372036854775807) = true := decide_eq_true c28
      try have c28b2 : (9223372036854775807 < 1 + t160.size) = False := eq_false (Nat.not_lt.2 c28)
      by_cases c29 : ((⟨#[40]⟩ : ByteArray) ++ t160).size + 1 ≤ 9223372036854775807; rotate_left; (rw [if_neg c29] at H; exact absurd H (by simp))
      rw [if_pos c29] at H
      have c29b0 := eq_true c29
      have c29b1 : decide (((⟨#[40]⟩ : ByteArray) ++ t160).size + 1 ≤ 9223372036854775807) = true := decide_eq_true c29
      try have c29b2 : (9223372036854775807 < ((⟨#[40]⟩ : ByteArray) ++ t160).size + 1) = False := eq_false (Nat.not_lt.2 c29)
      try have c29b8 : (9223372036854775807 < 1 + t160.size + 1) = False := eq_false (by have h_ := c29; (repeat rw [ByteArray.size_append] at h_); exact Nat.not_lt.2 h_)
      replace H := Option.bind_eq_some_iff.mp H
      obtain ⟨⟨t162, t163⟩, A300, H⟩ := H
      try dsimp only at H
      have A30 := Asd.mk A300
      clear A300
      by_cases c31 : (((⟨#[40]⟩ : ByteArray) ++ t160) ++ (⟨#[38]⟩ : ByteArray)).size + t162.size ≤ 9223372036854775807; rotate_left; (rw [if_neg c31] at H; exact absurd H (by simp))
      rw [if_pos c31] at H
      have c31b0 := eq_true c31
      have c31b1 : decide ((((⟨#[40]⟩ : ByteArray) ++ t160) ++ (⟨#[38]⟩ : ByteArray)).size + t162.size ≤ 9223372036854775807) = true := decide_eq_true c31
      try have c31b2 : (9223372036854775807 < (((⟨#[40]⟩ : ByteArray) ++ t160) ++ (⟨#[38]⟩ : ByteArray)).size + t162.size) = False := eq_false (Nat.not_lt.2 c31)
      try have c31b8 : (9223372036854775807 < 1 + t160.size + 1 + t162.size) = False := eq_false (by have h_ := c31; (repeat rw [ByteArray.size_append] at h_); exact Nat.not_lt.2 h_)
      by_cases c32 : ((((⟨#[40]⟩ : ByteArray) ++ t160) ++ (⟨#[38]⟩ : ByteArray)) ++ t162).size + 1 ≤ 9223372036854775807; rotate_left; (rw [if_neg c32] at H; exact absurd H (by simp))
      rw [if_pos c32] at H
      have c32b0 := eq_true c32
      have c32b1 : decide (((((⟨#[40]⟩ : ByteArray) ++ t160) ++ (⟨#[38]⟩ : ByteArray)) ++ t162).size + 1 ≤ 9223372036854775807) = true := decide_eq_true c32
      try have c32b2 : (9223372036854775807 < ((((⟨#[40]⟩ : ByteArray) ++ t160) ++ (⟨#[38]⟩ : ByteArray)) ++ t162).size + 1) = False := eq_false (Nat.not_lt.2 c32)
      try have c32b8 : (9223372036854775807 < 1 + t160.size + 1 + t162.size + 1) = False := eq_false (by have h_ := c32; (repeat rw [ByteArray.size_append] at h_); exact Nat.not_lt.2 h_)
      simp only [Option.some.injEq, Prod.mk.injEq] at H
      obtain ⟨rfl, rfl⟩ := H
      go_wp2_with (first | ((with_reducible refine gate_callee (f := 82) rfl ?_); refine gsM (some 28) rfl rfl Try.func82 (by kernel_rfl) rfl #[.pointer (some ⟨g, 0, none⟩), .int .i64 4] rfl ?_; (with_reducible refine (spec_l20Rd_pick.calls kj3 g s0_0 x1001_3 4 t156 t157 w0 _ ?side1 ?side2 A20.out).mono ?_); (case side1 => repeat (with_reducible first | exact HI0.out | refine Iz.below ?_ StB.b | apply Iz.set_1)); (case side2 => repeat (with_reducible first | exact HB.out | apply bwX | refine bwS ?_ (Iz.ge HI0.out))); rintro e w33 ⟨rfl, hi, hb, hk⟩; refine ⟨_, rfl, ?_⟩; have n0_ := Asd.mk (Kbt.trans (by repeat (with_reducible first | exact HK.out | apply Kbt.set_ | apply kpX)) hk (.inl rfl)); have n1_ := Asd.mk (hb); have n2_ := Asd.mk (hi); clear HK; clear HB; clear HI0; have HK := n0_; have HB := n1_; have HI0 := n2_; clear n0_ n1_ n2_; (try clear hb); (try clear hb2); (try clear hk); (try clear hi)) | ((with_reducible refine gate_callee (f := 80) rfl ?_); refine gsM (some 43) rfl rfl Try.func80 (by kernel_rfl) rfl #[.pointer (some ⟨g, 0, none⟩), .int .i64 a1, .int .i64 (wrap64 (a2 - 1))] rfl ?_; (with_reducible refine (ih kj3 (by have := HJ3.out; omega) g s0_0 t157 a1 (wrap64 (a2 - 1)) t160 t161 w0 _ ?side1 ?side2 A27.out).mono ?_); (case side1 => repeat (with_reducible first | exact HI0.out | refine Iz.below ?_ StB.b | apply Iz.set_1)); (case side2 => repeat (with_reducible first | exact HB.out | apply bwX | refine bwS ?_ (Iz.ge HI0.out))); rintro e w34 ⟨rfl, hi, hb, hk⟩; refine ⟨_, rfl, ?_⟩; have n0_ := Asd.mk (Kbt.trans (by repeat (with_reducible first | exact HK.out | apply Kbt.set_ | apply kpX)) hk (.inl rfl)); have n1_ := Asd.mk (hb); have n2_ := Asd.mk (hi); clear HK; clear HB; clear HI0; have HK := n0_; have HB := n1_; have HI0 := n2_; clear n0_ n1_ n2_; (try clear hb); (try clear hb2); (try clear hk); (try clear hi)) | ((with_reducible refine gate_callee (f := 80) rfl ?_); refine gsM (some 50) rfl rfl Try.func80 (by kernel_rfl) rfl #[.pointer (some ⟨g, 0, none⟩), .int .i64 a1, .int .i64 (wrap64 (a2 - 1))] rfl ?_; (with_reducible refine (ih kj3 (by have := HJ3.out; omega) g s0_0 t161 a1 (wrap64 (a2 - 1)) t162 t163 w0 _ ?side1 ?side2 A30.out).mono ?_); (case side1 => repeat (with_reducible first | exact HI0.out | refine Iz.below ?_ StB.b | apply Iz.set_1)); (case side2 => repeat (with_reducible first | exact HB.out | apply bwX | refine bwS ?_ (Iz.ge HI0.out))); rintro e w35 ⟨rfl, hi, hb, hk⟩; refine ⟨_, rfl, ?_⟩; have n0_ := Asd.mk (Kbt.trans (by repeat (with_reducible first | exact HK.out | apply Kbt.set_ | apply kpX)) hk (.inl rfl)); have n1_ := Asd.mk (hb); have n2_ := Asd.mk (hi); clear HK; clear HB; clear HI0; have HK := n0_; have HB := n1_; have HI0 := n2_; clear n0_ n1_ n2_; (try clear hb); (try clear hb2); (try clear hk); (try clear hi)))
      go_ret
      exact ⟨by first | rfl | (simp [*, errW_none, errW_some] <;> rfl), by repeat (with_reducible first | exact HI0.out | refine Iz.below ?_ StB.b | apply Iz.set_1), by repeat (with_reducible first | exact HB.out | apply bwX | refine bwS ?_ (Iz.ge HI0.out)), by repeat (with_reducible first | exact HK.out | apply Kbt.set_ | apply kpX)⟩
     ·rw [if_neg c26] at H
      have c26b0 : (t156 == 1) = false := beq_eq_false_iff_ne.mpr c26
      have c26b1 : (t156 != 1) = true := bne_iff_ne.mpr c26
      by_cases c36 : t156 = 2
      ·rw [if_pos c36] at H
       have c36b0 : (t156 == 2) = true := beq_iff_eq.mpr c36
       have c36b1 : (t156 != 2) = false := bne_eq_false_iff_eq.mpr c36
       clear c36
       replace H := Option.bind_eq_some_iff.mp H
       obtain ⟨⟨t164, t165⟩, A370, H⟩ := H
       try dsimp only at H
       have A37 := Asd.mk A370
       clear A370
       by_cases c38 : 1 + t164.size ≤ 9223372036854775807; rotate_left; (rw [if_neg c38] at H; exact absurd H (by simp))
       rw [if_pos c38] at H
       have c38b0 := eq_true c38
       have c38b1 : decide (1 + t164.size ≤ 9223372036854775807) = true := decide_eq_true c38
       try have c38b2 : (9223372036854775807 < 1 + t164.size) = False := eq_false (Nat.not_lt.2 c38)
       by_cases c39 : ((⟨#[40]⟩ : ByteArray) ++ t164).size + 1 ≤ 9223372036854775807; rotate_left; (rw [if_neg c39] at H; exact absurd H (by simp))
       rw [if_pos c39] at H
       have c39b0 := eq_true c39
       have c39b1 : decide (((⟨#[40]⟩ : ByteArray) ++ t164).size + 1 ≤ 9223372036854775807) = true := decide_eq_true c39
       try have c39b2 : (9223372036854775807 < ((⟨#[40]⟩ : ByteArray) ++ t164).size + 1) = False := eq_false (Nat.not_lt.2 c39)
       try have c39b8 : (9223372036854775807 < 1 + t164.size + 1) = False := eq_false (by have h_ := c39; (repeat rw [ByteArray.size_append] at h_); exact Nat.not_lt.2 h_)
       replace H := Option.bind_eq_some_iff.mp H
       obtain ⟨⟨t166, t167⟩, A400, H⟩ := H
       try dsimp only at H
       have A40 := Asd.mk A400
       clear A400
       by_cases c41 : (((⟨#[40]⟩ : ByteArray) ++ t164) ++ (⟨#[124]⟩ : ByteArray)).size + t166.size ≤ 9223372036854775807; rotate_left; (rw [if_neg c41] at H; exact absurd H (by simp))
       rw [if_pos c41] at H
       have c41b0 := eq_true c41
       have c41b1 : decide ((((⟨#[40]⟩ : ByteArray) ++ t164) ++ (⟨#[124]⟩ : ByteArray)).size + t166.size ≤ 9223372036854775807) = true := decide_eq_true c41
       try have c41b2 : (9223372036854775807 < (((⟨#[40]⟩ : ByteArray) ++ t164) ++ (⟨#[124]⟩ : ByteArray)).size + t166.size) = False := eq_false (Nat.not_lt.2 c41)
       try have c41b8 : (9223372036854775807 < 1 + t164.size + 1 + t166.size) = False := eq_false (by have h_ := c41; (repeat rw [ByteArray.size_append] at h_); exact Nat.not_lt.2 h_)
       by_cases c42 : ((((⟨#[40]⟩ : ByteArray) ++ t164) ++ (⟨#[124]⟩ : ByteArray)) ++ t166).size + 1 ≤ 9223372036854775807; rotate_left; (rw [if_neg c42] at H; exact absurd H (by simp))
       rw [if_pos c42] at H
       have c42b0 := eq_true c42
       have c42b1 : decide (((((⟨#[40]⟩ : ByteArray) ++ t164) ++ (⟨#[124]⟩ : ByteArray)) ++ t166).size + 1 ≤ 9223372036854775807) = true := decide_eq_true c42
       try have c42b2 : (9223372036854775807 < ((((⟨#[40]⟩ : ByteArray) ++ t164) ++ (⟨#[124]⟩ : ByteArray)) ++ t166).size + 1) = False := eq_false (Nat.not_lt.2 c42)
       try have c42b8 : (9223372036854775807 < 1 + t164.size + 1 + t166.size + 1) = False := eq_false (by have h_ := c42; (repeat rw [ByteArray.size_append] at h_); exact Nat.not_lt.2 h_)
       simp only [Option.some.injEq, Prod.mk.injEq] at H
       obtain ⟨rfl, rfl⟩ := H
       go_wp2_with (first | ((with_reducible refine gate_callee (f := 82) rfl ?_); refine gsM (some 28) rfl rfl Try.func82 (by kernel_rfl) rfl #[.pointer (some ⟨g, 0, none⟩), .int .i64 4] rfl ?_; (with_reducible refine (spec_l20Rd_pick.calls kj3 g s0_0 x1001_3 4 t156 t157 w0 _ ?side1 ?side2 A20.out).mono ?_); (case side1 => repeat (with_reducible first | exact HI0.out | refine Iz.below ?_ StB.b | apply Iz.set_1)); (case side2 => repeat (with_reducible first | exact HB.out | apply bwX | refine bwS ?_ (Iz.ge HI0.out))); rintro e w43 ⟨rfl, hi, hb, hk⟩; refine ⟨_, rfl, ?_⟩; have n0_ := Asd.mk (Kbt.trans (by repeat (with_reducible first | exact HK.out | apply Kbt.set_ | apply kpX)) hk (.inl rfl)); have n1_ := Asd.mk (hb); have n2_ := Asd.mk (hi); clear HK; clear HB; clear HI0; have HK := n0_; have HB := n1_; have HI0 := n2_; clear n0_ n1_ n2_; (try clear hb); (try clear hb2); (try clear hk); (try clear hi)) | ((with_reducible refine gate_callee (f := 80) rfl ?_); refine gsM (some 59) rfl rfl Try.func80 (by kernel_rfl) rfl #[.pointer (some ⟨g, 0, none⟩), .int .i64 a1, .int .i64 (wrap64 (a2 - 1))] rfl ?_; (with_reducible refine (ih kj3 (by have := HJ3.out; omega) g s0_0 t157 a1 (wrap64 (a2 - 1)) t164 t165 w0 _ ?side1 ?side2 A37.out).mono ?_); (case side1 => repeat (with_reducible first | exact HI0.out | refine Iz.below ?_ StB.b | apply Iz.set_1)); (case side2 => repeat (with_reducible first | exact HB.out | apply bwX | refine bwS ?_ (Iz.ge HI0.out))); rintro e w44 ⟨rfl, hi, hb, hk⟩; refine ⟨_, rfl, ?_⟩; have n0_ := Asd.mk (Kbt.trans (by repeat (with_reducible first | exact HK.out | apply Kbt.set_ | apply kpX)) hk (.inl rfl)); have n1_ := Asd.mk (hb); have n2_ := Asd.mk (hi); clear HK; clear HB; clear HI0; have HK := n0_; have HB := n1_; have HI0 := n2_; clear n0_ n1_ n2_; (try clear hb); (try clear hb2); (try clear hk); (try clear hi)) | ((with_reducible refine gate_callee (f := 80) rfl ?_); refine gsM (some 66) rfl rfl Try.func80 (by kernel_rfl) rfl #[.pointer (some ⟨g, 0, none⟩), .int .i64 a1, .int .i64 (wrap64 (a2 - 1))] rfl ?_; (with_reducible refine (ih kj3 (by have := HJ3.out; omega) g s0_0 t165 a1 (wrap64 (a2 - 1)) t166 t167 w0 _ ?side1 ?side2 A40.out).mono ?_); (case side1 => repeat (with_reducible first | exact HI0.out | refine Iz.below ?_ StB.b | apply Iz.set_1)); (case side2 => repeat (with_reducible first | exact HB.out | apply bwX | refine bwS ?_ (Iz.ge HI0.out))); rintro e w45 ⟨rfl, hi, hb, hk⟩; refine ⟨_, rfl, ?_⟩; have n0_ := Asd.mk (Kbt.trans (by repeat (with_reducible first | exact HK.out | apply Kbt.set_ | apply kpX)) hk (.inl rfl)); have n1_ := Asd.mk (hb); have n2_ := Asd.mk (hi); clear HK; clear HB; clear HI0; have HK := n0_; have HB := n1_; have HI0 := n2_; clear n0_ n1_ n2_; (try clear hb); (try clear hb2); (try clear hk); (try clear hi)))
       go_ret
       exact ⟨by first | rfl | (simp [*, errW_none, errW_some] <;> rfl), by repeat (with_reducible first | exact HI0.out | refine Iz.below ?_ StB.b | apply Iz.set_1), by repeat (with_reducible first | exact HB.out | apply bwX | refine bwS ?_ (Iz.ge HI0.out)), by repeat (with_reducible first | exact HK.out | apply Kbt.set_ | apply kpX)⟩
      ·rw [if_neg c36] at H
       have c36b0 : (t156 == 2) = false := beq_eq_false_iff_ne.mpr c36
       have c36b1 : (t156 != 2) = true := bne_iff_ne.mpr c36
       replace H := Option.bind_eq_some_iff.mp H
       obtain ⟨⟨t168, t169⟩, A460, H⟩ := H
       try dsimp only at H
       have A46 := Asd.mk A460
       clear A460
       by_cases c47 : 1 + t168.size ≤ 9223372036854775807; rotate_left; (rw [if_neg c47] at H; exact absurd H (by simp))
       rw [if_pos c47] at H
       have c47b0 := eq_true c47
       have c47b1 : decide (1 + t168.size ≤ 9223372036854775807) = true := decide_eq_true c47
       try have c47b2 : (9223372036854775807 < 1 + t168.size) = False := eq_false (Nat.not_lt.2 c47)
       by_cases c48 : ((⟨#[40]⟩ : ByteArray) ++ t168).size + 1 ≤ 9223372036854775807; rotate_left; (rw [if_neg c48] at H; exact absurd H (by simp))
       rw [if_pos c48] at H
       have c48b0 := eq_true c48
       have c48b1 : decide (((⟨#[40]⟩ : ByteArray) ++ t168).size + 1 ≤ 9223372036854775807) = true := decide_eq_true c48
       try have c48b2 : (9223372036854775807 < ((⟨#[40]⟩ : ByteArray) ++ t168).size + 1) = False := eq_false (Nat.not_lt.2 c48)
       try have c48b8 : (9223372036854775807 < 1 + t168.size + 1) = False := eq_false (by have h_ := c48; (repeat rw [ByteArray.size_append] at h_); exact Nat.not_lt.2 h_)
       replace H := Option.bind_eq_some_iff.mp H
       obtain ⟨⟨t170, t171⟩, A490, H⟩ := H
       try dsimp only at H
       have A49 := Asd.mk A490
       clear A490
       by_cases c50 : (((⟨#[40]⟩ : ByteArray) ++ t168) ++ (⟨#[62]⟩ : ByteArray)).size + t170.size ≤ 9223372036854775807; rotate_left; (rw [if_neg c50] at H; exact absurd H (by simp))
       rw [if_pos c50] at H
       have c50b0 := eq_true c50
       have c50b1 : decide ((((⟨#[40]⟩ : ByteArray) ++ t168) ++ (⟨#[62]⟩ : ByteArray)).size + t170.size ≤ 9223372036854775807) = true := decide_eq_true c50
       try have c50b2 : (9223372036854775807 < (((⟨#[40]⟩ : ByteArray) ++ t168) ++ (⟨#[62]⟩ : ByteArray)).size + t170.size) = False := eq_false (Nat.not_lt.2 c50)
       try have c50b8 : (9223372036854775807 < 1 + t168.size + 1 + t170.size) = False := eq_false (by have h_ := c50; (repeat rw [ByteArray.size_append] at h_); exact Nat.not_lt.2 h_)
       by_cases c51 : ((((⟨#[40]⟩ : ByteArray) ++ t168) ++ (⟨#[62]⟩ : ByteArray)) ++ t170).size + 1 ≤ 9223372036854775807; rotate_left; (rw [if_neg c51] at H; exact absurd H (by simp))
       rw [if_pos c51] at H
       have c51b0 := eq_true c51
       have c51b1 : decide (((((⟨#[40]⟩ : ByteArray) ++ t168) ++ (⟨#[62]⟩ : ByteArray)) ++ t170).size + 1 ≤ 9223372036854775807) = true := decide_eq_true c51
       try have c51b2 : (9223372036854775807 < ((((⟨#[40]⟩ : ByteArray) ++ t168) ++ (⟨#[62]⟩ : ByteArray)) ++ t170).size + 1) = False := eq_false (Nat.not_lt.2 c51)
       try have c51b8 : (9223372036854775807 < 1 + t168.size + 1 + t170.size + 1) = False := eq_false (by have h_ := c51; (repeat rw [ByteArray.size_append] at h_); exact Nat.not_lt.2 h_)
       simp only [Option.some.injEq, Prod.mk.injEq] at H
       obtain ⟨rfl, rfl⟩ := H
       go_wp2_with (first | ((with_reducible refine gate_callee (f := 82) rfl ?_); refine gsM (some 28) rfl rfl Try.func82 (by kernel_rfl) rfl #[.pointer (some ⟨g, 0, none⟩), .int .i64 4] rfl ?_; (with_reducible refine (spec_l20Rd_pick.calls kj3 g s0_0 x1001_3 4 t156 t157 w0 _ ?side1 ?side2 A20.out).mono ?_); (case side1 => repeat (with_reducible first | exact HI0.out | refine Iz.below ?_ StB.b | apply Iz.set_1)); (case side2 => repeat (with_reducible first | exact HB.out | apply bwX | refine bwS ?_ (Iz.ge HI0.out))); rintro e w52 ⟨rfl, hi, hb, hk⟩; refine ⟨_, rfl, ?_⟩; have n0_ := Asd.mk (Kbt.trans (by repeat (with_reducible first | exact HK.out | apply Kbt.set_ | apply kpX)) hk (.inl rfl)); have n1_ := Asd.mk (hb); have n2_ := Asd.mk (hi); clear HK; clear HB; clear HI0; have HK := n0_; have HB := n1_; have HI0 := n2_; clear n0_ n1_ n2_; (try clear hb); (try clear hb2); (try clear hk); (try clear hi)) | ((with_reducible refine gate_callee (f := 80) rfl ?_); refine gsM (some 73) rfl rfl Try.func80 (by kernel_rfl) rfl #[.pointer (some ⟨g, 0, none⟩), .int .i64 a1, .int .i64 (wrap64 (a2 - 1))] rfl ?_; (with_reducible refine (ih kj3 (by have := HJ3.out; omega) g s0_0 t157 a1 (wrap64 (a2 - 1)) t168 t169 w0 _ ?side1 ?side2 A46.out).mono ?_); (case side1 => repeat (with_reducible first | exact HI0.out | refine Iz.below ?_ StB.b | apply Iz.set_1)); (case side2 => repeat (with_reducible first | exact HB.out | apply bwX | refine bwS ?_ (Iz.ge HI0.out))); rintro e w53 ⟨rfl, hi, hb, hk⟩; refine ⟨_, rfl, ?_⟩; have n0_ := Asd.mk (Kbt.trans (by repeat (with_reducible first | exact HK.out | apply Kbt.set_ | apply kpX)) hk (.inl rfl)); have n1_ := Asd.mk (hb); have n2_ := Asd.mk (hi); clear HK; clear HB; clear HI0; have HK := n0_; have HB := n1_; have HI0 := n2_; clear n0_ n1_ n2_; (try clear hb); (try clear hb2); (try clear hk); (try clear hi)) | ((with_reducible refine gate_callee (f := 80) rfl ?_); refine gsM (some 80) rfl rfl Try.func80 (by kernel_rfl) rfl #[.pointer (some ⟨g, 0, none⟩), .int .i64 a1, .int .i64 (wrap64 (a2 - 1))] rfl ?_; (with_reducible refine (ih kj3 (by have := HJ3.out; omega) g s0_0 t169 a1 (wrap64 (a2 - 1)) t170 t171 w0 _ ?side1 ?side2 A49.out).mono ?_); (case side1 => repeat (with_reducible first | exact HI0.out | refine Iz.below ?_ StB.b | apply Iz.set_1)); (case side2 => repeat (with_reducible first | exact HB.out | apply bwX | refine bwS ?_ (Iz.ge HI0.out))); rintro e w54 ⟨rfl, hi, hb, hk⟩; refine ⟨_, rfl, ?_⟩; have n0_ := Asd.mk (Kbt.trans (by repeat (with_reducible first | exact HK.out | apply Kbt.set_ | apply kpX)) hk (.inl rfl)); have n1_ := Asd.mk (hb); have n2_ := Asd.mk (hi); clear HK; clear HB; clear HI0; have HK := n0_; have HB := n1_; have HI0 := n2_; clear n0_ n1_ n2_; (try clear hb); (try clear hb2); (try clear hk); (try clear hi)))
       go_ret
       exact ⟨by first | rfl | (simp [*, errW_none, errW_some] <;> rfl), by repeat (with_reducible first | exact HI0.out | refine Iz.below ?_ StB.b | apply Iz.set_1), by repeat (with_reducible first | exact HB.out | apply bwX | refine bwS ?_ (Iz.ge HI0.out)), by repeat (with_reducible first | exact HK.out | apply Kbt.set_ | apply kpX)⟩

/-! ### spec_l20Rd_odd: function 81 -/
def spec_l20Rd_odd.f (k : Nat) (s0_0 : List Int) (s0_1 : Int) (a1 : Int) : Option (Bool × Int) := if a1 > 0 then ((spec_l20Rd_pick.f k s0_0 s0_1 a1).bind fun bt172 => (some ((bt172.1 == (wrap64 (a1 - 1))), bt172.2))) else (some (false, s0_1))
theorem spec_l20Rd_odd.mono : ∀ a0 a1 a2 k, LeO (spec_l20Rd_odd.f k a0 a1 a2) (spec_l20Rd_odd.f (k + 1) a0 a1 a2) := by
 intro a0 a1 a2 k
 unfold spec_l20Rd_odd.f
 repeat' first
   | (with_reducible exact spec_l20Rd_pick.mono _ _ _ _)
   | (with_reducible exact LeO.refl _)
   | (with_reducible exact LeO.none _)
   | (with_reducible refine LeO.ite ?_ ?_)
   | (with_reducible refine LeO.bind ?_ (fun _ => ?_))
   | refine LeO.ite ?_ ?_
   | refine LeO.bind ?_ (fun _ => ?_)
set_option maxHeartbeats 8000000 in
set_option maxRecDepth 100000 in
theorem spec_l20Rd_odd.calls (k : Nat) (g : Nat) (s0_0 : List Int) (s0_1 : Int) (a1 : Int) (r1 : Bool) (r2 : Int) (w0 w : World) (hI : Iz w0 w g s0_0 s0_1) (hB : Below w0.heap.size w0 w) (h : spec_l20Rd_odd.f k s0_0 s0_1 a1 = some (r1, r2)) :
  Calls Try.prog 81 #[.pointer (some ⟨g, 0, none⟩), .int .i64 a1] w fun e w' => e = .returned (.bool r1) ∧ Iz w0 w' g s0_0 r2 ∧ Below w0.heap.size w0 w' ∧ Kbt w w' g none := by
 have HI0 := Asd.mk hI
 have HK := Asd.mk (Kbt.refl w g none)
 have HL := Asd.mk hB.size
 clear hI
 have HW0 := Asd.mk hB.size
 have HB := Asd.mk hB
 clear hB
 have H : (if a1 > 0 then ((spec_l20Rd_pick.f k s0_0 s0_1 a1).bind fun bt172 => (some ((bt172.1 == (wrap64 (a1 - 1))), bt172.2))) else (some (false, s0_1))) = some (r1, r2) := h
 clear h
 by_cases c3 : a1 > 0
 ·rw [if_pos c3] at H
  have c3b0 : decide (0 < a1) = true := decide_eq_true c3
  clear c3
  replace H := Option.bind_eq_some_iff.mp H
  obtain ⟨⟨t172, t173⟩, A40, H⟩ := H
  try dsimp only at H
  have A4 := Asd.mk A40
  clear A40
  simp only [Option.some.injEq, Prod.mk.injEq] at H
  obtain ⟨rfl, rfl⟩ := H
  go_enter Try.func81, Try.ntmps81
  go_wp2_with (first | (go_at_call 82; (with_reducible refine (spec_l20Rd_pick.calls k g s0_0 s0_1 a1 t172 t173 w0 _ ?side1 ?side2 A4.out).mono ?_); (case side1 => repeat (with_reducible first | exact HI0.out | refine Iz.below ?_ StB.b | apply Iz.set_1)); (case side2 => repeat (with_reducible first | exact HB.out | apply bwX | refine bwS ?_ (Iz.ge HI0.out))); rintro e w5 ⟨rfl, hi, hb, hk⟩; have n0_ := Asd.mk (Kbt.trans (by repeat (with_reducible first | exact HK.out | apply Kbt.set_ | apply kpX)) hk (.inl rfl)); have n1_ := Asd.mk (hb); have n2_ := Asd.mk (hi); clear HK; clear HB; clear HI0; have HK := n0_; have HB := n1_; have HI0 := n2_; clear n0_ n1_ n2_; (try clear hb); (try clear hb2); (try clear hk); (try clear hi)))
  go_ret
  exact ⟨by first | rfl | (simp [*, errW_none, errW_some] <;> rfl), by repeat (with_reducible first | exact HI0.out | refine Iz.below ?_ StB.b | apply Iz.set_1), by repeat (with_reducible first | exact HB.out | apply bwX | refine bwS ?_ (Iz.ge HI0.out)), by repeat (with_reducible first | exact HK.out | apply Kbt.set_ | apply kpX)⟩
 ·rw [if_neg c3] at H
  have c3b0 : decide (0 < a1) = false := decide_eq_false c3
  clear c3
  simp only [Option.some.injEq, Prod.mk.injEq] at H
  obtain ⟨rfl, rfl⟩ := H
  go_enter Try.func81, Try.ntmps81
  go_wp2
  go_ret
  exact ⟨by first | rfl | (simp [*, errW_none, errW_some] <;> rfl), by repeat (with_reducible first | exact HI0.out | refine Iz.below ?_ StB.b | apply Iz.set_1), by repeat (with_reducible first | exact HB.out | apply bwX | refine bwS ?_ (Iz.ge HI0.out)), by repeat (with_reducible first | exact HK.out | apply Kbt.set_ | apply kpX)⟩

end Go.Proofs.Ytihgpkohglcijaa.P
