-- Written by a program of this session (wip/hook.py), which runs the kit's printer; Lean checks it.
import Derived.Test.YtihgpkohglcijaaPx0
import Derived.Test.YtihgpkohglcijaaPx3
namespace Go.Proofs.Ytihgpkohglcijaa.P
open Go.RowKit Go.Proofs.YtihgpkohglcijaaW.PrintWords Go.Proofs.YtihgpkohglcijaaW.PrintLast Go.Proofs.YtihgpkohglcijaaW.PrintMore
attribute [local go_sem] max2_int min2_int max_two min_two max_three min_three max_four min_four   -- for this text's walks alone
set_option linter.unusedVariables false
set_option linter.unusedSimpArgs false

/-! ### spec_l20Sentence: function 80 -/
mutual
def spec_l20Sentence.j0 : Nat → Int → Int → Bool → List Int → Int → Option (ByteArray × Int)
 | 0, _, _, _, _, _ => none
 | k + 1, x1, x2, x13, x1000, x1001 => if x13 = true then ((some (([(⟨#[97]⟩ : ByteArray), (⟨#[98]⟩ : ByteArray), (⟨#[99]⟩ : ByteArray), (⟨#[97]⟩ : ByteArray), (⟨#[48]⟩ : ByteArray), (⟨#[49]⟩ : ByteArray)] : List ByteArray) : List ByteArray)).bind fun y135 => ((spec_l20Rd_pick.f k x1000 x1001 8).bind fun bt138 => ((spec_l20Rd_pick.f k x1000 bt138.2 (wrap64 ((mx (mn x1 3) 1) + (wrap64 ((wrap64 (Int.tdiv bt138.1 7)) * 3))))).bind fun bt140 => (if 0 ≤ bt140.1 then (if bt140.1 < (y135.length : Int) then (some (rdOf ByteArray.empty y135 bt140.1, bt140.2)) else (none)) else (none))))) else ((spec_l20Rd_pick.f k x1000 x1001 4).bind fun bt143 => (if bt143.1 = 0 then ((spec_l20Sentence.f k x1000 bt143.2 x1 (wrap64 (x2 - 1))).bind fun bt145 => (if 1 + bt145.1.size ≤ 9223372036854775807 then (some ((⟨#[33]⟩ : ByteArray) ++ bt145.1, bt145.2)) else (none))) else (if bt143.1 = 1 then ((spec_l20Sentence.f k x1000 bt143.2 x1 (wrap64 (x2 - 1))).bind fun bt147 => (if 1 + bt147.1.size ≤ 9223372036854775807 then (if ((⟨#[40]⟩ : ByteArray) ++ bt147.1).size + 1 ≤ 9223372036854775807 then ((spec_l20Sentence.f k x1000 bt147.2 x1 (wrap64 (x2 - 1))).bind fun bt149 => (if (((⟨#[40]⟩ : ByteArray) ++ bt147.1) ++ (⟨#[38]⟩ : ByteArray)).size + bt149.1.size ≤ 9223372036854775807 then (if ((((⟨#[40]⟩ : ByteArray) ++ bt147.1) ++ (⟨#[38]⟩ : ByteArray)) ++ bt149.1).size + 1 ≤ 9223372036854775807 then (some (((((⟨#[40]⟩ : ByteArray) ++ bt147.1) ++ (⟨#[38]⟩ : ByteArray)) ++ bt149.1) ++ (⟨#[41]⟩ : ByteArray), bt149.2)) else (none)) else (none))) else (none)) else (none))) else (if bt143.1 = 2 then ((spec_l20Sentence.f k x1000 bt143.2 x1 (wrap64 (x2 - 1))).bind fun bt151 => (if 1 + bt151.1.size ≤ 9223372036854775807 then (if ((⟨#[40]⟩ : ByteArray) ++ bt151.1).size + 1 ≤ 9223372036854775807 then ((spec_l20Sentence.f k x1000 bt151.2 x1 (wrap64 (x2 - 1))).bind fun bt153 => (if (((⟨#[40]⟩ : ByteArray) ++ bt151.1) ++ (⟨#[124]⟩ : ByteArray)).size + bt153.1.size ≤ 9223372036854775807 then (if ((((⟨#[40]⟩ : ByteArray) ++ bt151.1) ++ (⟨#[124]⟩ : ByteArray)) ++ bt153.1).size + 1 ≤ 9223372036854775807 then (some (((((⟨#[40]⟩ : ByteArray) ++ bt151.1) ++ (⟨#[124]⟩ : ByteArray)) ++ bt153.1) ++ (⟨#[41]⟩ : ByteArray), bt153.2)) else (none)) else (none))) else (none)) else (none))) else ((spec_l20Sentence.f k x1000 bt143.2 x1 (wrap64 (x2 - 1))).bind fun bt155 => (if 1 + bt155.1.size ≤ 9223372036854775807 then (if ((⟨#[40]⟩ : ByteArray) ++ bt155.1).size + 1 ≤ 9223372036854775807 then ((spec_l20Sentence.f k x1000 bt155.2 x1 (wrap64 (x2 - 1))).bind fun bt157 => (if (((⟨#[40]⟩ : ByteArray) ++ bt155.1) ++ (⟨#[62]⟩ : ByteArray)).size + bt157.1.size ≤ 9223372036854775807 then (if ((((⟨#[40]⟩ : ByteArray) ++ bt155.1) ++ (⟨#[62]⟩ : ByteArray)) ++ bt157.1).size + 1 ≤ 9223372036854775807 then (some (((((⟨#[40]⟩ : ByteArray) ++ bt155.1) ++ (⟨#[62]⟩ : ByteArray)) ++ bt157.1) ++ (⟨#[41]⟩ : ByteArray), bt157.2)) else (none)) else (none))) else (none)) else (none)))))))
def spec_l20Sentence.f : Nat → List Int → Int → Int → Int → Option (ByteArray × Int)
 | 0, _, _, _, _ => none
 | k + 1, s0_0, s0_1, a1, a2 => if a2 = 0 then (spec_l20Sentence.j0 k a1 a2 true s0_0 s0_1) else ((spec_l20Rd_pick.f k s0_0 s0_1 3).bind fun bt133 => (spec_l20Sentence.j0 k a1 a2 (bt133.1 == 0) s0_0 bt133.2))
end
theorem spec_l20Sentence.mono_l : ∀ k, (∀ y0 y1 y2 y3, LeO (spec_l20Sentence.f k y0 y1 y2 y3) (spec_l20Sentence.f (k + 1) y0 y1 y2 y3)) ∧ (∀ y0 y1 y2 y3 y4, LeO (spec_l20Sentence.j0 k y0 y1 y2 y3 y4) (spec_l20Sentence.j0 (k + 1) y0 y1 y2 y3 y4))
 | 0 => ⟨fun _ _ _ _ r h => by simp [spec_l20Sentence.f] at h, fun _ _ _ _ _ r h => by simp [spec_l20Sentence.j0] at h⟩
 | k + 1 => by
  obtain ⟨ih0, ih1⟩ := spec_l20Sentence.mono_l k
  refine ⟨?_, ?_⟩
  ·intro y0 y1 y2 y3
   unfold spec_l20Sentence.f
   repeat' first
   | (with_reducible exact ih0 _ _ _ _)
   | (with_reducible exact ih1 _ _ _ _ _)
   | (with_reducible exact spec_l20Rd_pick.mono _ _ _ _)
   | (with_reducible exact LeO.refl _)
   | (with_reducible exact LeO.none _)
   | (with_reducible refine LeO.ite ?_ ?_)
   | (with_reducible refine LeO.bind ?_ (fun _ => ?_))
   | refine LeO.ite ?_ ?_
   | refine LeO.bind ?_ (fun _ => ?_)
  ·intro y0 y1 y2 y3 y4
   unfold spec_l20Sentence.j0
   repeat' first
   | (with_reducible exact ih0 _ _ _ _)
   | (with_reducible exact ih1 _ _ _ _ _)
   | (with_reducible exact spec_l20Rd_pick.mono _ _ _ _)
   | (with_reducible exact LeO.refl _)
   | (with_reducible exact LeO.none _)
   | (with_reducible refine LeO.ite ?_ ?_)
   | (with_reducible refine LeO.bind ?_ (fun _ => ?_))
   | refine LeO.ite ?_ ?_
   | refine LeO.bind ?_ (fun _ => ?_)
theorem spec_l20Sentence.mono : ∀ a0 a1 a2 a3 k, LeO (spec_l20Sentence.f k a0 a1 a2 a3) (spec_l20Sentence.f (k + 1) a0 a1 a2 a3) := by
 intro a0 a1 a2 a3 k
 obtain ⟨ih0, ih1⟩ := spec_l20Sentence.mono_l k
 exact ih0 a0 a1 a2 a3
set_option maxHeartbeats 8000000 in
set_option maxRecDepth 100000 in
theorem spec_l20Sentence.calls (k : Nat) : ∀ (g : Nat) (s0_0 : List Int) (s0_1 : Int) (a1 : Int) (a2 : Int) (r1 : ByteArray) (r2 : Int) (w0 w : World) (hI : Iz w0 w g s0_0 s0_1) (hB : Below w0.heap.size w0 w) (h : spec_l20Sentence.f k s0_0 s0_1 a1 a2 = some (r1, r2)),
  Calls Try.prog 80 #[.pointer (some ⟨g, 0, none⟩), .int .i64 a1, .int .i64 a2] w fun e w' => e = .returned (.string r1) ∧ Iz w0 w' g s0_0 r2 ∧ Below w0.heap.size w0 w' ∧ Kbt w w' g none := by
 induction k using Nat.strongRecOn with
 | _ k ih =>
 intro g s0_0 s0_1 a1 a2 r1 r2 w0 w hI hB h
 cases k with
 | zero => exact absurd h (by simp [spec_l20Sentence.f])
 | succ k =>
 simp only [spec_l20Sentence.f] at h
 have HI0 := Asd.mk hI
 have HK := Asd.mk (Kbt.refl w g none)
 have HL := Asd.mk hB.size
 clear hI
 have HW0 := Asd.mk hB.size
 have HB := Asd.mk hB
 clear hB
 have H : (if a2 = 0 then (spec_l20Sentence.j0 k a1 a2 true s0_0 s0_1) else ((spec_l20Rd_pick.f k s0_0 s0_1 3).bind fun bt133 => (spec_l20Sentence.j0 k a1 a2 (bt133.1 == 0) s0_0 bt133.2))) = some (r1, r2) := h
 clear h
 have HC4 := Asd.mk H
 clear H
 go_enter Try.func80, Try.ntmps80
 go_upto_region 1 with (fail)
 go_cut [13] (fun v13 wc => ∃ (kq : Nat) (x13_3 : Bool) (x1001_3 : Int), v13 = .bool x13_3 ∧ Asd (spec_l20Sentence.j0 kq a1 a2 x13_3 s0_0 x1001_3 = some (r1, r2)) ∧ Asd (kq ≤ k) ∧ Asd (Iz w0 wc g s0_0 x1001_3) ∧ Asd (Kbt w wc g none) ∧ Asd (Below w0.heap.size w0 wc))
 case first =>
  have H := HC4.out
  clear HC4
  by_cases c5 : a2 = 0
  ·rw [if_pos c5] at H
   have c5b0 : (a2 == 0) = true := beq_iff_eq.mpr c5
   have c5b1 : (a2 != 0) = false := bne_eq_false_iff_eq.mpr c5
   clear c5
   (first | rw [c5b0] | (simp only [i64_w, i32_w]; rw [c5b0]) | skip)
   have H' := Asd.mk H
   clear H
   go_wp2
   go_meet
   case rel => exact ⟨_, (true), (s0_1), (by first | rfl | (simp; done) | (simp [*]; done)), H', ⟨by first | omega | exact Nat.le_refl _⟩, ⟨by repeat (with_reducible first | exact HI0.out | apply Iz.alloc | apply Iz.drewN | apply Iz.drew | apply Iz.set_1)⟩, ⟨by repeat (with_reducible first | exact HK.out | apply Kbt.set_ | apply kpN | apply kpD | apply kpA)⟩, ⟨by repeat (with_reducible first | exact HB.out | apply bwA | apply bwN | apply bwD | refine bwS ?_ (Iz.ge HI0.out))⟩⟩
  ·rw [if_neg c5] at H
   have c5b0 : (a2 == 0) = false := beq_eq_false_iff_ne.mpr c5
   have c5b1 : (a2 != 0) = true := bne_iff_ne.mpr c5
   (first | rw [c5b0] | (simp only [i64_w, i32_w]; rw [c5b0]) | skip)
   replace H := Option.bind_eq_some_iff.mp H
   obtain ⟨⟨t133, t134⟩, A60, H⟩ := H
   try dsimp only at H
   have A6 := Asd.mk A60
   clear A60
   have H' := Asd.mk H
   clear H
   go_wp2_with (first | (go_at_call 82; (with_reducible refine (spec_l20Rd_pick.calls k g s0_0 s0_1 3 t133 t134 w0 _ ?side1 ?side2 A6.out).mono ?_); (case side1 => repeat (with_reducible first | exact HI0.out | apply Iz.alloc | apply Iz.drewN | apply Iz.drew | apply Iz.set_1)); (case side2 => repeat (with_reducible first | exact HB.out | apply bwA | apply bwN | apply bwD | refine bwS ?_ (Iz.ge HI0.out))); rintro e w7 ⟨rfl, hi, hb, hk⟩; have n0_ := Asd.mk (Kbt.trans (by repeat (with_reducible first | exact HK.out | apply Kbt.set_ | apply kpN | apply kpD | apply kpA)) hk (.inl rfl)); have n1_ := Asd.mk (hb); have n2_ := Asd.mk (hi); clear HK; clear HB; clear HI0; have HK := n0_; have HB := n1_; have HI0 := n2_; clear n0_ n1_ n2_; (try clear hb); (try clear hb2); (try clear hk); (try clear hi)))
   go_meet
   case rel => exact ⟨_, ((t133 == 0)), (t134), (by first | rfl | (simp; done) | (simp [*]; done)), H', ⟨by first | omega | exact Nat.le_refl _⟩, ⟨by repeat (with_reducible first | exact HI0.out | apply Iz.alloc | apply Iz.drewN | apply Iz.drew | apply Iz.set_1)⟩, ⟨by repeat (with_reducible first | exact HK.out | apply Kbt.set_ | apply kpN | apply kpD | apply kpA)⟩, ⟨by repeat (with_reducible first | exact HB.out | apply bwA | apply bwN | apply bwD | refine bwS ?_ (Iz.ge HI0.out))⟩⟩
 case rest =>
  clear HC4
  obtain ⟨kq, x13_3, x1001_3, rfl, HA, HJ3, HI0, HK, HB⟩ := hcut
  cases kq with
  | zero => exact absurd HA.out (by simp [spec_l20Sentence.j0])
  | succ kj3 =>
   have H := HA.out
   clear HA
   simp only [spec_l20Sentence.j0] at H
   by_cases c8 : x13_3 = true
   ·subst c8
    rw [if_pos rfl] at H
    obtain ⟨y135, hy135⟩ : ∃ y_ : List ByteArray, y_ = (([(⟨#[97]⟩ : ByteArray), (⟨#[98]⟩ : ByteArray), (⟨#[99]⟩ : ByteArray), (⟨#[97]⟩ : ByteArray), (⟨#[48]⟩ : ByteArray), (⟨#[49]⟩ : ByteArray)] : List ByteArray)) := ⟨_, rfl⟩
    replace H : ((spec_l20Rd_pick.f kj3 s0_0 x1001_3 8).bind fun bt138 => ((spec_l20Rd_pick.f kj3 s0_0 bt138.2 (wrap64 ((mx (mn a1 3) 1) + (wrap64 ((wrap64 (Int.tdiv bt138.1 7)) * 3))))).bind fun bt140 => (if 0 ≤ bt140.1 then (if bt140.1 < (y135.length : Int) then (some (rdOf ByteArray.empty y135 bt140.1, bt140.2)) else (none)) else (none)))) = some (r1, r2) := by first | (rw [hy135]; with_reducible exact H) | (have H2_ := (Option.bind_some _ _).symm.trans H; rw [hy135]; with_reducible exact H2_) | (have H2_ := (Option.bind_some _ _).symm.trans H; with_reducible exact H2_) | with_reducible exact H | (rw [hy135]; exact H) | exact H
    have Ny135 := Asd.mk hy135
    clear hy135
    obtain ⟨ji9, hji9⟩ : ∃ j_ : Int, (mn a1 3) = j_ := ⟨_, rfl⟩
    replace H : ((spec_l20Rd_pick.f kj3 s0_0 x1001_3 8).bind fun bt138 => ((spec_l20Rd_pick.f kj3 s0_0 bt138.2 (wrap64 ((mx (ji9) 1) + (wrap64 ((wrap64 (Int.tdiv bt138.1 7)) * 3))))).bind fun bt140 => (if 0 ≤ bt140.1 then (if bt140.1 < (y135.length : Int) then (some (rdOf ByteArray.empty y135 bt140.1, bt140.2)) else (none)) else (none)))) = some (r1, r2) := by first | (rw [hji9] at H; exact H) | (simp only [hji9] at H ⊢; exact H)
    have hji9_ : (if 3 < a1 then 3 else a1) = ji9 := hji9
    obtain ⟨ji10, hji10⟩ : ∃ j_ : Int, (mx (ji9) 1) = j_ := ⟨_, rfl⟩
    replace H : ((spec_l20Rd_pick.f kj3 s0_0 x1001_3 8).bind fun bt138 => ((spec_l20Rd_pick.f kj3 s0_0 bt138.2 (wrap64 ((ji10) + (wrap64 ((wrap64 (Int.tdiv bt138.1 7)) * 3))))).bind fun bt140 => (if 0 ≤ bt140.1 then (if bt140.1 < (y135.length : Int) then (some (rdOf ByteArray.empty y135 bt140.1, bt140.2)) else (none)) else (none)))) = some (r1, r2) := by first | (rw [hji10] at H; exact H) | (simp only [hji10] at H ⊢; exact H)
    have hji10_ : (if (ji9) < 1 then 1 else (ji9)) = ji10 := hji10
    replace H := Option.bind_eq_some_iff.mp H
    obtain ⟨⟨t138, t139⟩, A110, H⟩ := H
    try dsimp only at H
    have A11 := Asd.mk A110
    clear A110
    replace H := Option.bind_eq_some_iff.mp H
    obtain ⟨⟨t140, t141⟩, A120, H⟩ := H
    try dsimp only at H
    have A12 := Asd.mk A120
    clear A120
    by_cases c13 : 0 ≤ t140
    ·rw [if_pos c13] at H
     have c13b0 : decide (0 ≤ t140) = true := decide_eq_true c13
     clear c13
     by_cases c14 : t140 < (y135.length : Int)
     ·rw [if_pos c14] at H
      have c14b0 : decide (t140 < (y135.length : Int)) = true := decide_eq_true c14
      clear c14
      simp only [Option.some.injEq, Prod.mk.injEq] at H
      obtain ⟨rfl, rfl⟩ := H
      go_wp2_with (first | ((with_reducible refine gate_dst (N := 14) rfl ?_); refine Kd.R_lit Kd.string _ 9 ?hg (N := 14) ?hd (xs := ([(⟨#[97]⟩ : ByteArray), (⟨#[98]⟩ : ByteArray), (⟨#[99]⟩ : ByteArray), (⟨#[97]⟩ : ByteArray), (⟨#[48]⟩ : ByteArray), (⟨#[49]⟩ : ByteArray)] : List ByteArray)) (inner := [.string (⟨#[97]⟩ : ByteArray), .string (⟨#[98]⟩ : ByteArray), .string (⟨#[99]⟩ : ByteArray), .string (⟨#[97]⟩ : ByteArray), .string (⟨#[48]⟩ : ByteArray), .string (⟨#[49]⟩ : ByteArray)]) (ok := fun _ => True) (okp := fun _ => True) ?hr ?hp (fun _ hk => hk) trivial (Below.refl _ _) (Nat.le_refl _) (by simp) ?_; (case hd => rfl); (case hg => rfl); (case hr => first | (go_simp; done) | (go_simp; rfl)); (case hp => exact (Reps.one (show Kd.M Kd.string _ _ _ (⟨#[97]⟩ : ByteArray) [.string (⟨#[97]⟩ : ByteArray)] from rfl) (Reps.one (show Kd.M Kd.string _ _ _ (⟨#[98]⟩ : ByteArray) [.string (⟨#[98]⟩ : ByteArray)] from rfl) (Reps.one (show Kd.M Kd.string _ _ _ (⟨#[99]⟩ : ByteArray) [.string (⟨#[99]⟩ : ByteArray)] from rfl) (Reps.one (show Kd.M Kd.string _ _ _ (⟨#[97]⟩ : ByteArray) [.string (⟨#[97]⟩ : ByteArray)] from rfl) (Reps.one (show Kd.M Kd.string _ _ _ (⟨#[48]⟩ : ByteArray) [.string (⟨#[48]⟩ : ByteArray)] from rfl) (Reps.one (show Kd.M Kd.string _ _ _ (⟨#[49]⟩ : ByteArray) [.string (⟨#[49]⟩ : ByteArray)] from rfl) (Reps.none _ _)))))))); intro v136 w15 ho16 hb hg_ hnew_; clear hg_ hnew_; (first | rw [← Ny135.out] at ho16 | (simp only [Int.reduceToNat] at ho16; rw [← Ny135.out] at ho16)); have n0_ := Asd.mk (Kd.R_lower ho16 (kpZ (w := w) (g := g) (row := none) (by repeat (with_reducible first | exact HK.out | apply Kbt.set_ | apply kpN | apply kpD | apply kpA)))); have n1_ := Asd.mk (Iz.below (by repeat (with_reducible first | exact HI0.out | apply Iz.alloc | apply Iz.drewN | apply Iz.drew | apply Iz.set_1)) hb); have n2_ := Asd.mk (Kbt.trans (by repeat (with_reducible first | exact HK.out | apply Kbt.set_ | apply kpN | apply kpD | apply kpA)) (Kbt.of_below hb g none) (.inl rfl)); have n3_ := Asd.mk (bwP (by repeat (with_reducible first | exact HB.out | apply bwA | apply bwN | apply bwD | refine bwS ?_ (Iz.ge HI0.out))) hb); clear HI0; clear HK; clear HB; have HO137 := n0_; have HI0 := n1_; have HK := n2_; have HB := n3_; clear n0_ n1_ n2_ n3_; clear hb ho16) | ((with_reducible refine gate_callee (f := 82) rfl ?_); refine gsM (some 20) rfl rfl Try.func82 (by kernel_rfl) rfl #[.pointer (some ⟨g, 0, none⟩), .int .i64 8] rfl ?_; (with_reducible refine (spec_l20Rd_pick.calls kj3 g s0_0 x1001_3 8 t138 t139 w0 _ ?side1 ?side2 A11.out).mono ?_); (case side1 => repeat (with_reducible first | exact HI0.out | apply Iz.alloc | apply Iz.drewN | apply Iz.drew | apply Iz.set_1)); (case side2 => repeat (with_reducible first | exact HB.out | apply bwA | apply bwN | apply bwD | refine bwS ?_ (Iz.ge HI0.out))); rintro e w17 ⟨rfl, hi, hb, hk⟩; refine ⟨_, rfl, ?_⟩; have n0_ := Asd.mk (Kd.R_mono (Kd.R_keep (Iz.apart (show Iz w0 _ g s0_0 x1001_3 from by repeat (with_reducible first | exact HI0.out | apply Iz.alloc | apply Iz.drewN | apply Iz.drew | apply Iz.set_1)) (by (with_reducible repeat (first | apply Kd.R_alloc | apply Kd.R_drewN | apply Kd.R_drew)); exact HO137.out) (by decide)) hk (fun _ h => h.2)) (fun _ h => h.1)); have n1_ := Asd.mk (Kbt.trans (by repeat (with_reducible first | exact HK.out | apply Kbt.set_ | apply kpN | apply kpD | apply kpA)) hk (.inl rfl)); have n2_ := Asd.mk (hb); have n3_ := Asd.mk (hi); clear HO137; clear HK; clear HB; clear HI0; have HO137 := n0_; have HK := n1_; have HB := n2_; have HI0 := n3_; clear n0_ n1_ n2_ n3_; (try clear hb); (try clear hb2); (try clear hk); (try clear hi)) | ((with_reducible refine gate_callee (f := 82) rfl ?_); refine gsL (some 24) rfl rfl Try.func82 (by kernel_rfl) rfl #[.pointer (some ⟨g, 0, none⟩), .int .i64 (wrap64 ((ji10) + (wrap64 ((wrap64 (Int.tdiv t138 7)) * 3))))] rfl (by (try simp only [List.map_toArray, List.map_cons, List.map_nil]); first | done | (simp only [hji10]; rfl) | rfl | (simp only [List.length_drop, List.length_take]; rfl)) ?_; (with_reducible refine (spec_l20Rd_pick.calls kj3 g s0_0 t139 (wrap64 ((ji10) + (wrap64 ((wrap64 (Int.tdiv t138 7)) * 3)))) t140 t141 w0 _ ?side1 ?side2 A12.out).mono ?_); (case side1 => repeat (with_reducible first | exact HI0.out | apply Iz.alloc | apply Iz.drewN | apply Iz.drew | apply Iz.set_1)); (case side2 => repeat (with_reducible first | exact HB.out | apply bwA | apply bwN | apply bwD | refine bwS ?_ (Iz.ge HI0.out))); rintro e w18 ⟨rfl, hi, hb, hk⟩; refine ⟨_, rfl, ?_⟩; have n0_ := Asd.mk (Kd.R_mono (Kd.R_keep (Iz.apart (show Iz w0 _ g s0_0 t139 from by repeat (with_reducible first | exact HI0.out | apply Iz.alloc | apply Iz.drewN | apply Iz.drew | apply Iz.set_1)) (by (with_reducible repeat (first | apply Kd.R_alloc | apply Kd.R_drewN | apply Kd.R_drew)); exact HO137.out) (by decide)) hk (fun _ h => h.2)) (fun _ h => h.1)); have n1_ := Asd.mk (Kbt.trans (by repeat (with_reducible first | exact HK.out | apply Kbt.set_ | apply kpN | apply kpD | apply kpA)) hk (.inl rfl)); have n2_ := Asd.mk (hb); have n3_ := Asd.mk (hi); clear HO137; clear HK; clear HB; clear HI0; have HO137 := n0_; have HK := n1_; have HB := n2_; have HI0 := n3_; clear n0_ n1_ n2_ n3_; (try clear hb); (try clear hb2); (try clear hk); (try clear hi); obtain ⟨Ao19, co19, eo19⟩ := Kd.R_slice HO137.out; subst eo19; have p142 : 0 ≤ (t140 : Int) := odt; have q142 : t140 < (y135.length : Int) := odt; obtain ⟨ad142, e142, hx142_0⟩ := Kd.at_string (Kd.R_reads' HO137.out).2.2 t140 p142 q142; cases e142; replace p142 := eq_true p142; replace q142 := eq_true q142))
      go_ret
      exact ⟨by first | rfl | (simp [errW_none, errW_some] <;> rfl) | (simp only [← hji9, ← hji10]; first | rfl | (simp [errW_none, errW_some] <;> rfl)) | (simp [*, errW_none, errW_some] <;> rfl), by repeat (with_reducible first | exact HI0.out | apply Iz.alloc | apply Iz.drewN | apply Iz.drew | apply Iz.set_1), by repeat (with_reducible first | exact HB.out | apply bwA | apply bwN | apply bwD | refine bwS ?_ (Iz.ge HI0.out)), by repeat (with_reducible first | exact HK.out | apply Kbt.set_ | apply kpN | apply kpD | apply kpA)⟩
     ·rw [if_neg c14] at H
      exact absurd H (by simp)
    ·rw [if_neg c13] at H
     exact absurd H (by simp)
   ·replace c8 := Bool.eq_false_iff.mpr c8
    subst c8
    rw [if_neg (show ¬ (false = true) by decide)] at H
    replace H := Option.bind_eq_some_iff.mp H
    obtain ⟨⟨t143, t144⟩, A200, H⟩ := H
    try dsimp only at H
    have A20 := Asd.mk A200
    clear A200
    by_cases c21 : t143 = 0
    ·rw [if_pos c21] at H
     have c21b0 : (t143 == 0) = true := beq_iff_eq.mpr c21
     have c21b1 : (t143 != 0) = false := bne_eq_false_iff_eq.mpr c21
     clear c21
     replace H := Option.bind_eq_some_iff.mp H
     obtain ⟨⟨t145, t146⟩, A220, H⟩ := H
     try dsimp only at H
     have A22 := Asd.mk A220
     clear A220
     by_cases c23 : 1 + t145.size ≤ 9223372036854775807
     ·rw [if_pos c23] at H
      have c23b0 := eq_true c23
      have c23b1 : decide (1 + t145.size ≤ 9223372036854775807) = true := decide_eq_true c23
      try have c23b2 : (9223372036854775807 < 1 + t145.size) = False := eq_false (Nat.not_lt.2 c23)
      simp only [Option.some.injEq, Prod.mk.injEq] at H
      obtain ⟨rfl, rfl⟩ := H
      go_wp2_with (first | ((with_reducible refine gate_callee (f := 82) rfl ?_); refine gsM (some 28) rfl rfl Try.func82 (by kernel_rfl) rfl #[.pointer (some ⟨g, 0, none⟩), .int .i64 4] rfl ?_; (with_reducible refine (spec_l20Rd_pick.calls kj3 g s0_0 x1001_3 4 t143 t144 w0 _ ?side1 ?side2 A20.out).mono ?_); (case side1 => repeat (with_reducible first | exact HI0.out | apply Iz.alloc | apply Iz.drewN | apply Iz.drew | apply Iz.set_1)); (case side2 => repeat (with_reducible first | exact HB.out | apply bwA | apply bwN | apply bwD | refine bwS ?_ (Iz.ge HI0.out))); rintro e w24 ⟨rfl, hi, hb, hk⟩; refine ⟨_, rfl, ?_⟩; have n0_ := Asd.mk (Kbt.trans (by repeat (with_reducible first | exact HK.out | apply Kbt.set_ | apply kpN | apply kpD | apply kpA)) hk (.inl rfl)); have n1_ := Asd.mk (hb); have n2_ := Asd.mk (hi); clear HK; clear HB; clear HI0; have HK := n0_; have HB := n1_; have HI0 := n2_; clear n0_ n1_ n2_; (try clear hb); (try clear hb2); (try clear hk); (try clear hi)) | ((with_reducible refine gate_callee (f := 80) rfl ?_); refine gsM (some 35) rfl rfl Try.func80 (by kernel_rfl) rfl #[.pointer (some ⟨g, 0, none⟩), .int .i64 a1, .int .i64 (wrap64 (a2 - 1))] rfl ?_; (with_reducible refine (ih kj3 (by have := HJ3.out; omega) g s0_0 t144 a1 (wrap64 (a2 - 1)) t145 t146 w0 _ ?side1 ?side2 A22.out).mono ?_); (case side1 => repeat (with_reducible first | exact HI0.out | apply Iz.alloc | apply Iz.drewN | apply Iz.drew | apply Iz.set_1)); (case side2 => repeat (with_reducible first | exact HB.out | apply bwA | apply bwN | apply bwD | refine bwS ?_ (Iz.ge HI0.out))); rintro e w25 ⟨rfl, hi, hb, hk⟩; refine ⟨_, rfl, ?_⟩; have n0_ := Asd.mk (Kbt.trans (by repeat (with_reducible first | exact HK.out | apply Kbt.set_ | apply kpN | apply kpD | apply kpA)) hk (.inl rfl)); have n1_ := Asd.mk (hb); have n2_ := Asd.mk (hi); clear HK; clear HB; clear HI0; have HK := n0_; have HB := n1_; have HI0 := n2_; clear n0_ n1_ n2_; (try clear hb); (try clear hb2); (try clear hk); (try clear hi)))
      go_ret
      exact ⟨by first | rfl | (simp [errW_none, errW_some] <;> rfl) | (simp [*, errW_none, errW_some] <;> rfl), by repeat (with_reducible first | exact HI0.out | apply Iz.alloc | apply Iz.drewN | apply Iz.drew | apply Iz.set_1), by repeat (with_reducible first | exact HB.out | apply bwA | apply bwN | apply bwD | refine bwS ?_ (Iz.ge HI0.out)), by repeat (with_reducible first | exact HK.out | apply Kbt.set_ | apply kpN | apply kpD | apply kpA)⟩
     ·rw [if_neg c23] at H
      exact absurd H (by simp)
    ·rw [if_neg c21] at H
     have c21b0 : (t143 == 0) = false := beq_eq_false_iff_ne.mpr c21
     have c21b1 : (t143 != 0) = true := bne_iff_ne.mpr c21
     by_cases c26 : t143 = 1
     ·rw [if_pos c26] at H
      have c26b0 : (t143 == 1) = true := beq_iff_eq.mpr c26
      have c26b1 : (t143 != 1) = false := bne_eq_false_iff_eq.mpr c26
      clear c26
      replace H := Option.bind_eq_some_iff.mp H
      obtain ⟨⟨t147, t148⟩, A270, H⟩ := H
      try dsimp only at H
      have A27 := Asd.mk A270
      clear A270
      by_cases c28 : 1 + t147.size ≤ 9223372036854775807
      ·rw [if_pos c28] at H
       have c28b0 := eq_true c28
       have c28b1 : decide (1 + t147.size ≤ 9223372036854775807) = true := decide_eq_true c28
       try have c28b2 : (9223372036854775807 < 1 + t147.size) = False := eq_false (Nat.not_lt.2 c28)
       by_cases c29 : ((⟨#[40]⟩ : ByteArray) ++ t147).size + 1 ≤ 9223372036854775807
       ·rw [if_pos c29] at H
        have c29b0 := eq_true c29
        have c29b1 : decide (((⟨#[40]⟩ : ByteArray) ++ t147).size + 1 ≤ 9223372036854775807) = true := decide_eq_true c29
        try have c29b2 : (9223372036854775807 < ((⟨#[40]⟩ : ByteArray) ++ t147).size + 1) = False := eq_false (Nat.not_lt.2 c29)
        try have c29b8 : (9223372036854775807 < 1 + t147.size + 1) = False := eq_false (by have h_ := c29; (repeat rw [ByteArray.size_append] at h_); exact Nat.not_lt.2 h_)
        replace H := Option.bind_eq_some_iff.mp H
        obtain ⟨⟨t149, t150⟩, A300, H⟩ := H
        try dsimp only at H
        have A30 := Asd.mk A300
        clear A300
        by_cases c31 : (((⟨#[40]⟩ : ByteArray) ++ t147) ++ (⟨#[38]⟩ : ByteArray)).size + t149.size ≤ 9223372036854775807
        ·rw [if_pos c31] at H
         have c31b0 := eq_true c31
         have c31b1 : decide ((((⟨#[40]⟩ : ByteArray) ++ t147) ++ (⟨#[38]⟩ : ByteArray)).size + t149.size ≤ 9223372036854775807) = true := decide_eq_true c31
         try have c31b2 : (9223372036854775807 < (((⟨#[40]⟩ : ByteArray) ++ t147) ++ (⟨#[38]⟩ : ByteArray)).size + t149.size) = False := eq_false (Nat.not_lt.2 c31)
         try have c31b8 : (9223372036854775807 < 1 + t147.size + 1 + t149.size) = False := eq_false (by have h_ := c31; (repeat rw [ByteArray.size_append] at h_); exact Nat.not_lt.2 h_)
         by_cases c32 : ((((⟨#[40]⟩ : ByteArray) ++ t147) ++ (⟨#[38]⟩ : ByteArray)) ++ t149).size + 1 ≤ 9223372036854775807
         ·rw [if_pos c32] at H
          have c32b0 := eq_true c32
          have c32b1 : decide (((((⟨#[40]⟩ : ByteArray) ++ t147) ++ (⟨#[38]⟩ : ByteArray)) ++ t149).size + 1 ≤ 9223372036854775807) = true := decide_eq_true c32
          try have c32b2 : (9223372036854775807 < ((((⟨#[40]⟩ : ByteArray) ++ t147) ++ (⟨#[38]⟩ : ByteArray)) ++ t149).size + 1) = False := eq_false (Nat.not_lt.2 c32)
          try have c32b8 : (9223372036854775807 < 1 + t147.size + 1 + t149.size + 1) = False := eq_false (by have h_ := c32; (repeat rw [ByteArray.size_append] at h_); exact Nat.not_lt.2 h_)
          simp only [Option.some.injEq, Prod.mk.injEq] at H
          obtain ⟨rfl, rfl⟩ := H
          go_wp2_with (first | ((with_reducible refine gate_callee (f := 82) rfl ?_); refine gsM (some 28) rfl rfl Try.func82 (by kernel_rfl) rfl #[.pointer (some ⟨g, 0, none⟩), .int .i64 4] rfl ?_; (with_reducible refine (spec_l20Rd_pick.calls kj3 g s0_0 x1001_3 4 t143 t144 w0 _ ?side1 ?side2 A20.out).mono ?_); (case side1 => repeat (with_reducible first | exact HI0.out | apply Iz.alloc | apply Iz.drewN | apply Iz.drew | apply Iz.set_1)); (case side2 => repeat (with_reducible first | exact HB.out | apply bwA | apply bwN | apply bwD | refine bwS ?_ (Iz.ge HI0.out))); rintro e w33 ⟨rfl, hi, hb, hk⟩; refine ⟨_, rfl, ?_⟩; have n0_ := Asd.mk (Kbt.trans (by repeat (with_reducible first | exact HK.out | apply Kbt.set_ | apply kpN | apply kpD | apply kpA)) hk (.inl rfl)); have n1_ := Asd.mk (hb); have n2_ := Asd.mk (hi); clear HK; clear HB; clear HI0; have HK := n0_; have HB := n1_; have HI0 := n2_; clear n0_ n1_ n2_; (try clear hb); (try clear hb2); (try clear hk); (try clear hi)) | ((with_reducible refine gate_callee (f := 80) rfl ?_); refine gsM (some 43) rfl rfl Try.func80 (by kernel_rfl) rfl #[.pointer (some ⟨g, 0, none⟩), .int .i64 a1, .int .i64 (wrap64 (a2 - 1))] rfl ?_; (with_reducible refine (ih kj3 (by have := HJ3.out; omega) g s0_0 t144 a1 (wrap64 (a2 - 1)) t147 t148 w0 _ ?side1 ?side2 A27.out).mono ?_); (case side1 => repeat (with_reducible first | exact HI0.out | apply Iz.alloc | apply Iz.drewN | apply Iz.drew | apply Iz.set_1)); (case side2 => repeat (with_reducible first | exact HB.out | apply bwA | apply bwN | apply bwD | refine bwS ?_ (Iz.ge HI0.out))); rintro e w34 ⟨rfl, hi, hb, hk⟩; refine ⟨_, rfl, ?_⟩; have n0_ := Asd.mk (Kbt.trans (by repeat (with_reducible first | exact HK.out | apply Kbt.set_ | apply kpN | apply kpD | apply kpA)) hk (.inl rfl)); have n1_ := Asd.mk (hb); have n2_ := Asd.mk (hi); clear HK; clear HB; clear HI0; have HK := n0_; have HB := n1_; have HI0 := n2_; clear n0_ n1_ n2_; (try clear hb); (try clear hb2); (try clear hk); (try clear hi)) | ((with_reducible refine gate_callee (f := 80) rfl ?_); refine gsM (some 50) rfl rfl Try.func80 (by kernel_rfl) rfl #[.pointer (some ⟨g, 0, none⟩), .int .i64 a1, .int .i64 (wrap64 (a2 - 1))] rfl ?_; (with_reducible refine (ih kj3 (by have := HJ3.out; omega) g s0_0 t148 a1 (wrap64 (a2 - 1)) t149 t150 w0 _ ?side1 ?side2 A30.out).mono ?_); (case side1 => repeat (with_reducible first | exact HI0.out | apply Iz.alloc | apply Iz.drewN | apply Iz.drew | apply Iz.set_1)); (case side2 => repeat (with_reducible first | exact HB.out | apply bwA | apply bwN | apply bwD | refine bwS ?_ (Iz.ge HI0.out))); rintro e w35 ⟨rfl, hi, hb, hk⟩; refine ⟨_, rfl, ?_⟩; have n0_ := Asd.mk (Kbt.trans (by repeat (with_reducible first | exact HK.out | apply Kbt.set_ | apply kpN | apply kpD | apply kpA)) hk (.inl rfl)); have n1_ := Asd.mk (hb); have n2_ := Asd.mk (hi); clear HK; clear HB; clear HI0; have HK := n0_; have HB := n1_; have HI0 := n2_; clear n0_ n1_ n2_; (try clear hb); (try clear hb2); (try clear hk); (try clear hi)))
          go_ret
          exact ⟨by first | rfl | (simp [errW_none, errW_some] <;> rfl) | (simp [*, errW_none, errW_some] <;> rfl), by repeat (with_reducible first | exact HI0.out | apply Iz.alloc | apply Iz.drewN | apply Iz.drew | apply Iz.set_1), by repeat (with_reducible first | exact HB.out | apply bwA | apply bwN | apply bwD | refine bwS ?_ (Iz.ge HI0.out)), by repeat (with_reducible first | exact HK.out | apply Kbt.set_ | apply kpN | apply kpD | apply kpA)⟩
         ·rw [if_neg c32] at H
          exact absurd H (by simp)
        ·rw [if_neg c31] at H
         exact absurd H (by simp)
       ·rw [if_neg c29] at H
        exact absurd H (by simp)
      ·rw [if_neg c28] at H
       exact absurd H (by simp)
     ·rw [if_neg c26] at H
      have c26b0 : (t143 == 1) = false := beq_eq_false_iff_ne.mpr c26
      have c26b1 : (t143 != 1) = true := bne_iff_ne.mpr c26
      by_cases c36 : t143 = 2
      ·rw [if_pos c36] at H
       have c36b0 : (t143 == 2) = true := beq_iff_eq.mpr c36
       have c36b1 : (t143 != 2) = false := bne_eq_false_iff_eq.mpr c36
       clear c36
       replace H := Option.bind_eq_some_iff.mp H
       obtain ⟨⟨t151, t152⟩, A370, H⟩ := H
       try dsimp only at H
       have A37 := Asd.mk A370
       clear A370
       by_cases c38 : 1 + t151.size ≤ 9223372036854775807
       ·rw [if_pos c38] at H
        have c38b0 := eq_true c38
        have c38b1 : decide (1 + t151.size ≤ 9223372036854775807) = true := decide_eq_true c38
        try have c38b2 : (9223372036854775807 < 1 + t151.size) = False := eq_false (Nat.not_lt.2 c38)
        by_cases c39 : ((⟨#[40]⟩ : ByteArray) ++ t151).size + 1 ≤ 9223372036854775807
        ·rw [if_pos c39] at H
         have c39b0 := eq_true c39
         have c39b1 : decide (((⟨#[40]⟩ : ByteArray) ++ t151).size + 1 ≤ 9223372036854775807) = true := decide_eq_true c39
         try have c39b2 : (9223372036854775807 < ((⟨#[40]⟩ : ByteArray) ++ t151).size + 1) = False := eq_false (Nat.not_lt.2 c39)
         try have c39b8 : (9223372036854775807 < 1 + t151.size + 1) = False := eq_false (by have h_ := c39; (repeat rw [ByteArray.size_append] at h_); exact Nat.not_lt.2 h_)
         replace H := Option.bind_eq_some_iff.mp H
         obtain ⟨⟨t153, t154⟩, A400, H⟩ := H
         try dsimp only at H
         have A40 := Asd.mk A400
         clear A400
         by_cases c41 : (((⟨#[40]⟩ : ByteArray) ++ t151) ++ (⟨#[124]⟩ : ByteArray)).size + t153.size ≤ 9223372036854775807
         ·rw [if_pos c41] at H
          have c41b0 := eq_true c41
          have c41b1 : decide ((((⟨#[40]⟩ : ByteArray) ++ t151) ++ (⟨#[124]⟩ : ByteArray)).size + t153.size ≤ 9223372036854775807) = true := decide_eq_true c41
          try have c41b2 : (9223372036854775807 < (((⟨#[40]⟩ : ByteArray) ++ t151) ++ (⟨#[124]⟩ : ByteArray)).size + t153.size) = False := eq_false (Nat.not_lt.2 c41)
          try have c41b8 : (9223372036854775807 < 1 + t151.size + 1 + t153.size) = False := eq_false (by have h_ := c41; (repeat rw [ByteArray.size_append] at h_); exact Nat.not_lt.2 h_)
          by_cases c42 : ((((⟨#[40]⟩ : ByteArray) ++ t151) ++ (⟨#[124]⟩ : ByteArray)) ++ t153).size + 1 ≤ 9223372036854775807
          ·rw [if_pos c42] at H
           have c42b0 := eq_true c42
           have c42b1 : decide (((((⟨#[40]⟩ : ByteArray) ++ t151) ++ (⟨#[124]⟩ : ByteArray)) ++ t153).size + 1 ≤ 9223372036854775807) = true := decide_eq_true c42
           try have c42b2 : (9223372036854775807 < ((((⟨#[40]⟩ : ByteArray) ++ t151) ++ (⟨#[124]⟩ : ByteArray)) ++ t153).size + 1) = False := eq_false (Nat.not_lt.2 c42)
           try have c42b8 : (9223372036854775807 < 1 + t151.size + 1 + t153.size + 1) = False := eq_false (by have h_ := c42; (repeat rw [ByteArray.size_append] at h_); exact Nat.not_lt.2 h_)
           simp only [Option.some.injEq, Prod.mk.injEq] at H
           obtain ⟨rfl, rfl⟩ := H
           go_wp2_with (first | ((with_reducible refine gate_callee (f := 82) rfl ?_); refine gsM (some 28) rfl rfl Try.func82 (by kernel_rfl) rfl #[.pointer (some ⟨g, 0, none⟩), .int .i64 4] rfl ?_; (with_reducible refine (spec_l20Rd_pick.calls kj3 g s0_0 x1001_3 4 t143 t144 w0 _ ?side1 ?side2 A20.out).mono ?_); (case side1 => repeat (with_reducible first | exact HI0.out | apply Iz.alloc | apply Iz.drewN | apply Iz.drew | apply Iz.set_1)); (case side2 => repeat (with_reducible first | exact HB.out | apply bwA | apply bwN | apply bwD | refine bwS ?_ (Iz.ge HI0.out))); rintro e w43 ⟨rfl, hi, hb, hk⟩; refine ⟨_, rfl, ?_⟩; have n0_ := Asd.mk (Kbt.trans (by repeat (with_reducible first | exact HK.out | apply Kbt.set_ | apply kpN | apply kpD | apply kpA)) hk (.inl rfl)); have n1_ := Asd.mk (hb); have n2_ := Asd.mk (hi); clear HK; clear HB; clear HI0; have HK := n0_; have HB := n1_; have HI0 := n2_; clear n0_ n1_ n2_; (try clear hb); (try clear hb2); (try clear hk); (try clear hi)) | ((with_reducible refine gate_callee (f := 80) rfl ?_); refine gsM (some 59) rfl rfl Try.func80 (by kernel_rfl) rfl #[.pointer (some ⟨g, 0, none⟩), .int .i64 a1, .int .i64 (wrap64 (a2 - 1))] rfl ?_; (with_reducible refine (ih kj3 (by have := HJ3.out; omega) g s0_0 t144 a1 (wrap64 (a2 - 1)) t151 t152 w0 _ ?side1 ?side2 A37.out).mono ?_); (case side1 => repeat (with_reducible first | exact HI0.out | apply Iz.alloc | apply Iz.drewN | apply Iz.drew | apply Iz.set_1)); (case side2 => repeat (with_reducible first | exact HB.out | apply bwA | apply bwN | apply bwD | refine bwS ?_ (Iz.ge HI0.out))); rintro e w44 ⟨rfl, hi, hb, hk⟩; refine ⟨_, rfl, ?_⟩; have n0_ := Asd.mk (Kbt.trans (by repeat (with_reducible first | exact HK.out | apply Kbt.set_ | apply kpN | apply kpD | apply kpA)) hk (.inl rfl)); have n1_ := Asd.mk (hb); have n2_ := Asd.mk (hi); clear HK; clear HB; clear HI0; have HK := n0_; have HB := n1_; have HI0 := n2_; clear n0_ n1_ n2_; (try clear hb); (try clear hb2); (try clear hk); (try clear hi)) | ((with_reducible refine gate_callee (f := 80) rfl ?_); refine gsM (some 66) rfl rfl Try.func80 (by kernel_rfl) rfl #[.pointer (some ⟨g, 0, none⟩), .int .i64 a1, .int .i64 (wrap64 (a2 - 1))] rfl ?_; (with_reducible refine (ih kj3 (by have := HJ3.out; omega) g s0_0 t152 a1 (wrap64 (a2 - 1)) t153 t154 w0 _ ?side1 ?side2 A40.out).mono ?_); (case side1 => repeat (with_reducible first | exact HI0.out | apply Iz.alloc | apply Iz.drewN | apply Iz.drew | apply Iz.set_1)); (case side2 => repeat (with_reducible first | exact HB.out | apply bwA | apply bwN | apply bwD | refine bwS ?_ (Iz.ge HI0.out))); rintro e w45 ⟨rfl, hi, hb, hk⟩; refine ⟨_, rfl, ?_⟩; have n0_ := Asd.mk (Kbt.trans (by repeat (with_reducible first | exact HK.out | apply Kbt.set_ | apply kpN | apply kpD | apply kpA)) hk (.inl rfl)); have n1_ := Asd.mk (hb); have n2_ := Asd.mk (hi); clear HK; clear HB; clear HI0; have HK := n0_; have HB := n1_; have HI0 := n2_; clear n0_ n1_ n2_; (try clear hb); (try clear hb2); (try clear hk); (try clear hi)))
           go_ret
           exact ⟨by first | rfl | (simp [errW_none, errW_some] <;> rfl) | (simp [*, errW_none, errW_some] <;> rfl), by repeat (with_reducible first | exact HI0.out | apply Iz.alloc | apply Iz.drewN | apply Iz.drew | apply Iz.set_1), by repeat (with_reducible first | exact HB.out | apply bwA | apply bwN | apply bwD | refine bwS ?_ (Iz.ge HI0.out)), by repeat (with_reducible first | exact HK.out | apply Kbt.set_ | apply kpN | apply kpD | apply kpA)⟩
          ·rw [if_neg c42] at H
           exact absurd H (by simp)
         ·rw [if_neg c41] at H
          exact absurd H (by simp)
        ·rw [if_neg c39] at H
         exact absurd H (by simp)
       ·rw [if_neg c38] at H
        exact absurd H (by simp)
      ·rw [if_neg c36] at H
       have c36b0 : (t143 == 2) = false := beq_eq_false_iff_ne.mpr c36
       have c36b1 : (t143 != 2) = true := bne_iff_ne.mpr c36
       replace H := Option.bind_eq_some_iff.mp H
       obtain ⟨⟨t155, t156⟩, A460, H⟩ := H
       try dsimp only at H
       have A46 := Asd.mk A460
       clear A460
       by_cases c47 : 1 + t155.size ≤ 9223372036854775807
       ·rw [if_pos c47] at H
        have c47b0 := eq_true c47
        have c47b1 : decide (1 + t155.size ≤ 9223372036854775807) = true := decide_eq_true c47
        try have c47b2 : (9223372036854775807 < 1 + t155.size) = False := eq_false (Nat.not_lt.2 c47)
        by_cases c48 : ((⟨#[40]⟩ : ByteArray) ++ t155).size + 1 ≤ 9223372036854775807
        ·rw [if_pos c48] at H
         have c48b0 := eq_true c48
         have c48b1 : decide (((⟨#[40]⟩ : ByteArray) ++ t155).size + 1 ≤ 9223372036854775807) = true := decide_eq_true c48
         try have c48b2 : (9223372036854775807 < ((⟨#[40]⟩ : ByteArray) ++ t155).size + 1) = False := eq_false (Nat.not_lt.2 c48)
         try have c48b8 : (9223372036854775807 < 1 + t155.size + 1) = False := eq_false (by have h_ := c48; (repeat rw [ByteArray.size_append] at h_); exact Nat.not_lt.2 h_)
         replace H := Option.bind_eq_some_iff.mp H
         obtain ⟨⟨t157, t158⟩, A490, H⟩ := H
         try dsimp only at H
         have A49 := Asd.mk A490
         clear A490
         by_cases c50 : (((⟨#[40]⟩ : ByteArray) ++ t155) ++ (⟨#[62]⟩ : ByteArray)).size + t157.size ≤ 9223372036854775807
         ·rw [if_pos c50] at H
          have c50b0 := eq_true c50
          have c50b1 : decide ((((⟨#[40]⟩ : ByteArray) ++ t155) ++ (⟨#[62]⟩ : ByteArray)).size + t157.size ≤ 9223372036854775807) = true := decide_eq_true c50
          try have c50b2 : (9223372036854775807 < (((⟨#[40]⟩ : ByteArray) ++ t155) ++ (⟨#[62]⟩ : ByteArray)).size + t157.size) = False := eq_false (Nat.not_lt.2 c50)
          try have c50b8 : (9223372036854775807 < 1 + t155.size + 1 + t157.size) = False := eq_false (by have h_ := c50; (repeat rw [ByteArray.size_append] at h_); exact Nat.not_lt.2 h_)
          by_cases c51 : ((((⟨#[40]⟩ : ByteArray) ++ t155) ++ (⟨#[62]⟩ : ByteArray)) ++ t157).size + 1 ≤ 9223372036854775807
          ·rw [if_pos c51] at H
           have c51b0 := eq_true c51
           have c51b1 : decide (((((⟨#[40]⟩ : ByteArray) ++ t155) ++ (⟨#[62]⟩ : ByteArray)) ++ t157).size + 1 ≤ 9223372036854775807) = true := decide_eq_true c51
           try have c51b2 : (9223372036854775807 < ((((⟨#[40]⟩ : ByteArray) ++ t155) ++ (⟨#[62]⟩ : ByteArray)) ++ t157).size + 1) = False := eq_false (Nat.not_lt.2 c51)
           try have c51b8 : (9223372036854775807 < 1 + t155.size + 1 + t157.size + 1) = False := eq_false (by have h_ := c51; (repeat rw [ByteArray.size_append] at h_); exact Nat.not_lt.2 h_)
           simp only [Option.some.injEq, Prod.mk.injEq] at H
           obtain ⟨rfl, rfl⟩ := H
           go_wp2_with (first | ((with_reducible refine gate_callee (f := 82) rfl ?_); refine gsM (some 28) rfl rfl Try.func82 (by kernel_rfl) rfl #[.pointer (some ⟨g, 0, none⟩), .int .i64 4] rfl ?_; (with_reducible refine (spec_l20Rd_pick.calls kj3 g s0_0 x1001_3 4 t143 t144 w0 _ ?side1 ?side2 A20.out).mono ?_); (case side1 => repeat (with_reducible first | exact HI0.out | apply Iz.alloc | apply Iz.drewN | apply Iz.drew | apply Iz.set_1)); (case side2 => repeat (with_reducible first | exact HB.out | apply bwA | apply bwN | apply bwD | refine bwS ?_ (Iz.ge HI0.out))); rintro e w52 ⟨rfl, hi, hb, hk⟩; refine ⟨_, rfl, ?_⟩; have n0_ := Asd.mk (Kbt.trans (by repeat (with_reducible first | exact HK.out | apply Kbt.set_ | apply kpN | apply kpD | apply kpA)) hk (.inl rfl)); have n1_ := Asd.mk (hb); have n2_ := Asd.mk (hi); clear HK; clear HB; clear HI0; have HK := n0_; have HB := n1_; have HI0 := n2_; clear n0_ n1_ n2_; (try clear hb); (try clear hb2); (try clear hk); (try clear hi)) | ((with_reducible refine gate_callee (f := 80) rfl ?_); refine gsM (some 73) rfl rfl Try.func80 (by kernel_rfl) rfl #[.pointer (some ⟨g, 0, none⟩), .int .i64 a1, .int .i64 (wrap64 (a2 - 1))] rfl ?_; (with_reducible refine (ih kj3 (by have := HJ3.out; omega) g s0_0 t144 a1 (wrap64 (a2 - 1)) t155 t156 w0 _ ?side1 ?side2 A46.out).mono ?_); (case side1 => repeat (with_reducible first | exact HI0.out | apply Iz.alloc | apply Iz.drewN | apply Iz.drew | apply Iz.set_1)); (case side2 => repeat (with_reducible first | exact HB.out | apply bwA | apply bwN | apply bwD | refine bwS ?_ (Iz.ge HI0.out))); rintro e w53 ⟨rfl, hi, hb, hk⟩; refine ⟨_, rfl, ?_⟩; have n0_ := Asd.mk (Kbt.trans (by repeat (with_reducible first | exact HK.out | apply Kbt.set_ | apply kpN | apply kpD | apply kpA)) hk (.inl rfl)); have n1_ := Asd.mk (hb); have n2_ := Asd.mk (hi); clear HK; clear HB; clear HI0; have HK := n0_; have HB := n1_; have HI0 := n2_; clear n0_ n1_ n2_; (try clear hb); (try clear hb2); (try clear hk); (try clear hi)) | ((with_reducible refine gate_callee (f := 80) rfl ?_); refine gsM (some 80) rfl rfl Try.func80 (by kernel_rfl) rfl #[.pointer (some ⟨g, 0, none⟩), .int .i64 a1, .int .i64 (wrap64 (a2 - 1))] rfl ?_; (with_reducible refine (ih kj3 (by have := HJ3.out; omega) g s0_0 t156 a1 (wrap64 (a2 - 1)) t157 t158 w0 _ ?side1 ?side2 A49.out).mono ?_); (case side1 => repeat (with_reducible first | exact HI0.out | apply Iz.alloc | apply Iz.drewN | apply Iz.drew | apply Iz.set_1)); (case side2 => repeat (with_reducible first | exact HB.out | apply bwA | apply bwN | apply bwD | refine bwS ?_ (Iz.ge HI0.out))); rintro e w54 ⟨rfl, hi, hb, hk⟩; refine ⟨_, rfl, ?_⟩; have n0_ := Asd.mk (Kbt.trans (by repeat (with_reducible first | exact HK.out | apply Kbt.set_ | apply kpN | apply kpD | apply kpA)) hk (.inl rfl)); have n1_ := Asd.mk (hb); have n2_ := Asd.mk (hi); clear HK; clear HB; clear HI0; have HK := n0_; have HB := n1_; have HI0 := n2_; clear n0_ n1_ n2_; (try clear hb); (try clear hb2); (try clear hk); (try clear hi)))
           go_ret
           exact ⟨by first | rfl | (simp [errW_none, errW_some] <;> rfl) | (simp [*, errW_none, errW_some] <;> rfl), by repeat (with_reducible first | exact HI0.out | apply Iz.alloc | apply Iz.drewN | apply Iz.drew | apply Iz.set_1), by repeat (with_reducible first | exact HB.out | apply bwA | apply bwN | apply bwD | refine bwS ?_ (Iz.ge HI0.out)), by repeat (with_reducible first | exact HK.out | apply Kbt.set_ | apply kpN | apply kpD | apply kpA)⟩
          ·rw [if_neg c51] at H
           exact absurd H (by simp)
         ·rw [if_neg c50] at H
          exact absurd H (by simp)
        ·rw [if_neg c48] at H
         exact absurd H (by simp)
       ·rw [if_neg c47] at H
        exact absurd H (by simp)

/-! ### spec_l20Rd_odd: function 81 -/
def spec_l20Rd_odd.f (k : Nat) (s0_0 : List Int) (s0_1 : Int) (a1 : Int) : Option (Bool × Int) := if a1 > 0 then ((spec_l20Rd_pick.f k s0_0 s0_1 a1).bind fun bt159 => (some ((bt159.1 == (wrap64 (a1 - 1))), bt159.2))) else (some (false, s0_1))
theorem spec_l20Rd_odd.mono : ∀ a0 a1 a2 k, LeO (spec_l20Rd_odd.f k a0 a1 a2) (spec_l20Rd_odd.f (k + 1) a0 a1 a2) := by
 intro a0 a1 a2 k
 unfold spec_l20Rd_odd.f
 repeat' first
   | (with_reducible exact spec_l20Rd_pick.mono _ _ _ _)
   | (with_reducible exact LeO.refl _)
   | (with_reducible exact LeO.none _)
   | (with_reducible refine LeO.ite ?_ ?_)
   | (with_reducible refine LeO.bind ?_ (fun _ => ?_))
   | refine LeO.ite ?_ ?_
   | refine LeO.bind ?_ (fun _ => ?_)
set_option maxHeartbeats 8000000 in
set_option maxRecDepth 100000 in
theorem spec_l20Rd_odd.calls (k : Nat) (g : Nat) (s0_0 : List Int) (s0_1 : Int) (a1 : Int) (r1 : Bool) (r2 : Int) (w0 w : World) (hI : Iz w0 w g s0_0 s0_1) (hB : Below w0.heap.size w0 w) (h : spec_l20Rd_odd.f k s0_0 s0_1 a1 = some (r1, r2)) :
  Calls Try.prog 81 #[.pointer (some ⟨g, 0, none⟩), .int .i64 a1] w fun e w' => e = .returned (.bool r1) ∧ Iz w0 w' g s0_0 r2 ∧ Below w0.heap.size w0 w' ∧ Kbt w w' g none := by
 have HI0 := Asd.mk hI
 have HK := Asd.mk (Kbt.refl w g none)
 have HL := Asd.mk hB.size
 clear hI
 have HW0 := Asd.mk hB.size
 have HB := Asd.mk hB
 clear hB
 have H : (if a1 > 0 then ((spec_l20Rd_pick.f k s0_0 s0_1 a1).bind fun bt159 => (some ((bt159.1 == (wrap64 (a1 - 1))), bt159.2))) else (some (false, s0_1))) = some (r1, r2) := h
 clear h
 by_cases c3 : a1 > 0
 ·rw [if_pos c3] at H
  have c3b0 : decide (0 < a1) = true := decide_eq_true c3
  clear c3
  replace H := Option.bind_eq_some_iff.mp H
  obtain ⟨⟨t159, t160⟩, A40, H⟩ := H
  try dsimp only at H
  have A4 := Asd.mk A40
  clear A40
  simp only [Option.some.injEq, Prod.mk.injEq] at H
  obtain ⟨rfl, rfl⟩ := H
  go_enter Try.func81, Try.ntmps81
  go_wp2_with (first | (go_at_call 82; (with_reducible refine (spec_l20Rd_pick.calls k g s0_0 s0_1 a1 t159 t160 w0 _ ?side1 ?side2 A4.out).mono ?_); (case side1 => repeat (with_reducible first | exact HI0.out | apply Iz.alloc | apply Iz.drewN | apply Iz.drew | apply Iz.set_1)); (case side2 => repeat (with_reducible first | exact HB.out | apply bwA | apply bwN | apply bwD | refine bwS ?_ (Iz.ge HI0.out))); rintro e w5 ⟨rfl, hi, hb, hk⟩; have n0_ := Asd.mk (Kbt.trans (by repeat (with_reducible first | exact HK.out | apply Kbt.set_ | apply kpN | apply kpD | apply kpA)) hk (.inl rfl)); have n1_ := Asd.mk (hb); have n2_ := Asd.mk (hi); clear HK; clear HB; clear HI0; have HK := n0_; have HB := n1_; have HI0 := n2_; clear n0_ n1_ n2_; (try clear hb); (try clear hb2); (try clear hk); (try clear hi)))
  go_ret
  exact ⟨by first | rfl | (simp [errW_none, errW_some] <;> rfl) | (simp [*, errW_none, errW_some] <;> rfl), by repeat (with_reducible first | exact HI0.out | apply Iz.alloc | apply Iz.drewN | apply Iz.drew | apply Iz.set_1), by repeat (with_reducible first | exact HB.out | apply bwA | apply bwN | apply bwD | refine bwS ?_ (Iz.ge HI0.out)), by repeat (with_reducible first | exact HK.out | apply Kbt.set_ | apply kpN | apply kpD | apply kpA)⟩
 ·rw [if_neg c3] at H
  have c3b0 : decide (0 < a1) = false := decide_eq_false c3
  clear c3
  simp only [Option.some.injEq, Prod.mk.injEq] at H
  obtain ⟨rfl, rfl⟩ := H
  go_enter Try.func81, Try.ntmps81
  go_wp2
  go_ret
  exact ⟨by first | rfl | (simp [errW_none, errW_some] <;> rfl) | (simp [*, errW_none, errW_some] <;> rfl), by repeat (with_reducible first | exact HI0.out | apply Iz.alloc | apply Iz.drewN | apply Iz.drew | apply Iz.set_1), by repeat (with_reducible first | exact HB.out | apply bwA | apply bwN | apply bwD | refine bwS ?_ (Iz.ge HI0.out)), by repeat (with_reducible first | exact HK.out | apply Kbt.set_ | apply kpN | apply kpD | apply kpA)⟩

end Go.Proofs.Ytihgpkohglcijaa.P
