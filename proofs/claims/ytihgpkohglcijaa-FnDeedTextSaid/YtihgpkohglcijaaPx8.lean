-- Written by a program of this session (wip/hook.py), which runs the kit's printer; Lean checks it.
import Derived.Test.YtihgpkohglcijaaPx0
import Derived.Test.YtihgpkohglcijaaPx2
import Derived.Test.YtihgpkohglcijaaPx6
namespace Go.Proofs.Ytihgpkohglcijaa.P
open Go.RowKit Go.Proofs.YtihgpkohglcijaaW.PrintWords Go.Proofs.YtihgpkohglcijaaW.PrintLast Go.Proofs.YtihgpkohglcijaaW.PrintMore
attribute [local go_sem] max2_int min2_int max_two min_two max_three min_three max_four min_four   -- for this text's walks alone
set_option linter.unusedVariables false
set_option linter.unusedSimpArgs false

/-! ### spec_l10Copy: function 107 -/
def spec_l10Copy.l0 : Nat → Int → Int → List Int → List (List Int) → Int → List Int → List (List Int) → Option (Int × List Int × (List (List Int)))
 | 0, _, _, _, _, _, _, _ => none
 | k + 1, x4, x223000, x223001, x223002, x231000, x231001, x231002 => if x4 < (x223002.length : Int) then ((some (([] : List Int) : List Int)).bind fun y231 => (if 0 ≤ x4 then (if y231.length + (rd_L4 x223002 x4).length < 17592186044416 then (if x231002.length < 5864062014805 then (spec_l10Copy.l0 k (wrap64 (x4 + 1)) x223000 x223001 x223002 x231000 x231001 (x231002 ++ [(y231 ++ (rd_L4 x223002 x4))])) else (none)) else (none)) else (none))) else (some (x231000, x231001, x231002))
def spec_l10Copy.f (k : Nat) (a0_0 : Int) (l0_1 : List Int) (l0_2 : List (List Int)) : Option (Int × List Int × (List (List Int))) := (some (([] : List Int) : List Int)).bind fun y224 => (if y224.length + l0_1.length < 17592186044416 then (spec_l10Copy.l0 k 0 a0_0 l0_1 l0_2 a0_0 (y224 ++ l0_1) ([] : List (List Int))) else (none))
theorem spec_l10Copy.mono_l : ∀ k, (∀ y0 y1 y2 y3 y4 y5 y6, LeO (spec_l10Copy.l0 k y0 y1 y2 y3 y4 y5 y6) (spec_l10Copy.l0 (k + 1) y0 y1 y2 y3 y4 y5 y6))
 | 0 => fun _ _ _ _ _ _ _ r h => by simp [spec_l10Copy.l0] at h
 | k + 1 => by
  have ih0 := spec_l10Copy.mono_l k
  ·intro y0 y1 y2 y3 y4 y5 y6
   unfold spec_l10Copy.l0
   repeat' first
   | (with_reducible exact ih0 _ _ _ _ _ _ _)
   | (with_reducible exact LeO.refl _)
   | (with_reducible exact LeO.none _)
   | (with_reducible refine LeO.ite ?_ ?_)
   | (with_reducible refine LeO.bind ?_ (fun _ => ?_))
   | refine LeO.ite ?_ ?_
   | refine LeO.bind ?_ (fun _ => ?_)
theorem spec_l10Copy.mono : ∀ a0 a1 a2 k, LeO (spec_l10Copy.f k a0 a1 a2) (spec_l10Copy.f (k + 1) a0 a1 a2) := by
 intro a0 a1 a2 k
 have ih0 := spec_l10Copy.mono_l k
 unfold spec_l10Copy.f
 repeat' first
   | (with_reducible exact ih0 _ _ _ _ _ _ _)
   | (with_reducible exact LeO.refl _)
   | (with_reducible exact LeO.none _)
   | (with_reducible refine LeO.ite ?_ ?_)
   | (with_reducible refine LeO.bind ?_ (fun _ => ?_))
   | refine LeO.ite ?_ ?_
   | refine LeO.bind ?_ (fun _ => ?_)
def spec_l10Copy.T1 : Bool × List (List Nat × List Nat) := (true, [([], []), ([0], [0]), ([], []), ([], []), ([3], [3]), ([2, 4], [2, 4]), ([1, 5], [1, 5]), ([], []), ([7, 6, 5, 0, 1, 2, 3, 4, 5, 6, 7], [6, 7])])
def spec_l10Copy.B1 : List Nat := [0, 1, 0, 0, 8, 28, 63, 0, 255]
theorem spec_l10Copy.tab1 : rtab .any (opsOf Try.f107 1) = spec_l10Copy.T1 := by kernel_rfl
theorem spec_l10Copy.bits1 : waitsOk spec_l10Copy.T1.2 spec_l10Copy.B1 = true := by kernel_rfl
def spec_l10Copy.T5 : Bool × List (List Nat × List Nat) := (true, [([], []), ([0], [0]), ([], []), ([], []), ([3], [3]), ([], []), ([4, 5], [4, 5]), ([6], [6]), ([2, 7], [2, 7]), ([8], [8]), ([1, 9, 8], [1, 9]), ([0, 1, 2, 3, 4, 5, 6, 7, 8, 9, 10], []), ([11, 10, 10, 0, 1, 2, 3, 4, 5, 6, 7, 8, 9, 10], [10, 11])])
def spec_l10Copy.B5 : List Nat := [0, 1, 0, 0, 8, 0, 56, 120, 252, 508, 1023, 2047, 4095]
theorem spec_l10Copy.tab5 : rtab .any (opsOf Try.f107 5) = spec_l10Copy.T5 := by kernel_rfl
theorem spec_l10Copy.bits5 : waitsOk spec_l10Copy.T5.2 spec_l10Copy.B5 = true := by kernel_rfl
set_option maxHeartbeats 8000000 in
set_option maxRecDepth 100000 in
theorem spec_l10Copy.calls (k : Nat) (a0_0 : Int) (A0_1 : Option Addr) (c0_1 : Nat) (l0_1 : List Int) (A0_2 : Option Addr) (c0_2 : Nat) (l0_2 : List (List Int)) (r1 : Int) (r2 : List Int) (r3 : List (List Int)) (w : World) (hr0_1 : Kd.C (Kd.int .i64) w A0_1 l0_1.length l0_1) (hc0_1 : l0_1.length ≤ c0_1) (hr0_2 : Kd.C (Kd.slice 3 (Kd.int .i64)) w A0_2 l0_2.length l0_2) (hc0_2 : l0_2.length ≤ c0_2) (h : spec_l10Copy.f k a0_0 l0_1 l0_2 = some (r1, r2, r3)) :
  Calls Try.prog 107 #[.agg #[.int .i64 a0_0, .slice A0_1 l0_1.length c0_1, .slice A0_2 l0_2.length c0_2]] w fun e w' => ∃ v1_ v2_ : Value, e = .returned (.agg #[.int .i64 r1, v1_, v2_]) ∧ Kd.R (Kd.int .i64) 3 w' w.heap.size (fun _ => True) v1_ r2 ∧ Kd.S (Kd.slice 3 (Kd.int .i64)) 55 w' w.heap.size (fun k_ => some k_ ≠ (v1_ : Value).ownBlock) v2_ r3 ∧ Below w.heap.size w w' := by
 have hu58 := Try.underlying58
 have HR0_1 := Asd.mk hr0_1
 have HC0_1 := Asd.mk hc0_1
 clear hr0_1 hc0_1
 have HR0_2 := Asd.mk hr0_2
 have HC0_2 := Asd.mk hc0_2
 clear hr0_2 hc0_2
 have HB := Asd.mk (Below.refl w.heap.size w)
 have H : ((some (([] : List Int) : List Int)).bind fun y224 => (if y224.length + l0_1.length < 17592186044416 then (spec_l10Copy.l0 k 0 a0_0 l0_1 l0_2 a0_0 (y224 ++ l0_1) ([] : List (List Int))) else (none))) = some (r1, r2, r3) := h
 clear h
 obtain ⟨y224, hy224⟩ : ∃ y_ : List Int, y_ = (([] : List Int)) := ⟨_, rfl⟩
 replace H : (if y224.length + l0_1.length < 17592186044416 then (spec_l10Copy.l0 k 0 a0_0 l0_1 l0_2 a0_0 (y224 ++ l0_1) ([] : List (List Int))) else (none)) = some (r1, r2, r3) := by first | (rw [hy224]; with_reducible exact H) | (have H2_ := (Option.bind_some _ _).symm.trans H; rw [hy224]; with_reducible exact H2_) | (have H2_ := (Option.bind_some _ _).symm.trans H; with_reducible exact H2_) | with_reducible exact H | (rw [hy224]; exact H) | exact H
 have Ny224 := Asd.mk hy224
 clear hy224
 by_cases c2 : y224.length + l0_1.length < 17592186044416
 ·rw [if_pos c2] at H
  have LMc2 := Asd.mk c2
  clear c2
  obtain ⟨y227, hy227⟩ : ∃ y_ : List Int, y_ = (y224 ++ l0_1) := ⟨_, rfl⟩
  replace H : (spec_l10Copy.l0 k 0 a0_0 l0_1 l0_2 a0_0 y227 ([] : List (List Int))) = some (r1, r2, r3) := by first | (rw [hy227]; with_reducible exact H) | (have H2_ := (Option.bind_some _ _).symm.trans H; rw [hy227]; with_reducible exact H2_) | (have H2_ := (Option.bind_some _ _).symm.trans H; with_reducible exact H2_) | with_reducible exact H | (rw [hy227]; exact H) | exact H
  have Ny227 := Asd.mk hy227
  clear hy227
  have H' := Asd.mk H
  clear H
  go_enter Try.func107, Try.ntmps107
  try go_wp2_with (first | ((with_reducible refine gate_dst (N := 1) rfl ?_); refine bxE ?hg (N := 1) ?hd (cs := #[.int .i64 a0_0, .slice A0_1 l0_1.length c0_1, .slice A0_2 l0_2.length c0_2]) (t := 58) ?hr ?_; (case hd => rfl); (case hg => rfl); (case hr => first | (go_simp; done) | (go_simp; rfl)); intro gb222 hg w3 hbox hb; have n0_ := Asd.mk (bwP (by repeat (with_reducible first | exact HB.out | apply bwA | apply bwN | apply bwD)) hb); have n1_ := Asd.mk (hbox); have n2_ := Asd.mk ((by rw [hg]; exact (below_size (by repeat (with_reducible first | exact HB.out | apply bwA | apply bwN | apply bwD))) : w.heap.size ≤ gb222)); have n3_ := Asd.mk ((by rw [hg]; exact (below_size (by repeat (with_reducible first | exact HB.out | apply bwA | apply bwN | apply bwD))) : w.heap.size ≤ gb222)); clear HB; have HB := n0_; have BK222 := n1_; have GW222 := n2_; have GE222 := n3_; clear n0_ n1_ n2_ n3_; clear hb hbox hg) | ((with_reducible refine gate_dst (N := 2) rfl ?_); refine bxE ?hg (N := 2) ?hd (cs := #[.int .i64 0, .slice none 0 0, .slice none 0 0]) (t := 58) ?hr ?_; (case hd => rfl); (case hg => rfl); (case hr => first | (go_simp; done) | (go_simp; rfl)); intro gb223 hg w4 hbox hb; have n0_ := Asd.mk (bkB (g := gb222) (o := .cells #[.int .i64 a0_0, .slice A0_1 l0_1.length c0_1, .slice A0_2 l0_2.length c0_2] 58 (0, 0)) (by (with_reducible repeat first | apply bkN | apply bkD | apply bkA); exact BK222.out) hb); have n1_ := Asd.mk (bwP (by repeat (with_reducible first | exact HB.out | apply bwA | apply bwN | apply bwD | refine bwS ?_ GE222.out)) hb); have n2_ := Asd.mk (hbox); have n3_ := Asd.mk ((by rw [hg]; exact (below_size (by repeat (with_reducible first | exact HB.out | apply bwA | apply bwN | apply bwD | refine bwS ?_ GE222.out))) : w.heap.size ≤ gb223)); have n4_ := Asd.mk ((by rw [hg]; exact (below_size (by repeat (with_reducible first | exact HB.out | apply bwA | apply bwN | apply bwD | refine bwS ?_ GE222.out))) : w.heap.size ≤ gb223)); have n5_ := Asd.mk ((by rw [hg]; exact Nat.ne_of_lt (bkL (g := gb222) (o := .cells #[.int .i64 a0_0, .slice A0_1 l0_1.length c0_1, .slice A0_2 l0_2.length c0_2] 58 (0, 0)) (by (with_reducible repeat first | apply bkN | apply bkD | apply bkA); exact BK222.out)) : gb222 ≠ gb223)); have n6_ := Asd.mk ((by rw [hg]; exact Nat.ne_of_gt (bkL (g := gb222) (o := .cells #[.int .i64 a0_0, .slice A0_1 l0_1.length c0_1, .slice A0_2 l0_2.length c0_2] 58 (0, 0)) (by (with_reducible repeat first | apply bkN | apply bkD | apply bkA); exact BK222.out)) : gb223 ≠ gb222)); clear BK222; clear HB; have BK222 := n0_; have HB := n1_; have BK223 := n2_; have GW223 := n3_; have GE223 := n4_; have NB222_223 := n5_; have NB223_222 := n6_; clear n0_ n1_ n2_ n3_ n4_ n5_ n6_; clear hb hbox hg))
  have n0_ := Asd.mk (bkD BK222.out)
  have n1_ := Asd.mk (bkD BK223.out)
  have n2_ := Asd.mk (bwD HB.out)
  clear BK222
  clear BK223
  clear HB
  have BK222 := n0_
  have BK223 := n1_
  have HB := n2_
  clear n0_ n1_ n2_
  refine start_ (n := 9) (S := fun w' => w'.cell? ⟨gb222, 0, none⟩ = some (.int .i64 a0_0) ∧ w'.cell? ⟨gb222, 1, none⟩ = some (.slice A0_1 l0_1.length c0_1) ∧ w'.cell? ⟨gb222, 2, none⟩ = some (.slice A0_2 l0_2.length c0_2)) (ds := []) #[false, false, false, false, false, false, false, false, false] (by kernel_rfl) rfl rfl ⟨(bkC BK222.out 0).trans rfl, (bkC BK222.out 1).trans rfl, (bkC BK222.out 2).trans rfl⟩ (fun hHeld => ?_); refine with_tabW spec_l10Copy.tab1 spec_l10Copy.bits1 (fun HT_ HW_ => ?_)
  generalize w4.drew = w5 at BK222 BK223 HB hHeld ⊢
  refine pure_ (i := 0) (N := some 5) (v := ?_) (a' := ?_) #[true, false, false, false, false, false, false, false, false] rfl rfl (any_of HT_.out (by kernel_rfl)) (fun _ _ _ h => h) (Or.inl ⟨by rfl, ?_⟩) ?_ ?_
  rotate_left
  ·intro w'
   go_simp
   with_reducible rfl
  rotate_left
  ·simp only [Act.put, List.setIfInBounds_toArray, List.set_cons_zero, List.set_cons_succ, i64_w, i32_w]
   rfl
  refine pure_ (i := 3) (N := some 8) (v := ?_) (a' := ?_) #[true, false, false, true, false, false, false, false, false] rfl rfl (any_of HT_.out (by kernel_rfl)) (fun _ _ _ h => h) (Or.inl ⟨by rfl, ?_⟩) ?_ ?_
  rotate_left
  ·intro w'
   go_simp
   with_reducible rfl
  rotate_left
  ·simp only [Act.put, List.setIfInBounds_toArray, List.set_cons_zero, List.set_cons_succ, i64_w, i32_w]
   rfl
  refine take_ (i := 1) (N := some 6) (v := ?_) (a' := ?_) #[true, true, false, true, false, false, false, false, false] rfl rfl (take_ofW HT_.out HW_.out (by kernel_rfl)) (fun _ _ _ h => h) (Or.inl ⟨by rfl, ?_⟩) hHeld ?_ ?_
  rotate_left
  ·rintro w' ⟨s0, s1, s2⟩
   go_simp
   with_reducible rfl
  rotate_left
  ·simp only [Act.put, List.setIfInBounds_toArray, List.set_cons_zero, List.set_cons_succ, i64_w, i32_w]
   rfl
  refine take_ (i := 4) (N := some 9) (v := ?_) (a' := ?_) #[true, true, false, true, true, false, false, false, false] rfl rfl (take_ofW HT_.out HW_.out (by kernel_rfl)) (fun _ _ _ h => h) (Or.inl ⟨by rfl, ?_⟩) hHeld ?_ ?_
  rotate_left
  ·rintro w' ⟨s0, s1, s2⟩
   go_simp
   with_reducible rfl
  rotate_left
  ·simp only [Act.put, List.setIfInBounds_toArray, List.set_cons_zero, List.set_cons_succ, i64_w, i32_w]
   rfl
  refine join_ (σ := Value × Value × Nat) 1 #[true, true, true, true, true, true, true, true, false] (fun s_ => [(7, s_.1), (10, s_.2.1), (3, .pointer (some ⟨s_.2.2, 0, none⟩)), (11, .agg #[.int .i64 a0_0, s_.2.1, .slice none 0 0])]) (fun s_ w' => (w'.cell? ⟨gb222, 0, none⟩ = some (.int .i64 a0_0) ∧ w'.cell? ⟨gb222, 1, none⟩ = some (.slice A0_1 l0_1.length c0_1) ∧ w'.cell? ⟨gb222, 2, none⟩ = some (.slice A0_2 l0_2.length c0_2)) ∧ (Kd.R (Kd.int .i64) 3 w' w.heap.size (fun _ => True) s_.2.1 y227) ∧ (w'.heap[gb222]? = some (.cells #[.int .i64 a0_0, .slice A0_1 l0_1.length c0_1, .slice A0_2 l0_2.length c0_2] 58 (0, 0))) ∧ (w'.heap[gb223]? = some (.cells #[.int .i64 0, .slice none 0 0, .slice none 0 0] 58 (0, 0))) ∧ (w'.heap[s_.2.2]? = some (.cells #[.int .i64 0, .slice none 0 0, .slice none 0 0] 58 (0, 0))) ∧ (w.heap.size ≤ s_.2.2) ∧ (w.heap.size ≤ s_.2.2) ∧ (gb222 ≠ s_.2.2) ∧ (s_.2.2 ≠ gb222) ∧ (gb223 ≠ s_.2.2) ∧ (s_.2.2 ≠ gb223) ∧ (Below w.heap.size w w')) ?_ ?_
  rotate_left
  ·intro hCont
   refine two_ (i := 2) (j := 7) (Ni := some 7) (Nj := some 3) #[true, true, true, true, true, false, false, false, false] #[true, true, false, true, true, false, false, true, false] rfl rfl rfl rfl (two_of HT_.out (by kernel_rfl)) (by decide) (by decide) (fun K hK => ?_) (fun K hK => ?_)
   ·skip
    refine Kd.R_lit_step (Kd.int .i64) _ 3 ?hg (N := 7) ?hd (xs := ([] : List Int)) (inner := []) (ok := fun _ => True) (okp := fun _ => True) ?hr ?hp (fun _ hk => hk) trivial (Below.refl _ _) (Nat.le_refl _) (by simp) ?_; (case hd => rfl); (case hg => rfl); (case hr => first | (go_simp; done) | (go_simp; rfl)); (case hp => exact (Reps.none _ _))
    intro v225 w6 ho7 hb hg_ hnew_
    clear hg_ hnew_
    (first | rw [← Ny224.out] at ho7 | (simp only [Int.reduceToNat] at ho7; rw [← Ny224.out] at ho7))
    have n0_ := Asd.mk (Kd.R_lower ho7 (below_size (by repeat (with_reducible first | exact HB.out | apply bwA | apply bwN | apply bwD | refine bwS ?_ GE222.out | refine bwS ?_ GE223.out))))
    have n1_ := Asd.mk (bkB (g := gb222) (o := .cells #[.int .i64 a0_0, .slice A0_1 l0_1.length c0_1, .slice A0_2 l0_2.length c0_2] 58 (0, 0)) (by (with_reducible repeat first | apply bkN | apply bkD | apply bkA); exact BK222.out) hb)
    have n2_ := Asd.mk (bkB (g := gb223) (o := .cells #[.int .i64 0, .slice none 0 0, .slice none 0 0] 58 (0, 0)) (by (with_reducible repeat first | apply bkN | apply bkD | apply bkA); exact BK223.out) hb)
    have n3_ := Asd.mk (bwP (by repeat (with_reducible first | exact HB.out | apply bwA | apply bwN | apply bwD | refine bwS ?_ GE222.out | refine bwS ?_ GE223.out)) hb)
    clear BK222
    clear BK223
    clear HB
    have HO226 := n0_
    have BK222 := n1_
    have BK223 := n2_
    have HB := n3_
    clear n0_ n1_ n2_ n3_
    clear hb ho7
    refine hK.out _ _ ⟨(bkC BK222.out 0).trans rfl, (bkC BK222.out 1).trans rfl, (bkC BK222.out 2).trans rfl⟩ (fun hHeld => ?_)
    clear hK K
    refine norm_ (a' := ?_) ?_ ?_
    rotate_left
    ·show Act.put _ (some 7) _ = _
     simp only [Act.put, List.setIfInBounds_toArray, List.set_cons_zero, List.set_cons_succ, i64_w, i32_w]
     rfl
    refine two_ (i := 5) (j := 7) (Ni := some 10) (Nj := some 3) #[true, true, true, true, true, true, false, false, false] #[true, true, true, true, true, false, false, true, false] rfl rfl rfl rfl (two_of HT_.out (by kernel_rfl)) (by decide) (by decide) (fun K hK => ?_) (fun K hK => ?_)
    ·skip
     refine Kd.R_append_rows_step (Kd.int .i64) (w0 := w) w.heap.size (by rfl) (.tmp 7) (.tmp 9) 55 3 (.int .i64 0) 8 rfl Try.underlying55 info3 rfl (by decide) (by omega) v225 y224 l0_1 _ _ _ (fun _ => True) (fun _ => False) rfl rfl ?aO ?aR (fun _ _ h => h) (fun _ h => h.elim) ?aF ?aB ?aS ?aL ?_
     (case aR => repeat (first | exact (Kd.C_below HR0_1.out HB.out) | (with_reducible refine Kd.C_alloc ?_ _) | (with_reducible refine Kd.C_drewN ?_ _) | (with_reducible refine Kd.C_drew ?_)))
     (case aB => exact (by repeat (with_reducible first | exact HB.out | apply bwA | apply bwN | apply bwD | refine bwS ?_ GE222.out | refine bwS ?_ GE223.out)))
     (case aF => exact (fun _ _ => trivial))
     (case aO => exact (by (with_reducible repeat (first | apply Kd.R_alloc | apply Kd.R_drewN | apply Kd.R_drew)); exact HO226.out))
     (case aS => exact (below_size (by repeat (with_reducible first | exact HB.out | apply bwA | apply bwN | apply bwD | refine bwS ?_ GE222.out | refine bwS ?_ GE223.out))))
     (case aL => have := LMc2.out; omega)
     intro v228 w8 ho hb hg hat
     rw [← Ny227.out] at ho
     have n0_ := Asd.mk (blk_grown (g := gb222) (o := .cells #[.int .i64 a0_0, .slice A0_1 l0_1.length c0_1, .slice A0_2 l0_2.length c0_2] 58 (0, 0)) (by (with_reducible repeat first | apply bkN | apply bkD | apply bkA); exact BK222.out) hg (Kd.R_ne HO226.out BK222.out (by decide)))
     have n1_ := Asd.mk (blk_grown (g := gb223) (o := .cells #[.int .i64 0, .slice none 0 0, .slice none 0 0] 58 (0, 0)) (by (with_reducible repeat first | apply bkN | apply bkD | apply bkA); exact BK223.out) hg (Kd.R_ne HO226.out BK223.out (by decide)))
     have n2_ := Asd.mk (hb)
     have n3_ := Asd.mk (ho)
     clear BK222
     clear BK223
     clear HB
     clear HO226
     have BK222 := n0_
     have BK223 := n1_
     have HB := n2_
     have HO229 := n3_
     clear n0_ n1_ n2_ n3_
     clear ho hb hg hat
     obtain ⟨Ao9, co9, eo9⟩ := Kd.R_slice HO229.out
     (first | subst eo9 | (injection eo9 with f1_ f2_ f3_; have f4_ := f1_.symm; have f5_ := f3_.symm; clear f1_ f2_ f3_; subst f4_; subst f5_))
     refine hK.out _ _ ⟨(bkC BK222.out 0).trans rfl, (bkC BK222.out 1).trans rfl, (bkC BK222.out 2).trans rfl⟩ (fun hHeld => ?_)
     clear hK K
     refine norm_ (a' := ?_) ?_ ?_
     rotate_left
     ·show Act.put _ (some 10) _ = _
      simp only [Act.put, List.setIfInBounds_toArray, List.set_cons_zero, List.set_cons_succ, i64_w, i32_w]
      rfl
     refine pure_ (i := 6) (N := some 11) (v := ?_) (a' := ?_) #[true, true, true, true, true, true, true, false, false] rfl rfl (any_of HT_.out (by kernel_rfl)) (fun _ _ _ h => h) (Or.inl ⟨by rfl, ?_⟩) ?_ ?_
     rotate_left
     ·intro w'
      go_simp
      with_reducible rfl
     rotate_left
     ·simp only [Act.put, List.setIfInBounds_toArray, List.set_cons_zero, List.set_cons_succ, i64_w, i32_w]
      rfl
     refine one_ (i := 7) (N := some 3) #[true, true, true, true, true, true, true, true, false] rfl rfl (one_of HT_.out (by kernel_rfl)) (by decide) (fun K hK => ?_)
     refine box_step ?hg (N := 3) ?hd (cs := #[.int .i64 0, .slice none 0 0, .slice none 0 0]) (t := 58) ?hr ?_; (case hd => rfl); (case hg => rfl); (case hr => first | (go_simp; done) | (go_simp; rfl))
     intro gb230 hg w10 hbox hb
     have n0_ := Asd.mk (Kd.R_below (by (with_reducible repeat (first | apply Kd.R_alloc | apply Kd.R_drewN | apply Kd.R_drew)); exact HO229.out) hb)
     have n1_ := Asd.mk (bkB (g := gb222) (o := .cells #[.int .i64 a0_0, .slice A0_1 l0_1.length c0_1, .slice A0_2 l0_2.length c0_2] 58 (0, 0)) (by (with_reducible repeat first | apply bkN | apply bkD | apply bkA); exact BK222.out) hb)
     have n2_ := Asd.mk (bkB (g := gb223) (o := .cells #[.int .i64 0, .slice none 0 0, .slice none 0 0] 58 (0, 0)) (by (with_reducible repeat first | apply bkN | apply bkD | apply bkA); exact BK223.out) hb)
     have n3_ := Asd.mk (bwP (by repeat (with_reducible first | exact HB.out | apply bwA | apply bwN | apply bwD | refine bwS ?_ GE222.out | refine bwS ?_ GE223.out)) hb)
     have n4_ := Asd.mk (hbox)
     have n5_ := Asd.mk ((by rw [hg]; exact (below_size (by repeat (with_reducible first | exact HB.out | apply bwA | apply bwN | apply bwD | refine bwS ?_ GE222.out | refine bwS ?_ GE223.out))) : w.heap.size ≤ gb230))
     have n6_ := Asd.mk ((by rw [hg]; exact (below_size (by repeat (with_reducible first | exact HB.out | apply bwA | apply bwN | apply bwD | refine bwS ?_ GE222.out | refine bwS ?_ GE223.out))) : w.heap.size ≤ gb230))
     have n7_ := Asd.mk ((by rw [hg]; exact Nat.ne_of_lt (bkL (g := gb222) (o := .cells #[.int .i64 a0_0, .slice A0_1 l0_1.length c0_1, .slice A0_2 l0_2.length c0_2] 58 (0, 0)) (by (with_reducible repeat first | apply bkN | apply bkD | apply bkA); exact BK222.out)) : gb222 ≠ gb230))
     have n8_ := Asd.mk ((by rw [hg]; exact Nat.ne_of_gt (bkL (g := gb222) (o := .cells #[.int .i64 a0_0, .slice A0_1 l0_1.length c0_1, .slice A0_2 l0_2.length c0_2] 58 (0, 0)) (by (with_reducible repeat first | apply bkN | apply bkD | apply bkA); exact BK222.out)) : gb230 ≠ gb222))
     have n9_ := Asd.mk ((by rw [hg]; exact Nat.ne_of_lt (bkL (g := gb223) (o := .cells #[.int .i64 0, .slice none 0 0, .slice none 0 0] 58 (0, 0)) (by (with_reducible repeat first | apply bkN | apply bkD | apply bkA); exact BK223.out)) : gb223 ≠ gb230))
     have n10_ := Asd.mk ((by rw [hg]; exact Nat.ne_of_gt (bkL (g := gb223) (o := .cells #[.int .i64 0, .slice none 0 0, .slice none 0 0] 58 (0, 0)) (by (with_reducible repeat first | apply bkN | apply bkD | apply bkA); exact BK223.out)) : gb230 ≠ gb223))
     clear HO229
     clear BK222
     clear BK223
     clear HB
     have HO229 := n0_
     have BK222 := n1_
     have BK223 := n2_
     have HB := n3_
     have BK230 := n4_
     have GW230 := n5_
     have GE230 := n6_
     have NB222_230 := n7_
     have NB230_222 := n8_
     have NB223_230 := n9_
     have NB230_223 := n10_
     clear n0_ n1_ n2_ n3_ n4_ n5_ n6_ n7_ n8_ n9_ n10_
     clear hb hbox hg
     refine hK.out _ _ ⟨(bkC BK222.out 0).trans rfl, (bkC BK222.out 1).trans rfl, (bkC BK222.out 2).trans rfl⟩ (fun hHeld => ?_)
     clear hK K
     refine norm_ (a' := ?_) ?_ ?_
     rotate_left
     ·show Act.put _ (some 3) _ = _
      simp only [Act.put, List.setIfInBounds_toArray, List.set_cons_zero, List.set_cons_succ, i64_w, i32_w]
      rfl
     exact norm_ (by simp only [putAll, Act.put, List.setIfInBounds_toArray, List.set_cons_zero, List.set_cons_succ]) (hCont (v225, .slice Ao9 y227.length co9, gb230) _ ⟨hHeld, (by (with_reducible repeat (first | apply Kd.R_alloc | apply Kd.R_drewN | apply Kd.R_drew)); exact HO229.out), (by (with_reducible repeat first | apply bkN | apply bkD | apply bkA); exact BK222.out), (by (with_reducible repeat first | apply bkN | apply bkD | apply bkA); exact BK223.out), (by (with_reducible repeat first | apply bkN | apply bkD | apply bkA); exact BK230.out), GW230.out, GE230.out, NB222_230.out, NB230_222.out, NB223_230.out, NB230_223.out, (by repeat (with_reducible first | exact HB.out | apply bwA | apply bwN | apply bwD | refine bwS ?_ GE222.out | refine bwS ?_ GE223.out | refine bwS ?_ GE230.out))⟩)
    ·skip
     refine box_step ?hg (N := 3) ?hd (cs := #[.int .i64 0, .slice none 0 0, .slice none 0 0]) (t := 58) ?hr ?_; (case hd => rfl); (case hg => rfl); (case hr => first | (go_simp; done) | (go_simp; rfl))
     intro gb230 hg w8 hbox hb
     have n0_ := Asd.mk (Kd.R_below (by (with_reducible repeat (first | apply Kd.R_alloc | apply Kd.R_drewN | apply Kd.R_drew)); exact HO226.out) hb)
     have n1_ := Asd.mk (bkB (g := gb222) (o := .cells #[.int .i64 a0_0, .slice A0_1 l0_1.length c0_1, .slice A0_2 l0_2.length c0_2] 58 (0, 0)) (by (with_reducible repeat first | apply bkN | apply bkD | apply bkA); exact BK222.out) hb)
     have n2_ := Asd.mk (bkB (g := gb223) (o := .cells #[.int .i64 0, .slice none 0 0, .slice none 0 0] 58 (0, 0)) (by (with_reducible repeat first | apply bkN | apply bkD | apply bkA); exact BK223.out) hb)
     have n3_ := Asd.mk (bwP (by repeat (with_reducible first | exact HB.out | apply bwA | apply bwN | apply bwD | refine bwS ?_ GE222.out | refine bwS ?_ GE223.out)) hb)
     have n4_ := Asd.mk (hbox)
     have n5_ := Asd.mk ((by rw [hg]; exact (below_size (by repeat (with_reducible first | exact HB.out | apply bwA | apply bwN | apply bwD | refine bwS ?_ GE222.out | refine bwS ?_ GE223.out))) : w.heap.size ≤ gb230))
     have n6_ := Asd.mk ((by rw [hg]; exact (below_size (by repeat (with_reducible first | exact HB.out | apply bwA | apply bwN | apply bwD | refine bwS ?_ GE222.out | refine bwS ?_ GE223.out))) : w.heap.size ≤ gb230))
     have n7_ := Asd.mk ((by rw [hg]; exact Nat.ne_of_lt (bkL (g := gb222) (o := .cells #[.int .i64 a0_0, .slice A0_1 l0_1.length c0_1, .slice A0_2 l0_2.length c0_2] 58 (0, 0)) (by (with_reducible repeat first | apply bkN | apply bkD | apply bkA); exact BK222.out)) : gb222 ≠ gb230))
     have n8_ := Asd.mk ((by rw [hg]; exact Nat.ne_of_gt (bkL (g := gb222) (o := .cells #[.int .i64 a0_0, .slice A0_1 l0_1.length c0_1, .slice A0_2 l0_2.length c0_2] 58 (0, 0)) (by (with_reducible repeat first | apply bkN | apply bkD | apply bkA); exact BK222.out)) : gb230 ≠ gb222))
     have n9_ := Asd.mk ((by rw [hg]; exact Nat.ne_of_lt (bkL (g := gb223) (o := .cells #[.int .i64 0, .slice none 0 0, .slice none 0 0] 58 (0, 0)) (by (with_reducible repeat first | apply bkN | apply bkD | apply bkA); exact BK223.out)) : gb223 ≠ gb230))
     have n10_ := Asd.mk ((by rw [hg]; exact Nat.ne_of_gt (bkL (g := gb223) (o := .cells #[.int .i64 0, .slice none 0 0, .slice none 0 0] 58 (0, 0)) (by (with_reducible repeat first | apply bkN | apply bkD | apply bkA); exact BK223.out)) : gb230 ≠ gb223))
     clear HO226
     clear BK222
     clear BK223
     clear HB
     have HO226 := n0_
     have BK222 := n1_
     have BK223 := n2_
     have HB := n3_
     have BK230 := n4_
     have GW230 := n5_
     have GE230 := n6_
     have NB222_230 := n7_
     have NB230_222 := n8_
     have NB223_230 := n9_
     have NB230_223 := n10_
     clear n0_ n1_ n2_ n3_ n4_ n5_ n6_ n7_ n8_ n9_ n10_
     clear hb hbox hg
     refine hK.out _ _ ⟨(bkC BK222.out 0).trans rfl, (bkC BK222.out 1).trans rfl, (bkC BK222.out 2).trans rfl⟩ (fun hHeld => ?_)
     clear hK K
     refine norm_ (a' := ?_) ?_ ?_
     rotate_left
     ·show Act.put _ (some 3) _ = _
      simp only [Act.put, List.setIfInBounds_toArray, List.set_cons_zero, List.set_cons_succ, i64_w, i32_w]
      rfl
     refine one_ (i := 5) (N := some 10) #[true, true, true, true, true, true, false, true, false] rfl rfl (one_of HT_.out (by kernel_rfl)) (by decide) (fun K hK => ?_)
     refine Kd.R_append_rows_step (Kd.int .i64) (w0 := w) w.heap.size (by rfl) (.tmp 7) (.tmp 9) 55 3 (.int .i64 0) 8 rfl Try.underlying55 info3 rfl (by decide) (by omega) v225 y224 l0_1 _ _ _ (fun _ => True) (fun _ => False) rfl rfl ?aO ?aR (fun _ _ h => h) (fun _ h => h.elim) ?aF ?aB ?aS ?aL ?_
     (case aR => repeat (first | exact (Kd.C_below HR0_1.out HB.out) | (with_reducible refine Kd.C_alloc ?_ _) | (with_reducible refine Kd.C_drewN ?_ _) | (with_reducible refine Kd.C_drew ?_)))
     (case aB => exact (by repeat (with_reducible first | exact HB.out | apply bwA | apply bwN | apply bwD | refine bwS ?_ GE222.out | refine bwS ?_ GE223.out | refine bwS ?_ GE230.out)))
     (case aF => exact (fun _ _ => trivial))
     (case aO => exact (by (with_reducible repeat (first | apply Kd.R_alloc | apply Kd.R_drewN | apply Kd.R_drew)); exact HO226.out))
     (case aS => exact (below_size (by repeat (with_reducible first | exact HB.out | apply bwA | apply bwN | apply bwD | refine bwS ?_ GE222.out | refine bwS ?_ GE223.out | refine bwS ?_ GE230.out))))
     (case aL => have := LMc2.out; omega)
     intro v228 w9 ho hb hg hat
     rw [← Ny227.out] at ho
     have n0_ := Asd.mk (blk_grown (g := gb222) (o := .cells #[.int .i64 a0_0, .slice A0_1 l0_1.length c0_1, .slice A0_2 l0_2.length c0_2] 58 (0, 0)) (by (with_reducible repeat first | apply bkN | apply bkD | apply bkA); exact BK222.out) hg (Kd.R_ne HO226.out BK222.out (by decide)))
     have n1_ := Asd.mk (blk_grown (g := gb223) (o := .cells #[.int .i64 0, .slice none 0 0, .slice none 0 0] 58 (0, 0)) (by (with_reducible repeat first | apply bkN | apply bkD | apply bkA); exact BK223.out) hg (Kd.R_ne HO226.out BK223.out (by decide)))
     have n2_ := Asd.mk (blk_grown (g := gb230) (o := .cells #[.int .i64 0, .slice none 0 0, .slice none 0 0] 58 (0, 0)) (by (with_reducible repeat first | apply bkN | apply bkD | apply bkA); exact BK230.out) hg (Kd.R_ne HO226.out BK230.out (by decide)))
     have n3_ := Asd.mk (hb)
     have n4_ := Asd.mk (ho)
     clear BK222
     clear BK223
     clear BK230
     clear HB
     clear HO226
     have BK222 := n0_
     have BK223 := n1_
     have BK230 := n2_
     have HB := n3_
     have HO229 := n4_
     clear n0_ n1_ n2_ n3_ n4_
     clear ho hb hg hat
     obtain ⟨Ao10, co10, eo10⟩ := Kd.R_slice HO229.out
     (first | subst eo10 | (injection eo10 with f1_ f2_ f3_; have f4_ := f1_.symm; have f5_ := f3_.symm; clear f1_ f2_ f3_; subst f4_; subst f5_))
     refine hK.out _ _ ⟨(bkC BK222.out 0).trans rfl, (bkC BK222.out 1).trans rfl, (bkC BK222.out 2).trans rfl⟩ (fun hHeld => ?_)
     clear hK K
     refine norm_ (a' := ?_) ?_ ?_
     rotate_left
     ·show Act.put _ (some 10) _ = _
      simp only [Act.put, List.setIfInBounds_toArray, List.set_cons_zero, List.set_cons_succ, i64_w, i32_w]
      rfl
     refine pure_ (i := 6) (N := some 11) (v := ?_) (a' := ?_) #[true, true, true, true, true, true, true, true, false] rfl rfl (any_of HT_.out (by kernel_rfl)) (fun _ _ _ h => h) (Or.inl ⟨by rfl, ?_⟩) ?_ ?_
     rotate_left
     ·intro w'
      go_simp
      with_reducible rfl
     rotate_left
     ·simp only [Act.put, List.setIfInBounds_toArray, List.set_cons_zero, List.set_cons_succ, i64_w, i32_w]
      rfl
     exact norm_ (by simp only [putAll, Act.put, List.setIfInBounds_toArray, List.set_cons_zero, List.set_cons_succ]) (hCont (v225, .slice Ao10 y227.length co10, gb230) _ ⟨hHeld, (by (with_reducible repeat (first | apply Kd.R_alloc | apply Kd.R_drewN | apply Kd.R_drew)); exact HO229.out), (by (with_reducible repeat first | apply bkN | apply bkD | apply bkA); exact BK222.out), (by (with_reducible repeat first | apply bkN | apply bkD | apply bkA); exact BK223.out), (by (with_reducible repeat first | apply bkN | apply bkD | apply bkA); exact BK230.out), GW230.out, GE230.out, NB222_230.out, NB230_222.out, NB223_230.out, NB230_223.out, (by repeat (with_reducible first | exact HB.out | apply bwA | apply bwN | apply bwD | refine bwS ?_ GE222.out | refine bwS ?_ GE223.out | refine bwS ?_ GE230.out))⟩)
   ·skip
    refine box_step ?hg (N := 3) ?hd (cs := #[.int .i64 0, .slice none 0 0, .slice none 0 0]) (t := 58) ?hr ?_; (case hd => rfl); (case hg => rfl); (case hr => first | (go_simp; done) | (go_simp; rfl))
    intro gb230 hg w6 hbox hb
    have n0_ := Asd.mk (bkB (g := gb222) (o := .cells #[.int .i64 a0_0, .slice A0_1 l0_1.length c0_1, .slice A0_2 l0_2.length c0_2] 58 (0, 0)) (by (with_reducible repeat first | apply bkN | apply bkD | apply bkA); exact BK222.out) hb)
    have n1_ := Asd.mk (bkB (g := gb223) (o := .cells #[.int .i64 0, .slice none 0 0, .slice none 0 0] 58 (0, 0)) (by (with_reducible repeat first | apply bkN | apply bkD | apply bkA); exact BK223.out) hb)
    have n2_ := Asd.mk (bwP (by repeat (with_reducible first | exact HB.out | apply bwA | apply bwN | apply bwD | refine bwS ?_ GE222.out | refine bwS ?_ GE223.out)) hb)
    have n3_ := Asd.mk (hbox)
    have n4_ := Asd.mk ((by rw [hg]; exact (below_size (by repeat (with_reducible first | exact HB.out | apply bwA | apply bwN | apply bwD | refine bwS ?_ GE222.out | refine bwS ?_ GE223.out))) : w.heap.size ≤ gb230))
    have n5_ := Asd.mk ((by rw [hg]; exact (below_size (by repeat (with_reducible first | exact HB.out | apply bwA | apply bwN | apply bwD | refine bwS ?_ GE222.out | refine bwS ?_ GE223.out))) : w.heap.size ≤ gb230))
    have n6_ := Asd.mk ((by rw [hg]; exact Nat.ne_of_lt (bkL (g := gb222) (o := .cells #[.int .i64 a0_0, .slice A0_1 l0_1.length c0_1, .slice A0_2 l0_2.length c0_2] 58 (0, 0)) (by (with_reducible repeat first | apply bkN | apply bkD | apply bkA); exact BK222.out)) : gb222 ≠ gb230))
    have n7_ := Asd.mk ((by rw [hg]; exact Nat.ne_of_gt (bkL (g := gb222) (o := .cells #[.int .i64 a0_0, .slice A0_1 l0_1.length c0_1, .slice A0_2 l0_2.length c0_2] 58 (0, 0)) (by (with_reducible repeat first | apply bkN | apply bkD | apply bkA); exact BK222.out)) : gb230 ≠ gb222))
    have n8_ := Asd.mk ((by rw [hg]; exact Nat.ne_of_lt (bkL (g := gb223) (o := .cells #[.int .i64 0, .slice none 0 0, .slice none 0 0] 58 (0, 0)) (by (with_reducible repeat first | apply bkN | apply bkD | apply bkA); exact BK223.out)) : gb223 ≠ gb230))
    have n9_ := Asd.mk ((by rw [hg]; exact Nat.ne_of_gt (bkL (g := gb223) (o := .cells #[.int .i64 0, .slice none 0 0, .slice none 0 0] 58 (0, 0)) (by (with_reducible repeat first | apply bkN | apply bkD | apply bkA); exact BK223.out)) : gb230 ≠ gb223))
    clear BK222
    clear BK223
    clear HB
    have BK222 := n0_
    have BK223 := n1_
    have HB := n2_
    have BK230 := n3_
    have GW230 := n4_
    have GE230 := n5_
    have NB222_230 := n6_
    have NB230_222 := n7_
    have NB223_230 := n8_
    have NB230_223 := n9_
    clear n0_ n1_ n2_ n3_ n4_ n5_ n6_ n7_ n8_ n9_
    clear hb hbox hg
    refine hK.out _ _ ⟨(bkC BK222.out 0).trans rfl, (bkC BK222.out 1).trans rfl, (bkC BK222.out 2).trans rfl⟩ (fun hHeld => ?_)
    clear hK K
    refine norm_ (a' := ?_) ?_ ?_
    rotate_left
    ·show Act.put _ (some 3) _ = _
     simp only [Act.put, List.setIfInBounds_toArray, List.set_cons_zero, List.set_cons_succ, i64_w, i32_w]
     rfl
    refine one_ (i := 2) (N := some 7) #[true, true, true, true, true, false, false, true, false] rfl rfl (one_of HT_.out (by kernel_rfl)) (by decide) (fun K hK => ?_)
    refine Kd.R_lit_step (Kd.int .i64) _ 3 ?hg (N := 7) ?hd (xs := ([] : List Int)) (inner := []) (ok := fun _ => True) (okp := fun _ => True) ?hr ?hp (fun _ hk => hk) trivial (Below.refl _ _) (Nat.le_refl _) (by simp) ?_; (case hd => rfl); (case hg => rfl); (case hr => first | (go_simp; done) | (go_simp; rfl)); (case hp => exact (Reps.none _ _))
    intro v225 w7 ho8 hb hg_ hnew_
    clear hg_ hnew_
    (first | rw [← Ny224.out] at ho8 | (simp only [Int.reduceToNat] at ho8; rw [← Ny224.out] at ho8))
    have n0_ := Asd.mk (Kd.R_lower ho8 (below_size (by repeat (with_reducible first | exact HB.out | apply bwA | apply bwN | apply bwD | refine bwS ?_ GE222.out | refine bwS ?_ GE223.out | refine bwS ?_ GE230.out))))
    have n1_ := Asd.mk (bkB (g := gb222) (o := .cells #[.int .i64 a0_0, .slice A0_1 l0_1.length c0_1, .slice A0_2 l0_2.length c0_2] 58 (0, 0)) (by (with_reducible repeat first | apply bkN | apply bkD | apply bkA); exact BK222.out) hb)
    have n2_ := Asd.mk (bkB (g := gb223) (o := .cells #[.int .i64 0, .slice none 0 0, .slice none 0 0] 58 (0, 0)) (by (with_reducible repeat first | apply bkN | apply bkD | apply bkA); exact BK223.out) hb)
    have n3_ := Asd.mk (bkB (g := gb230) (o := .cells #[.int .i64 0, .slice none 0 0, .slice none 0 0] 58 (0, 0)) (by (with_reducible repeat first | apply bkN | apply bkD | apply bkA); exact BK230.out) hb)
    have n4_ := Asd.mk (bwP (by repeat (with_reducible first | exact HB.out | apply bwA | apply bwN | apply bwD | refine bwS ?_ GE222.out | refine bwS ?_ GE223.out | refine bwS ?_ GE230.out)) hb)
    clear BK222
    clear BK223
    clear BK230
    clear HB
    have HO226 := n0_
    have BK222 := n1_
    have BK223 := n2_
    have BK230 := n3_
    have HB := n4_
    clear n0_ n1_ n2_ n3_ n4_
    clear hb ho8
    refine hK.out _ _ ⟨(bkC BK222.out 0).trans rfl, (bkC BK222.out 1).trans rfl, (bkC BK222.out 2).trans rfl⟩ (fun hHeld => ?_)
    clear hK K
    refine norm_ (a' := ?_) ?_ ?_
    rotate_left
    ·show Act.put _ (some 7) _ = _
     simp only [Act.put, List.setIfInBounds_toArray, List.set_cons_zero, List.set_cons_succ, i64_w, i32_w]
     rfl
    refine one_ (i := 5) (N := some 10) #[true, true, true, true, true, true, false, true, false] rfl rfl (one_of HT_.out (by kernel_rfl)) (by decide) (fun K hK => ?_)
    refine Kd.R_append_rows_step (Kd.int .i64) (w0 := w) w.heap.size (by rfl) (.tmp 7) (.tmp 9) 55 3 (.int .i64 0) 8 rfl Try.underlying55 info3 rfl (by decide) (by omega) v225 y224 l0_1 _ _ _ (fun _ => True) (fun _ => False) rfl rfl ?aO ?aR (fun _ _ h => h) (fun _ h => h.elim) ?aF ?aB ?aS ?aL ?_
    (case aR => repeat (first | exact (Kd.C_below HR0_1.out HB.out) | (with_reducible refine Kd.C_alloc ?_ _) | (with_reducible refine Kd.C_drewN ?_ _) | (with_reducible refine Kd.C_drew ?_)))
    (case aB => exact (by repeat (with_reducible first | exact HB.out | apply bwA | apply bwN | apply bwD | refine bwS ?_ GE222.out | refine bwS ?_ GE223.out | refine bwS ?_ GE230.out)))
    (case aF => exact (fun _ _ => trivial))
    (case aO => exact (by (with_reducible repeat (first | apply Kd.R_alloc | apply Kd.R_drewN | apply Kd.R_drew)); exact HO226.out))
    (case aS => exact (below_size (by repeat (with_reducible first | exact HB.out | apply bwA | apply bwN | apply bwD | refine bwS ?_ GE222.out | refine bwS ?_ GE223.out | refine bwS ?_ GE230.out))))
    (case aL => have := LMc2.out; omega)
    intro v228 w9 ho hb hg hat
    rw [← Ny227.out] at ho
    have n0_ := Asd.mk (blk_grown (g := gb222) (o := .cells #[.int .i64 a0_0, .slice A0_1 l0_1.length c0_1, .slice A0_2 l0_2.length c0_2] 58 (0, 0)) (by (with_reducible repeat first | apply bkN | apply bkD | apply bkA); exact BK222.out) hg (Kd.R_ne HO226.out BK222.out (by decide)))
    have n1_ := Asd.mk (blk_grown (g := gb223) (o := .cells #[.int .i64 0, .slice none 0 0, .slice none 0 0] 58 (0, 0)) (by (with_reducible repeat first | apply bkN | apply bkD | apply bkA); exact BK223.out) hg (Kd.R_ne HO226.out BK223.out (by decide)))
    have n2_ := Asd.mk (blk_grown (g := gb230) (o := .cells #[.int .i64 0, .slice none 0 0, .slice none 0 0] 58 (0, 0)) (by (with_reducible repeat first | apply bkN | apply bkD | apply bkA); exact BK230.out) hg (Kd.R_ne HO226.out BK230.out (by decide)))
    have n3_ := Asd.mk (hb)
    have n4_ := Asd.mk (ho)
    clear BK222
    clear BK223
    clear BK230
    clear HB
    clear HO226
    have BK222 := n0_
    have BK223 := n1_
    have BK230 := n2_
    have HB := n3_
    have HO229 := n4_
    clear n0_ n1_ n2_ n3_ n4_
    clear ho hb hg hat
    obtain ⟨Ao10, co10, eo10⟩ := Kd.R_slice HO229.out
    (first | subst eo10 | (injection eo10 with f1_ f2_ f3_; have f4_ := f1_.symm; have f5_ := f3_.symm; clear f1_ f2_ f3_; subst f4_; subst f5_))
    refine hK.out _ _ ⟨(bkC BK222.out 0).trans rfl, (bkC BK222.out 1).trans rfl, (bkC BK222.out 2).trans rfl⟩ (fun hHeld => ?_)
    clear hK K
    refine norm_ (a' := ?_) ?_ ?_
    rotate_left
    ·show Act.put _ (some 10) _ = _
     simp only [Act.put, List.setIfInBounds_toArray, List.set_cons_zero, List.set_cons_succ, i64_w, i32_w]
     rfl
    refine pure_ (i := 6) (N := some 11) (v := ?_) (a' := ?_) #[true, true, true, true, true, true, true, true, false] rfl rfl (any_of HT_.out (by kernel_rfl)) (fun _ _ _ h => h) (Or.inl ⟨by rfl, ?_⟩) ?_ ?_
    rotate_left
    ·intro w'
     go_simp
     with_reducible rfl
    rotate_left
    ·simp only [Act.put, List.setIfInBounds_toArray, List.set_cons_zero, List.set_cons_succ, i64_w, i32_w]
     rfl
    exact norm_ (by simp only [putAll, Act.put, List.setIfInBounds_toArray, List.set_cons_zero, List.set_cons_succ]) (hCont (v225, .slice Ao10 y227.length co10, gb230) _ ⟨hHeld, (by (with_reducible repeat (first | apply Kd.R_alloc | apply Kd.R_drewN | apply Kd.R_drew)); exact HO229.out), (by (with_reducible repeat first | apply bkN | apply bkD | apply bkA); exact BK222.out), (by (with_reducible repeat first | apply bkN | apply bkD | apply bkA); exact BK223.out), (by (with_reducible repeat first | apply bkN | apply bkD | apply bkA); exact BK230.out), GW230.out, GE230.out, NB222_230.out, NB230_222.out, NB223_230.out, NB230_223.out, (by repeat (with_reducible first | exact HB.out | apply bwA | apply bwN | apply bwD | refine bwS ?_ GE222.out | refine bwS ?_ GE223.out | refine bwS ?_ GE230.out))⟩)
  rintro ⟨v225, v228, gb230⟩ w11 ⟨hS_, h0_, h1_, h2_, h3_, h4_, h5_, h6_, h7_, h8_, h9_, h10_⟩
  have n0_ : Asd (Kd.R (Kd.int .i64) 3 w11 w.heap.size (fun _ => True) v228 y227) := ⟨h0_⟩
  have n1_ : Asd (w11.heap[gb222]? = some (.cells #[.int .i64 a0_0, .slice A0_1 l0_1.length c0_1, .slice A0_2 l0_2.length c0_2] 58 (0, 0))) := ⟨h1_⟩
  have n2_ : Asd (w11.heap[gb223]? = some (.cells #[.int .i64 0, .slice none 0 0, .slice none 0 0] 58 (0, 0))) := ⟨h2_⟩
  have n3_ : Asd (w11.heap[gb230]? = some (.cells #[.int .i64 0, .slice none 0 0, .slice none 0 0] 58 (0, 0))) := ⟨h3_⟩
  have n4_ : Asd (w.heap.size ≤ gb230) := ⟨h4_⟩
  have n5_ : Asd (w.heap.size ≤ gb230) := ⟨h5_⟩
  have n6_ : Asd (gb222 ≠ gb230) := ⟨h6_⟩
  have n7_ : Asd (gb230 ≠ gb222) := ⟨h7_⟩
  have n8_ : Asd (gb223 ≠ gb230) := ⟨h8_⟩
  have n9_ : Asd (gb230 ≠ gb223) := ⟨h9_⟩
  have n10_ : Asd (Below w.heap.size w w11) := ⟨h10_⟩
  clear BK222
  clear BK223
  clear HB
  clear h0_ h1_ h2_ h3_ h4_ h5_ h6_ h7_ h8_ h9_ h10_
  have HO229 := n0_
  have BK222 := n1_
  have BK223 := n2_
  have BK230 := n3_
  have GW230 := n4_
  have GE230 := n5_
  have NB222_230 := n6_
  have NB230_222 := n7_
  have NB223_230 := n8_
  have NB230_223 := n9_
  have HB := n10_
  clear n0_ n1_ n2_ n3_ n4_ n5_ n6_ n7_ n8_ n9_ n10_
  have hHeld : w11.cell? ⟨gb222, 0, none⟩ = some (.int .i64 a0_0) ∧ w11.cell? ⟨gb222, 1, none⟩ = some (.slice A0_1 l0_1.length c0_1) ∧ w11.cell? ⟨gb222, 2, none⟩ = some (.slice A0_2 l0_2.length c0_2) := hS_
  obtain ⟨Ao12, co12, eo12⟩ := Kd.R_slice HO229.out
  (first | subst eo12 | (injection eo12 with f1_ f2_ f3_; have f4_ := f1_.symm; have f5_ := f3_.symm; clear f1_ f2_ f3_; subst f4_; subst f5_))
  refine norm_ (a' := ?_) ?_ ?_
  rotate_left
  ·simp only [putAll, Act.put, List.setIfInBounds_toArray, List.set_cons_zero, List.set_cons_succ]
   rfl
  refine one_ (i := 8) (N := none) #[true, true, true, true, true, true, true, true, true] rfl rfl (one_of HT_.out (by kernel_rfl)) (by decide) (fun K hK => ?_)
  have hs13 : w11.cell? ⟨gb230, 0, none⟩ = some (.int .i64 0) := (bkC BK230.out 0).trans rfl
  have hfs13 := bkF BK230.out 0
  have hns13_0 := NB222_230.out
  have hns13_1 := NB223_230.out
  have hms13_0 := NB230_222.out
  have hms13_1 := NB230_223.out
  have hs14 : w11.cell? ⟨gb230, 1, none⟩ = some (.slice none 0 0) := (bkC BK230.out 1).trans rfl
  have hfs14 := bkF BK230.out 1
  have hns14_0 := NB222_230.out
  have hns14_1 := NB223_230.out
  have hms14_0 := NB230_222.out
  have hms14_1 := NB230_223.out
  have hs15 : w11.cell? ⟨gb230, 2, none⟩ = some (.slice none 0 0) := (bkC BK230.out 2).trans rfl
  have hfs15 := bkF BK230.out 2
  have hns15_0 := NB222_230.out
  have hns15_1 := NB223_230.out
  have hms15_0 := NB230_222.out
  have hms15_1 := NB230_223.out
  refine skip_ (w1 := ?_) (by rfl) rfl ?_ ?_
  rotate_left
  ·go_simp
   rfl
  refine hK.out _ _ ⟨((cell_far (p := ⟨gb230, _, none⟩) NB222_230.out _).trans (((cell_far (p := ⟨gb230, _, none⟩) NB222_230.out _).trans (((cell_far (p := ⟨gb230, _, none⟩) NB222_230.out _).trans (hHeld.1)))))), ((cell_far (p := ⟨gb230, _, none⟩) NB222_230.out _).trans (((cell_far (p := ⟨gb230, _, none⟩) NB222_230.out _).trans (((cell_far (p := ⟨gb230, _, none⟩) NB222_230.out _).trans (hHeld.2.1)))))), ((cell_far (p := ⟨gb230, _, none⟩) NB222_230.out _).trans (((cell_far (p := ⟨gb230, _, none⟩) NB222_230.out _).trans (((cell_far (p := ⟨gb230, _, none⟩) NB222_230.out _).trans (hHeld.2.2))))))⟩ (fun hHeld => ?_)
  clear hK K
  refine done_ (done_of HT_.out (by kernel_rfl)) ?_
  try go_wp2
  go_loopg [4] k (fun kq v4 w' => ∃ (x4_1 : Int) (x231002_1 : List (List Int)) (u231002 : Value), v4 = .int .i64 x4_1 ∧ Asd (spec_l10Copy.l0 kq x4_1 a0_0 l0_1 l0_2 a0_0 y227 x231002_1 = some (r1, r2, r3)) ∧ Asd (kq ≤ k) ∧ Asd (Kd.R (Kd.int .i64) 3 w' w.heap.size (fun _ => True) (.slice Ao12 y227.length co12) y227) ∧ Asd (Kd.S (Kd.slice 3 (Kd.int .i64)) 55 w' w.heap.size (fun k_ => some k_ ≠ ((.slice Ao12 y227.length co12) : Value).ownBlock) u231002 x231002_1) ∧ Asd (w'.heap[gb222]? = some (.cells #[.int .i64 a0_0, (.slice A0_1 l0_1.length c0_1), (.slice A0_2 l0_2.length c0_2)] 58 (0, 0))) ∧ Asd (w'.heap[gb223]? = some (.cells #[.int .i64 0, (.slice none 0 0), (.slice none 0 0)] 58 (0, 0))) ∧ Asd (w'.heap[gb230]? = some (.cells #[.int .i64 a0_0, (.slice Ao12 y227.length co12), u231002] 58 (0, 0))) ∧ Asd (Below w.heap.size w w'))
  case atStart => exact ⟨(0), (([] : List (List Int))), (.slice none 0 0), (by first | rfl | (simp; done) | (simp [*]; done)), H', ⟨Nat.le_refl _⟩, ⟨by (with_reducible repeat (first | apply Kd.R_alloc | apply Kd.R_drewN | apply Kd.R_drew)); exact Kd.R_mono (Kd.R_far (p := ⟨gb230, 2, none⟩) (Kd.R_far (p := ⟨gb230, 1, none⟩) (Kd.R_far (p := ⟨gb230, 0, none⟩) (Kd.R_types HO229.out BK230.out (by decide)) (fun _ hk => hk.2) (.int .i64 a0_0)) (fun _ hk => hk.2) (.slice Ao12 y227.length co12)) (fun _ hk => hk.2) (.slice none 0 0)) (fun _ hk => trivial)⟩, ⟨by first | exact Kd.S_nil _ _ _ _ _ | exact Kd.N_nil _ _ _ _ _ | exact Kd.V_nil _ _ _ _ _ | exact Kd.Q_nil _ _ _ _ _ | exact Kd.R_nil _ _ _ _ _⟩, ⟨by (with_reducible repeat first | apply bkN | apply bkD | apply bkA); refine bkR ?_ NB222_230.out _; (with_reducible repeat first | apply bkN | apply bkD | apply bkA); refine bkR ?_ NB222_230.out _; (with_reducible repeat first | apply bkN | apply bkD | apply bkA); refine bkR ?_ NB222_230.out _; (with_reducible repeat first | apply bkN | apply bkD | apply bkA); exact BK222.out⟩, ⟨by (with_reducible repeat first | apply bkN | apply bkD | apply bkA); refine bkR ?_ NB223_230.out _; (with_reducible repeat first | apply bkN | apply bkD | apply bkA); refine bkR ?_ NB223_230.out _; (with_reducible repeat first | apply bkN | apply bkD | apply bkA); refine bkR ?_ NB223_230.out _; (with_reducible repeat first | apply bkN | apply bkD | apply bkA); exact BK223.out⟩, ⟨by (with_reducible repeat first | apply bkN | apply bkD | apply bkA); refine bkP (cs := #[.int .i64 a0_0, .slice Ao12 y227.length co12, .slice none 0 0]) ?_ 2 _ rfl; (with_reducible repeat first | apply bkN | apply bkD | apply bkA); refine bkP (cs := #[.int .i64 a0_0, .slice none 0 0, .slice none 0 0]) ?_ 1 _ rfl; (with_reducible repeat first | apply bkN | apply bkD | apply bkA); refine bkP (cs := #[.int .i64 0, .slice none 0 0, .slice none 0 0]) ?_ 0 _ rfl; (with_reducible repeat first | apply bkN | apply bkD | apply bkA); exact BK230.out⟩, ⟨by repeat (with_reducible first | exact HB.out | apply bwA | apply bwN | apply bwD | refine bwS ?_ GE222.out | refine bwS ?_ GE223.out | refine bwS ?_ GE230.out)⟩⟩
  case round =>
   clear H'
   obtain ⟨x4_1, x231002_1, u231002, rfl, HA, HK1, HO_231001, HO_231002, BK222, BK223, BK230, HB⟩ := hrel
   cases gk with
   | zero => exact absurd HA.out (by simp [spec_l10Copy.l0])
   | succ k1 =>
    have H := HA.out
    clear HA
    simp only [spec_l10Copy.l0] at H
    by_cases c16 : x4_1 < (l0_2.length : Int)
    ·rw [if_pos c16] at H
     have c16b0 : decide (x4_1 < (l0_2.length : Int)) = true := decide_eq_true c16
     clear c16
     obtain ⟨y231, hy231⟩ : ∃ y_ : List Int, y_ = (([] : List Int)) := ⟨_, rfl⟩
     replace H : (if 0 ≤ x4_1 then (if y231.length + (rd_L4 l0_2 x4_1).length < 17592186044416 then (if x231002_1.length < 5864062014805 then (spec_l10Copy.l0 k1 (wrap64 (x4_1 + 1)) a0_0 l0_1 l0_2 a0_0 y227 (x231002_1 ++ [(y231 ++ (rd_L4 l0_2 x4_1))])) else (none)) else (none)) else (none)) = some (r1, r2, r3) := by first | (rw [hy231]; with_reducible exact H) | (have H2_ := (Option.bind_some _ _).symm.trans H; rw [hy231]; with_reducible exact H2_) | (have H2_ := (Option.bind_some _ _).symm.trans H; with_reducible exact H2_) | with_reducible exact H | (rw [hy231]; exact H) | exact H
     have Ny231 := Asd.mk hy231
     clear hy231
     by_cases c17 : 0 ≤ x4_1
     ·rw [if_pos c17] at H
      have c17b0 : decide (0 ≤ x4_1) = true := decide_eq_true c17
      clear c17
      by_cases c18 : y231.length + (rd_L4 l0_2 x4_1).length < 17592186044416
      ·rw [if_pos c18] at H
       have LMc18 := Asd.mk c18
       clear c18
       obtain ⟨y235, hy235⟩ : ∃ y_ : List Int, y_ = (y231 ++ (rd_L4 l0_2 x4_1)) := ⟨_, rfl⟩
       replace H : (if x231002_1.length < 5864062014805 then (spec_l10Copy.l0 k1 (wrap64 (x4_1 + 1)) a0_0 l0_1 l0_2 a0_0 y227 (x231002_1 ++ [y235])) else (none)) = some (r1, r2, r3) := by first | (rw [hy235]; with_reducible exact H) | (have H2_ := (Option.bind_some _ _).symm.trans H; rw [hy235]; with_reducible exact H2_) | (have H2_ := (Option.bind_some _ _).symm.trans H; with_reducible exact H2_) | with_reducible exact H | (rw [hy235]; exact H) | exact H
       have Ny235 := Asd.mk hy235
       clear hy235
       by_cases c19 : x231002_1.length < 5864062014805
       ·rw [if_pos c19] at H
        have LMc19 := Asd.mk c19
        clear c19
        obtain ⟨y238, hy238⟩ : ∃ y_ : List (List Int), y_ = (x231002_1 ++ [y235]) := ⟨_, rfl⟩
        replace H : (spec_l10Copy.l0 k1 (wrap64 (x4_1 + 1)) a0_0 l0_1 l0_2 a0_0 y227 y238) = some (r1, r2, r3) := by first | (rw [hy238]; with_reducible exact H) | (have H2_ := (Option.bind_some _ _).symm.trans H; rw [hy238]; with_reducible exact H2_) | (have H2_ := (Option.bind_some _ _).symm.trans H; with_reducible exact H2_) | with_reducible exact H | (rw [hy238]; exact H) | exact H
        have Ny238 := Asd.mk hy238
        clear hy238
        have H' := Asd.mk H
        clear H
        have hnb20 := NB222_223.out
        have hnc20 := NB223_222.out
        have hnb21 := NB222_230.out
        have hnc21 := NB230_222.out
        have hcz22_0 : wr.cell? ⟨gb222, 0, none⟩ = some (.int .i64 a0_0) := (bkC BK222.out 0).trans rfl
        have hcz22_1 : wr.cell? ⟨gb222, 1, none⟩ = some (.slice A0_1 l0_1.length c0_1) := (bkC BK222.out 1).trans rfl
        have hcz22_2 : wr.cell? ⟨gb222, 2, none⟩ = some (.slice A0_2 l0_2.length c0_2) := (bkC BK222.out 2).trans rfl
        have hfz22_0 := bkF BK222.out 0
        have hfz22_1 := bkF BK222.out 1
        have hfz22_2 := bkF BK222.out 2
        try go_wp2
        have n0_ := Asd.mk (Kd.R_drew HO_231001.out)
        have n1_ := Asd.mk (Kd.S_drew HO_231002.out)
        have n2_ := Asd.mk (bkD BK222.out)
        have n3_ := Asd.mk (bkD BK223.out)
        have n4_ := Asd.mk (bkD BK230.out)
        have n5_ := Asd.mk (bwD HB.out)
        clear HO_231001
        clear HO_231002
        clear BK222
        clear BK223
        clear BK230
        clear HB
        have HO_231001 := n0_
        have HO_231002 := n1_
        have BK222 := n2_
        have BK223 := n3_
        have BK230 := n4_
        have HB := n5_
        clear n0_ n1_ n2_ n3_ n4_ n5_
        have p234 : 0 ≤ (x4_1 : Int) := odt
        have q234 : x4_1 < (l0_2.length : Int) := odt
        obtain ⟨ad234, A234_0, c234_0, e234, hx234_0, hl234_0, hi234_0⟩ := at_L4 HR0_2.out x4_1 p234 q234
        have hw234_0 := hx234_0
        cases e234
        replace hx234_0 := (HB.out.cell (World.block_lt_of_cell? w _ hx234_0)).trans hx234_0
        have HR234_0 := Asd.mk hi234_0
        have HC234_0 := Asd.mk hl234_0
        clear hi234_0 hl234_0
        replace p234 := eq_true p234
        replace q234 := eq_true q234
        refine start_ (n := 13) (S := fun w' => w'.cell? ⟨gb230, 0, none⟩ = some (.int .i64 a0_0) ∧ w'.cell? ⟨gb230, 1, none⟩ = some (.slice Ao12 y227.length co12) ∧ w'.cell? ⟨gb230, 2, none⟩ = some (u231002) ∧ w'.cell? ⟨gb222, 0, none⟩ = some (.int .i64 a0_0) ∧ w'.cell? ⟨gb222, 1, none⟩ = some (.slice A0_1 l0_1.length c0_1) ∧ w'.cell? ⟨gb222, 2, none⟩ = some (.slice (some ad234) l0_2.length c0_2) ∧ w'.cell? (ad234.add (x4_1).toNat) = some (.slice A234_0 (rd_L4 l0_2 x4_1).length c234_0)) (ds := [12]) #[false, false, false, false, false, false, false, false, false, false, false, false, false] (by kernel_rfl) rfl rfl ⟨(bkC BK230.out 0).trans rfl, (bkC BK230.out 1).trans rfl, (bkC BK230.out 2).trans rfl, (bkC BK222.out 0).trans rfl, (bkC BK222.out 1).trans rfl, (bkC BK222.out 2).trans rfl, ((HB.out.cell (World.block_lt_of_cell? w _ hw234_0)).trans hw234_0)⟩ (fun hHeld => ?_); refine with_tabW spec_l10Copy.tab5 spec_l10Copy.bits5 (fun HT_ HW_ => ?_)
        generalize wr.drew = w23 at HO_231001 HO_231002 BK222 BK223 BK230 HB HR234_0 hx234_0 hHeld ⊢
        refine pure_ (i := 0) (N := some 19) (v := ?_) (a' := ?_) #[true, false, false, false, false, false, false, false, false, false, false, false, false] rfl rfl (any_of HT_.out (by kernel_rfl)) (fun _ _ _ h => h) (Or.inl ⟨by rfl, ?_⟩) ?_ ?_
        rotate_left
        ·intro w'
         go_simp
         with_reducible rfl
        rotate_left
        ·simp only [Act.put, List.setIfInBounds_toArray, List.set_cons_zero, List.set_cons_succ, i64_w, i32_w]
         rfl
        refine pure_ (i := 3) (N := some 22) (v := ?_) (a' := ?_) #[true, false, false, true, false, false, false, false, false, false, false, false, false] rfl rfl (any_of HT_.out (by kernel_rfl)) (fun _ _ _ h => h) (Or.inl ⟨by rfl, ?_⟩) ?_ ?_
        rotate_left
        ·intro w'
         go_simp
         with_reducible rfl
        rotate_left
        ·simp only [Act.put, List.setIfInBounds_toArray, List.set_cons_zero, List.set_cons_succ, i64_w, i32_w]
         rfl
        refine pure_ (i := 5) (N := some 24) (v := ?_) (a' := ?_) #[true, false, false, true, false, true, false, false, false, false, false, false, false] rfl rfl (any_of HT_.out (by kernel_rfl)) (fun _ _ _ h => h) (Or.inl ⟨by rfl, ?_⟩) ?_ ?_
        rotate_left
        ·intro w'
         go_simp
         with_reducible rfl
        rotate_left
        ·simp only [Act.put, List.setIfInBounds_toArray, List.set_cons_zero, List.set_cons_succ, i64_w, i32_w]
         rfl
        refine take_ (i := 1) (N := some 20) (v := ?_) (a' := ?_) #[true, true, false, true, false, true, false, false, false, false, false, false, false] rfl rfl (take_ofW HT_.out HW_.out (by kernel_rfl)) (fun _ _ _ h => h) (Or.inl ⟨by rfl, ?_⟩) hHeld ?_ ?_
        rotate_left
        ·rintro w' ⟨s0, s1, s2, s3, s4, s5, s6⟩
         go_simp
         with_reducible rfl
        rotate_left
        ·simp only [Act.put, List.setIfInBounds_toArray, List.set_cons_zero, List.set_cons_succ, i64_w, i32_w]
         rfl
        refine take_ (i := 4) (N := some 23) (v := ?_) (a' := ?_) #[true, true, false, true, true, true, false, false, false, false, false, false, false] rfl rfl (take_ofW HT_.out HW_.out (by kernel_rfl)) (fun _ _ _ h => h) (Or.inl ⟨by rfl, ?_⟩) hHeld ?_ ?_
        rotate_left
        ·rintro w' ⟨s0, s1, s2, s3, s4, s5, s6⟩
         go_simp
         with_reducible rfl
        rotate_left
        ·simp only [Act.put, List.setIfInBounds_toArray, List.set_cons_zero, List.set_cons_succ, i64_w, i32_w]
         rfl
        refine pure_ (i := 6) (N := some 25) (v := ?_) (a' := ?_) #[true, true, false, true, true, true, true, false, false, false, false, false, false] rfl rfl (any_of HT_.out (by kernel_rfl)) (fun _ _ _ h => h) (Or.inl ⟨by rfl, ?_⟩) ?_ ?_
        rotate_left
        ·intro w'
         go_simp
         with_reducible rfl
        rotate_left
        ·simp only [Act.put, List.setIfInBounds_toArray, List.set_cons_zero, List.set_cons_succ, i64_w, i32_w]
         rfl
        refine take_ (i := 7) (N := some 26) (v := ?_) (a' := ?_) #[true, true, false, true, true, true, true, true, false, false, false, false, false] rfl rfl (take_ofW HT_.out HW_.out (by kernel_rfl)) (fun _ _ _ h => h) (Or.inl ⟨by rfl, ?_⟩) hHeld ?_ ?_
        rotate_left
        ·rintro w' ⟨s0, s1, s2, s3, s4, s5, s6⟩
         go_simp
         with_reducible rfl
        rotate_left
        ·simp only [Act.put, List.setIfInBounds_toArray, List.set_cons_zero, List.set_cons_succ, i64_w, i32_w]
         rfl
        refine one_ (i := 2) (N := some 21) #[true, true, true, true, true, true, true, true, false, false, false, false, false] rfl rfl (one_of HT_.out (by kernel_rfl)) (by decide) (fun K hK => ?_)
        refine Kd.R_lit_step (Kd.int .i64) _ 3 ?hg (N := 21) ?hd (xs := ([] : List Int)) (inner := []) (ok := fun _ => True) (okp := fun _ => True) ?hr ?hp (fun _ hk => hk) trivial (Below.refl _ _) (Nat.le_refl _) (by simp) ?_; (case hd => rfl); (case hg => rfl); (case hr => first | (go_simp; done) | (go_simp; rfl)); (case hp => exact (Reps.none _ _))
        intro v232 w24 ho25 hb hg_ hnew_
        clear hg_ hnew_
        (first | rw [← Ny231.out] at ho25 | (simp only [Int.reduceToNat] at ho25; rw [← Ny231.out] at ho25))
        have n0_ := Asd.mk (Kd.R_elder' (by (with_reducible repeat (first | apply Kd.R_alloc | apply Kd.R_drewN | apply Kd.R_drew)); exact HO_231001.out) (Kd.R_base ho25) hb)
        have n1_ := Asd.mk (Kd.S_elder' (by (with_reducible repeat (first | apply Kd.S_alloc | apply Kd.S_drewN | apply Kd.S_drew)); exact HO_231002.out) (Kd.R_base ho25) hb)
        have n2_ := Asd.mk (Kd.R_lower (Kd.R_new' ho25 (Kd.R_lt (by (with_reducible repeat (first | apply Kd.R_alloc | apply Kd.R_drewN | apply Kd.R_drew)); exact HO_231001.out))) (below_size (by repeat (with_reducible first | exact HB.out | apply bwA | apply bwN | apply bwD | refine bwS ?_ GE222.out | refine bwS ?_ GE223.out | refine bwS ?_ GE230.out))))
        have n3_ := Asd.mk (bkB (g := gb222) (o := .cells #[.int .i64 a0_0, .slice A0_1 l0_1.length c0_1, .slice (some ad234) l0_2.length c0_2] 58 (0, 0)) (by (with_reducible repeat first | apply bkN | apply bkD | apply bkA); exact BK222.out) hb)
        have n4_ := Asd.mk (bkB (g := gb223) (o := .cells #[.int .i64 0, .slice none 0 0, .slice none 0 0] 58 (0, 0)) (by (with_reducible repeat first | apply bkN | apply bkD | apply bkA); exact BK223.out) hb)
        have n5_ := Asd.mk (bkB (g := gb230) (o := .cells #[.int .i64 a0_0, .slice Ao12 y227.length co12, u231002] 58 (0, 0)) (by (with_reducible repeat first | apply bkN | apply bkD | apply bkA); exact BK230.out) hb)
        have n6_ := Asd.mk (bwP (by repeat (with_reducible first | exact HB.out | apply bwA | apply bwN | apply bwD | refine bwS ?_ GE222.out | refine bwS ?_ GE223.out | refine bwS ?_ GE230.out)) hb)
        clear HO_231001
        clear HO_231002
        clear BK222
        clear BK223
        clear BK230
        clear HB
        have HO_231001 := n0_
        have HO_231002 := n1_
        have HO233 := n2_
        have BK222 := n3_
        have BK223 := n4_
        have BK230 := n5_
        have HB := n6_
        clear n0_ n1_ n2_ n3_ n4_ n5_ n6_
        clear hb ho25
        refine hK.out _ _ ⟨(bkC BK230.out 0).trans rfl, (bkC BK230.out 1).trans rfl, (bkC BK230.out 2).trans rfl, (bkC BK222.out 0).trans rfl, (bkC BK222.out 1).trans rfl, (bkC BK222.out 2).trans rfl, ((HB.out.cell (World.block_lt_of_cell? w _ hw234_0)).trans hw234_0)⟩ (fun hHeld => ?_)
        clear hK K
        refine norm_ (a' := ?_) ?_ ?_
        rotate_left
        ·show Act.put _ (some 21) _ = _
         simp only [Act.put, List.setIfInBounds_toArray, List.set_cons_zero, List.set_cons_succ, i64_w, i32_w]
         rfl
        refine one_ (i := 8) (N := some 27) #[true, true, true, true, true, true, true, true, true, false, false, false, false] rfl rfl (one_of HT_.out (by kernel_rfl)) (by decide) (fun K hK => ?_)
        refine Kd.R_append_rows_step (Kd.int .i64) (w0 := w) w.heap.size (by rfl) (.tmp 21) (.tmp 26) 55 3 (.int .i64 0) 8 rfl Try.underlying55 info3 rfl (by decide) (by omega) v232 y231 (rd_L4 l0_2 x4_1) _ _ _ (fun k_ => some k_ ≠ (.slice Ao12 y227.length co12 : Value).ownBlock) (fun _ => False) rfl rfl ?aO ?aR (fun _ _ h => h) (fun _ h => h.elim) ?aF ?aB ?aS ?aL ?_
        (case aR => repeat (first | exact (Kd.C_below HR234_0.out HB.out) | (with_reducible refine Kd.C_alloc ?_ _) | (with_reducible refine Kd.C_drewN ?_ _) | (with_reducible refine Kd.C_drew ?_)))
        (case aB => exact (by repeat (with_reducible first | exact HB.out | apply bwA | apply bwN | apply bwD | refine bwS ?_ GE222.out | refine bwS ?_ GE223.out | refine bwS ?_ GE230.out)))
        (case aF => exact (fun k_ hk => Kd.fresh' (Kd.R_lt (by (with_reducible repeat (first | apply Kd.R_alloc | apply Kd.R_drewN | apply Kd.R_drew)); exact HO_231001.out)) k_ hk))
        (case aO => exact (by (with_reducible repeat (first | apply Kd.R_alloc | apply Kd.R_drewN | apply Kd.R_drew)); exact Kd.R_mono HO233.out (fun _ hk => hk.2)))
        (case aS => exact (below_size (by repeat (with_reducible first | exact HB.out | apply bwA | apply bwN | apply bwD | refine bwS ?_ GE222.out | refine bwS ?_ GE223.out | refine bwS ?_ GE230.out))))
        (case aL => have := LMc18.out; omega)
        intro v236 w26 ho hb hg hat
        rw [← Ny235.out] at ho
        have n0_ := Asd.mk (Kd.R_after (ok := (fun _ => True)) (by (with_reducible repeat (first | apply Kd.R_alloc | apply Kd.R_drewN | apply Kd.R_drew)); exact HO_231001.out) hg hat)
        have n1_ := Asd.mk (Kd.S_after (ok := (fun k_ => some k_ ≠ (.slice Ao12 y227.length co12 : Value).ownBlock)) (by (with_reducible repeat (first | apply Kd.S_alloc | apply Kd.S_drewN | apply Kd.S_drew)); exact HO_231002.out) hg hat)
        have n2_ := Asd.mk (blk_grown (g := gb222) (o := .cells #[.int .i64 a0_0, .slice A0_1 l0_1.length c0_1, .slice (some ad234) l0_2.length c0_2] 58 (0, 0)) (by (with_reducible repeat first | apply bkN | apply bkD | apply bkA); exact BK222.out) hg (Kd.R_ne HO233.out BK222.out (by decide)))
        have n3_ := Asd.mk (blk_grown (g := gb223) (o := .cells #[.int .i64 0, .slice none 0 0, .slice none 0 0] 58 (0, 0)) (by (with_reducible repeat first | apply bkN | apply bkD | apply bkA); exact BK223.out) hg (Kd.R_ne HO233.out BK223.out (by decide)))
        have n4_ := Asd.mk (blk_grown (g := gb230) (o := .cells #[.int .i64 a0_0, .slice Ao12 y227.length co12, u231002] 58 (0, 0)) (by (with_reducible repeat first | apply bkN | apply bkD | apply bkA); exact BK230.out) hg (Kd.R_ne HO233.out BK230.out (by decide)))
        have n5_ := Asd.mk (hb)
        have n6_ := Asd.mk (ho)
        clear HO_231001
        clear HO_231002
        clear BK222
        clear BK223
        clear BK230
        clear HB
        clear HO233
        have HO_231001 := n0_
        have HO_231002 := n1_
        have BK222 := n2_
        have BK223 := n3_
        have BK230 := n4_
        have HB := n5_
        have HO237 := n6_
        clear n0_ n1_ n2_ n3_ n4_ n5_ n6_
        clear ho hb hg hat
        obtain ⟨Ao28, co28, eo28⟩ := Kd.R_slice HO237.out
        (first | subst eo28 | (injection eo28 with f1_ f2_ f3_; have f4_ := f1_.symm; have f5_ := f3_.symm; clear f1_ f2_ f3_; subst f4_; subst f5_))
        refine hK.out _ _ ⟨(bkC BK230.out 0).trans rfl, (bkC BK230.out 1).trans rfl, (bkC BK230.out 2).trans rfl, (bkC BK222.out 0).trans rfl, (bkC BK222.out 1).trans rfl, (bkC BK222.out 2).trans rfl, ((HB.out.cell (World.block_lt_of_cell? w _ hw234_0)).trans hw234_0)⟩ (fun hHeld => ?_)
        clear hK K
        refine norm_ (a' := ?_) ?_ ?_
        rotate_left
        ·show Act.put _ (some 27) _ = _
         simp only [Act.put, List.setIfInBounds_toArray, List.set_cons_zero, List.set_cons_succ, i64_w, i32_w]
         rfl
        refine one_ (i := 9) (N := some 28) #[true, true, true, true, true, true, true, true, true, true, false, false, false] rfl rfl (one_of HT_.out (by kernel_rfl)) (by decide) (fun K hK => ?_)
        refine value_ (w1 := ?_) (v := ?_) (by rfl) rfl ?_ ?_
        rotate_left 2
        ·go_simp
         constructor
         ·rfl
         ·rfl
        refine hK.out _ _ ⟨(bkC (bkA BK230.out _) 0).trans rfl, (bkC (bkA BK230.out _) 1).trans rfl, (bkC (bkA BK230.out _) 2).trans rfl, (bkC (bkA BK222.out _) 0).trans rfl, (bkC (bkA BK222.out _) 1).trans rfl, (bkC (bkA BK222.out _) 2).trans rfl, (World.cell?_alloc_lt _ _ _ (World.block_lt_of_cell? _ _ (((HB.out.cell (World.block_lt_of_cell? w _ hw234_0)).trans hw234_0)))).trans (((HB.out.cell (World.block_lt_of_cell? w _ hw234_0)).trans hw234_0))⟩ (fun hHeld => ?_)
        clear hK K
        refine norm_ (a' := ?_) ?_ ?_
        rotate_left
        ·show Act.put _ (some 28) _ = _
         simp only [Act.put, List.setIfInBounds_toArray, List.set_cons_zero, List.set_cons_succ, i64_w, i32_w]
         rfl
        refine one_ (i := 10) (N := some 29) #[true, true, true, true, true, true, true, true, true, true, true, false, false] rfl rfl (one_of HT_.out (by kernel_rfl)) (by decide) (fun K hK => ?_)
        refine Kd.S_append_step (Kd.slice 3 (Kd.int .i64)) (w0 := w) w.heap.size (by rfl) (.tmp 20) (.tmp 28) 56 55 (.slice none 0 0) 24 rfl Try.underlying56 info55 rfl (by decide) (by omega) u231002 x231002_1 y235 [.slice Ao28 y235.length co28] (fun k_ => some k_ ≠ (.slice Ao12 y227.length co12 : Value).ownBlock) (fun k_ => some k_ = (.slice Ao28 y235.length co28 : Value).ownBlock) rfl rfl ?aP (fun k_ hk_ => ((Kd.R_mono (ok' := fun k_ => ((fun k_ => some k_ ≠ (.slice Ao12 y227.length co12 : Value).ownBlock)) k_ ∧ some k_ ≠ (u231002 : Value).ownBlock) (Kd.R_apart' (HO237.out) (Kd.S_typed HO_231002.out) (by decide)) (fun k_ hk => ⟨hk.1, hk.2⟩))).1 k_ hk_.symm) ?aF ?aO ?aB ?aS ?aL ?_
        (case aP => exact Kd.M_row (Kd.R_mono (Kd.R_tight rfl (Kd.R_mono (ok' := fun k_ => ((fun k_ => some k_ ≠ (.slice Ao12 y227.length co12 : Value).ownBlock)) k_ ∧ some k_ ≠ (u231002 : Value).ownBlock) (Kd.R_apart' (HO237.out) (Kd.S_typed HO_231002.out) (by decide)) (fun k_ hk => ⟨hk.1, hk.2⟩))) (fun _ h_ => h_)))
        (case aB => exact (by repeat (with_reducible first | exact HB.out | apply bwA | apply bwN | apply bwD | refine bwS ?_ GE222.out | refine bwS ?_ GE223.out | refine bwS ?_ GE230.out)))
        (case aF => exact (fun k_ hk => Kd.fresh' (Kd.R_lt (by (with_reducible repeat (first | apply Kd.R_alloc | apply Kd.R_drewN | apply Kd.R_drew)); exact HO_231001.out)) k_ hk))
        (case aO => exact (by (with_reducible repeat (first | apply Kd.S_alloc | apply Kd.S_drewN | apply Kd.S_drew)); exact Kd.S_mono HO_231002.out (fun k_ hk => ⟨hk.1, fun e_ => hk.2 e_⟩)))
        (case aS => exact (below_size (by repeat (with_reducible first | exact HB.out | apply bwA | apply bwN | apply bwD | refine bwS ?_ GE222.out | refine bwS ?_ GE223.out | refine bwS ?_ GE230.out))))
        (case aL => have := LMc19.out; omega)
        intro v239 w27 ho hb hg hat
        rw [← Ny238.out] at ho
        have n0_ := Asd.mk (Kd.R_over' (by (with_reducible repeat (first | apply Kd.R_alloc | apply Kd.R_drewN | apply Kd.R_drew)); exact HO_231001.out) (Kd.S_typed (by (with_reducible repeat (first | apply Kd.S_alloc | apply Kd.S_drewN | apply Kd.S_drew)); exact HO_231002.out)) (by decide) hg)
        have n1_ := Asd.mk (blk_grown (g := gb222) (o := .cells #[.int .i64 a0_0, .slice A0_1 l0_1.length c0_1, .slice (some ad234) l0_2.length c0_2] 58 (0, 0)) (by (with_reducible repeat first | apply bkN | apply bkD | apply bkA); exact BK222.out) hg (Kd.S_ne HO_231002.out BK222.out (by decide)))
        have n2_ := Asd.mk (blk_grown (g := gb223) (o := .cells #[.int .i64 0, .slice none 0 0, .slice none 0 0] 58 (0, 0)) (by (with_reducible repeat first | apply bkN | apply bkD | apply bkA); exact BK223.out) hg (Kd.S_ne HO_231002.out BK223.out (by decide)))
        have n3_ := Asd.mk (blk_grown (g := gb230) (o := .cells #[.int .i64 a0_0, .slice Ao12 y227.length co12, u231002] 58 (0, 0)) (by (with_reducible repeat first | apply bkN | apply bkD | apply bkA); exact BK230.out) hg (Kd.S_ne HO_231002.out BK230.out (by decide)))
        have n4_ := Asd.mk (hb)
        have n5_ := Asd.mk (ho)
        clear HO_231001
        clear BK222
        clear BK223
        clear BK230
        clear HB
        clear HO_231002
        clear HO237
        have HO_231001 := n0_
        have BK222 := n1_
        have BK223 := n2_
        have BK230 := n3_
        have HB := n4_
        have HO240 := n5_
        clear n0_ n1_ n2_ n3_ n4_ n5_
        clear ho hb hg hat
        obtain ⟨Ao29, co29, eo29⟩ := Kd.S_slice HO240.out
        (first | subst eo29 | (injection eo29 with f1_ f2_ f3_; have f4_ := f1_.symm; have f5_ := f3_.symm; clear f1_ f2_ f3_; subst f4_; subst f5_))
        refine hK.out _ _ ⟨(bkC BK230.out 0).trans rfl, (bkC BK230.out 1).trans rfl, (bkC BK230.out 2).trans rfl, (bkC BK222.out 0).trans rfl, (bkC BK222.out 1).trans rfl, (bkC BK222.out 2).trans rfl, ((HB.out.cell (World.block_lt_of_cell? w _ hw234_0)).trans hw234_0)⟩ (fun hHeld => ?_)
        clear hK K
        refine norm_ (a' := ?_) ?_ ?_
        rotate_left
        ·show Act.put _ (some 29) _ = _
         simp only [Act.put, List.setIfInBounds_toArray, List.set_cons_zero, List.set_cons_succ, i64_w, i32_w]
         rfl
        refine pure_ (i := 11) (N := some 30) (v := ?_) (a' := ?_) #[true, true, true, true, true, true, true, true, true, true, true, true, false] rfl rfl (any_of HT_.out (by kernel_rfl)) (fun _ _ _ h => h) (Or.inl ⟨by rfl, ?_⟩) ?_ ?_
        rotate_left
        ·intro w'
         go_simp
         with_reducible rfl
        rotate_left
        ·simp only [Act.put, List.setIfInBounds_toArray, List.set_cons_zero, List.set_cons_succ, i64_w, i32_w]
         rfl
        refine last_ (i := 12) (N := none) #[true, true, true, true, true, true, true, true, true, true, true, true, true] rfl rfl (one_of HT_.out (by kernel_rfl)) (by decide) (fun K hK => ?_)
        have hs30 : w27.cell? ⟨gb230, 2, none⟩ = some (u231002) := (bkC BK230.out 2).trans rfl
        have hfs30 := bkF BK230.out 2
        have hns30_0 := NB222_230.out
        have hns30_1 := NB223_230.out
        have hms30_0 := NB230_222.out
        have hms30_1 := NB230_223.out
        refine skip_ (w1 := ?_) (by rfl) rfl ?_ ?_
        rotate_left
        ·go_simp
         rfl
        refine hK.out _ _ ?_
        clear hK K
        refine done_ (done_of HT_.out (by kernel_rfl)) ?_
        try go_wp2
        go_roundg k1
        case measure => have := HK1.out; omega
        case rel => exact ⟨(wrap64 (x4_1 + 1)), (y238), (.slice Ao29 y238.length co29), (by first | rfl | (simp; done) | (simp [*]; done)), H', ⟨by have := HK1.out; omega⟩, ⟨by (with_reducible repeat (first | apply Kd.R_alloc | apply Kd.R_drewN | apply Kd.R_drew)); exact Kd.R_mono (Kd.R_far (p := ⟨gb230, 2, none⟩) (Kd.R_types HO_231001.out BK230.out (by decide)) (fun _ hk => hk.2) (.slice Ao29 y238.length co29)) (fun _ hk => trivial)⟩, ⟨by (with_reducible repeat (first | apply Kd.S_alloc | apply Kd.S_drewN | apply Kd.S_drew)); exact Kd.S_mono (Kd.S_far (p := ⟨gb230, 2, none⟩) (Kd.S_types HO240.out BK230.out (by decide)) (fun _ hk => hk.2) (.slice Ao29 y238.length co29)) (fun _ hk => hk.1)⟩, ⟨by (with_reducible repeat first | apply bkN | apply bkD | apply bkA); refine bkR ?_ NB222_230.out _; (with_reducible repeat first | apply bkN | apply bkD | apply bkA); exact BK222.out⟩, ⟨by (with_reducible repeat first | apply bkN | apply bkD | apply bkA); refine bkR ?_ NB223_230.out _; (with_reducible repeat first | apply bkN | apply bkD | apply bkA); exact BK223.out⟩, ⟨by (with_reducible repeat first | apply bkN | apply bkD | apply bkA); refine bkP (cs := #[.int .i64 a0_0, .slice Ao12 y227.length co12, u231002]) ?_ 2 _ rfl; (with_reducible repeat first | apply bkN | apply bkD | apply bkA); exact BK230.out⟩, ⟨by repeat (with_reducible first | exact HB.out | apply bwA | apply bwN | apply bwD | refine bwS ?_ GE222.out | refine bwS ?_ GE223.out | refine bwS ?_ GE230.out)⟩⟩
       ·rw [if_neg c19] at H
        exact absurd H (by simp)
      ·rw [if_neg c18] at H
       exact absurd H (by simp)
     ·rw [if_neg c17] at H
      exact absurd H (by simp)
    ·rw [if_neg c16] at H
     have c16b0 : decide (x4_1 < (l0_2.length : Int)) = false := decide_eq_false c16
     clear c16
     simp only [Option.some.injEq, Prod.mk.injEq] at H
     obtain ⟨rfl, rfl, rfl⟩ := H
     have hnb31 := NB222_223.out
     have hnc31 := NB223_222.out
     have hnb32 := NB222_230.out
     have hnc32 := NB230_222.out
     have hcz33_0 : wr.cell? ⟨gb222, 0, none⟩ = some (.int .i64 a0_0) := (bkC BK222.out 0).trans rfl
     have hcz33_1 : wr.cell? ⟨gb222, 1, none⟩ = some (.slice A0_1 l0_1.length c0_1) := (bkC BK222.out 1).trans rfl
     have hcz33_2 : wr.cell? ⟨gb222, 2, none⟩ = some (.slice A0_2 l0_2.length c0_2) := (bkC BK222.out 2).trans rfl
     have hfz33_0 := bkF BK222.out 0
     have hfz33_1 := bkF BK222.out 1
     have hfz33_2 := bkF BK222.out 2
     have hnb34 := NB230_223.out
     have hnc34 := NB223_230.out
     have hcz35_0 : wr.cell? ⟨gb230, 0, none⟩ = some (.int .i64 a0_0) := (bkC BK230.out 0).trans rfl
     have hcz35_1 : wr.cell? ⟨gb230, 1, none⟩ = some (.slice Ao12 y227.length co12) := (bkC BK230.out 1).trans rfl
     have hcz35_2 : wr.cell? ⟨gb230, 2, none⟩ = some (u231002) := (bkC BK230.out 2).trans rfl
     have hfz35_0 := bkF BK230.out 0
     have hfz35_1 := bkF BK230.out 1
     have hfz35_2 := bkF BK230.out 2
     have hcz36_0 : wr.cell? ⟨gb223, 0, none⟩ = some (.int .i64 0) := (bkC BK223.out 0).trans rfl
     have hcz36_1 : wr.cell? ⟨gb223, 1, none⟩ = some (.slice none 0 0) := (bkC BK223.out 1).trans rfl
     have hcz36_2 : wr.cell? ⟨gb223, 2, none⟩ = some (.slice none 0 0) := (bkC BK223.out 2).trans rfl
     have hfz36_0 := bkF BK223.out 0
     have hfz36_1 := bkF BK223.out 1
     have hfz36_2 := bkF BK223.out 2
     obtain ⟨Ao37, co37, eo37⟩ := Kd.S_slice HO_231002.out
     subst eo37
     go_wp2
     refine bodyPost_ret (results_cell_row rfl _ _ gb223 58 #[.int .i64 a0_0, .slice Ao12 y227.length co12, .slice Ao37 x231002_1.length co37] (0, 0) _ rfl (by (with_reducible repeat first | apply bkN | apply bkD | apply bkA); refine bkP (cs := #[.int .i64 a0_0, .slice Ao12 y227.length co12, .slice none 0 0]) ?_ 2 _ rfl; (with_reducible repeat first | apply bkN | apply bkD | apply bkA); refine bkP (cs := #[.int .i64 a0_0, .slice none 0 0, .slice none 0 0]) ?_ 1 _ rfl; (with_reducible repeat first | apply bkN | apply bkD | apply bkA); refine bkP (cs := #[.int .i64 0, .slice none 0 0, .slice none 0 0]) ?_ 0 _ rfl; (with_reducible repeat first | apply bkN | apply bkD | apply bkA); exact BK223.out) Try.underlying58 rfl (by kernel_rfl)) rfl ?_
     exact ⟨_, _, by first | rfl | (simp [errW_none, errW_some] <;> rfl) | (simp [*, errW_none, errW_some] <;> rfl), by (with_reducible repeat (first | apply Kd.R_alloc | apply Kd.R_drewN | apply Kd.R_drew)); exact Kd.R_mono (Kd.R_far (p := ⟨gb223, 2, none⟩) (Kd.R_far (p := ⟨gb223, 1, none⟩) (Kd.R_far (p := ⟨gb223, 0, none⟩) (Kd.R_types HO_231001.out BK223.out (by decide)) (fun _ hk => hk.2) (.int .i64 a0_0)) (fun _ hk => hk.2) (.slice Ao12 y227.length co12)) (fun _ hk => hk.2) (.slice Ao37 x231002_1.length co37)) (fun _ hk => trivial), by (with_reducible repeat (first | apply Kd.S_alloc | apply Kd.S_drewN | apply Kd.S_drew)); exact Kd.S_mono (Kd.S_far (p := ⟨gb223, 2, none⟩) (Kd.S_far (p := ⟨gb223, 1, none⟩) (Kd.S_far (p := ⟨gb223, 0, none⟩) (Kd.S_types HO_231002.out BK223.out (by decide)) (fun _ hk => hk.2) (.int .i64 a0_0)) (fun _ hk => hk.2) (.slice Ao12 y227.length co12)) (fun _ hk => hk.2) (.slice Ao37 x231002_1.length co37)) (fun _ hk => hk.1), by repeat (with_reducible first | exact HB.out | apply bwA | apply bwN | apply bwD | refine bwS ?_ GE222.out | refine bwS ?_ GE223.out | refine bwS ?_ GE230.out)⟩
 ·rw [if_neg c2] at H
  exact absurd H (by simp)

/-! ### spec_SetOk: function 132 -/
def spec_SetOk.f (a0 : Int) (a1 : Int) : Option (Bool) := (spec_l1In.f a0 1 3).bind fun t241 => (if t241 = true then ((spec_l1All.f a0).bind fun t242 => ((spec_l1In.f a1 0 t242).bind fun t243 => (some t243))) else (some false))
set_option maxHeartbeats 8000000 in
set_option maxRecDepth 100000 in
theorem spec_SetOk.calls (a0 : Int) (a1 : Int) (r : Bool) (w : World) (h : spec_SetOk.f a0 a1 = some r) :
  Calls Try.prog 132 #[.int .i64 a0, .int .i64 a1] w fun e w' => e = .returned (.bool r) ∧ Drawn0 w w' := by
 have H : ((spec_l1In.f a0 1 3).bind fun t241 => (if t241 = true then ((spec_l1All.f a0).bind fun t242 => ((spec_l1In.f a1 0 t242).bind fun t243 => (some t243))) else (some false))) = some r := h
 clear h
 replace H := Option.bind_eq_some_iff.mp H
 obtain ⟨t241, A30, H⟩ := H
 try dsimp only at H
 have A3 := Asd.mk A30
 clear A30
 by_cases c4 : t241 = true
 ·subst c4
  rw [if_pos rfl] at H
  replace H := Option.bind_eq_some_iff.mp H
  obtain ⟨t242, A50, H⟩ := H
  try dsimp only at H
  have A5 := Asd.mk A50
  clear A50
  replace H := Option.bind_eq_some_iff.mp H
  obtain ⟨t243, A60, H⟩ := H
  try dsimp only at H
  have A6 := Asd.mk A60
  clear A60
  obtain rfl := Option.some.inj H
  go_enter Try.func132, Try.ntmps132
  go_wp2_with (first | ((with_reducible refine gate_callee (f := 72) rfl ?_); refine gsM (some 6) rfl rfl Try.func72 (by kernel_rfl) rfl #[.int .i64 a0, .int .i64 1, .int .i64 3] rfl ?_; (with_reducible refine (spec_l1In.calls a0 1 3 true _ A3.out).mono ?_); rintro e w' ⟨rfl, ⟨nd, rfl⟩⟩; refine ⟨_, rfl, ?_⟩) | (go_at_call 140; (with_reducible refine (spec_l1All.calls a0 t242 _ A5.out).mono ?_); rintro e w' ⟨rfl, ⟨nd, rfl⟩⟩) | (go_at_call 72; (with_reducible refine (spec_l1In.calls a1 0 t242 t243 _ A6.out).mono ?_); rintro e w' ⟨rfl, ⟨nd, rfl⟩⟩))
  go_ret
  exact ⟨by first | rfl | (simp; done) | (simp [*]; done), by repeat (first | exact Drawn0.refl _ | apply Drawn0.step)⟩
 ·replace c4 := Bool.eq_false_iff.mpr c4
  subst c4
  rw [if_neg (show ¬ (false = true) by decide)] at H
  obtain rfl := Option.some.inj H
  go_enter Try.func132, Try.ntmps132
  go_wp2_with (first | ((with_reducible refine gate_callee (f := 72) rfl ?_); refine gsM (some 6) rfl rfl Try.func72 (by kernel_rfl) rfl #[.int .i64 a0, .int .i64 1, .int .i64 3] rfl ?_; (with_reducible refine (spec_l1In.calls a0 1 3 false _ A3.out).mono ?_); rintro e w' ⟨rfl, ⟨nd, rfl⟩⟩; refine ⟨_, rfl, ?_⟩))
  go_ret
  exact ⟨by first | rfl | (simp; done) | (simp [*]; done), by repeat (first | exact Drawn0.refl _ | apply Drawn0.step)⟩

end Go.Proofs.Ytihgpkohglcijaa.P
