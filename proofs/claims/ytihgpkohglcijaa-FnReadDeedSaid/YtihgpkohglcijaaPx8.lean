-- Written by a program of this session (wip/hook.py), which runs the kit's printer; Lean checks it.
import Derived.Test.YtihgpkohglcijaaPx0
import Derived.Test.YtihgpkohglcijaaPx2
import Derived.Test.YtihgpkohglcijaaPx6
namespace Go.Proofs.Ytihgpkohglcijaa.P
open Go.RowKit Go.Proofs.YtihgpkohglcijaaW.PrintWords Go.Proofs.YtihgpkohglcijaaW.PrintLast Go.Proofs.YtihgpkohglcijaaW.PrintMore
attribute [local go_sem] max2_int min2_int max_two min_two max_three min_three max_four min_four   -- for this text's walks alone
set_option linter.unusedVariables false
set_option linter.unusedSimpArgs false

/-! ### spec_l10Copy: function 107 -/
def spec_l10Copy.l0 : Nat → Int → Int → List Int → List (List Int) → Int → List Int → List (List Int) → Option (Int × List Int × (List (List Int)))
 | 0, _, _, _, _, _, _, _ => none
 | k + 1, x4, x236000, x236001, x236002, x244000, x244001, x244002 => if x4 < (x236002.length : Int) then ((some (([] : List Int) : List Int)).bind fun y244 => (if 0 ≤ x4 then (if y244.length + (rd_L5 x236002 x4).length < 17592186044416 then (if x244002.length < 5864062014805 then (spec_l10Copy.l0 k (wrap64 (x4 + 1)) x236000 x236001 x236002 x244000 x244001 (x244002 ++ [(y244 ++ (rd_L5 x236002 x4))])) else (none)) else (none)) else (none))) else (some (x244000, x244001, x244002))
def spec_l10Copy.f (k : Nat) (a0_0 : Int) (l0_1 : List Int) (l0_2 : List (List Int)) : Option (Int × List Int × (List (List Int))) := (some (([] : List Int) : List Int)).bind fun y237 => (if y237.length + l0_1.length < 17592186044416 then (spec_l10Copy.l0 k 0 a0_0 l0_1 l0_2 a0_0 (y237 ++ l0_1) ([] : List (List Int))) else (none))
theorem spec_l10Copy.mono_l : ∀ k, (∀ y0 y1 y2 y3 y4 y5 y6, LeO (spec_l10Copy.l0 k y0 y1 y2 y3 y4 y5 y6) (spec_l10Copy.l0 (k + 1) y0 y1 y2 y3 y4 y5 y6))
 | 0 => fun _ _ _ _ _ _ _ r h => by simp [spec_l10Copy.l0] at h
 | k + 1 => by
  have ih0 := spec_l10Copy.mono_l k
  ·intro y0 y1 y2 y3 y4 y5 y6
   unfold spec_l10Copy.l0
   repeat' first
   | (with_reducible exact ih0 _ _ _ _ _ _ _)
   | (with_reducible exact LeO.refl _)
   | (with_reducible exact LeO.none _)
   | (with_reducible refine LeO.ite ?_ ?_)
   | (with_reducible refine LeO.bind ?_ (fun _ => ?_))
   | refine LeO.ite ?_ ?_
   | refine LeO.bind ?_ (fun _ => ?_)
theorem spec_l10Copy.mono : ∀ a0 a1 a2 k, LeO (spec_l10Copy.f k a0 a1 a2) (spec_l10Copy.f (k + 1) a0 a1 a2) := by
 intro a0 a1 a2 k
 have ih0 := spec_l10Copy.mono_l k
 unfold spec_l10Copy.f
 repeat' first
   | (with_reducible exact ih0 _ _ _ _ _ _ _)
   | (with_reducible exact LeO.refl _)
   | (with_reducible exact LeO.none _)
   | (with_reducible refine LeO.ite ?_ ?_)
   | (with_reducible refine LeO.bind ?_ (fun _ => ?_))
   | refine LeO.ite ?_ ?_
   | refine LeO.bind ?_ (fun _ => ?_)
def spec_l10Copy.T1 : Bool × List (List Nat × List Nat) := (true, [([], []), ([0], [0]), ([], []), ([], []), ([3], [3]), ([2, 4], [2, 4]), ([1, 5], [1, 5]), ([], []), ([7, 6, 5, 0, 1, 2, 3, 4, 5, 6, 7], [6, 7])])
def spec_l10Copy.B1 : List Nat := [0, 1, 0, 0, 8, 28, 63, 0, 255]
theorem spec_l10Copy.tab1 : rtab .any (opsOf Try.f107 1) = spec_l10Copy.T1 := by kernel_rfl
theorem spec_l10Copy.bits1 : waitsOk spec_l10Copy.T1.2 spec_l10Copy.B1 = true := by kernel_rfl
def spec_l10Copy.T5 : Bool × List (List Nat × List Nat) := (true, [([], []), ([0], [0]), ([], []), ([], []), ([3], [3]), ([], []), ([4, 5], [4, 5]), ([6], [6]), ([2, 7], [2, 7]), ([8], [8]), ([1, 9, 8], [1, 9]), ([0, 1, 2, 3, 4, 5, 6, 7, 8, 9, 10], []), ([11, 10, 10, 0, 1, 2, 3, 4, 5, 6, 7, 8, 9, 10], [10, 11])])
def spec_l10Copy.B5 : List Nat := [0, 1, 0, 0, 8, 0, 56, 120, 252, 508, 1023, 2047, 4095]
theorem spec_l10Copy.tab5 : rtab .any (opsOf Try.f107 5) = spec_l10Copy.T5 := by kernel_rfl
theorem spec_l10Copy.bits5 : waitsOk spec_l10Copy.T5.2 spec_l10Copy.B5 = true := by kernel_rfl
set_option maxHeartbeats 8000000 in
set_option maxRecDepth 100000 in
theorem spec_l10Copy.calls (k : Nat) (a0_0 : Int) (A0_1 : Option Addr) (c0_1 : Nat) (l0_1 : List Int) (A0_2 : Option Addr) (c0_2 : Nat) (l0_2 : List (List Int)) (r1 : Int) (r2 : List Int) (r3 : List (List Int)) (w : World) (hr0_1 : Kd.C (Kd.int .i64) w A0_1 l0_1.length l0_1) (hc0_1 : l0_1.length ≤ c0_1) (hr0_2 : Kd.C (Kd.slice 3 (Kd.int .i64)) w A0_2 l0_2.length l0_2) (hc0_2 : l0_2.length ≤ c0_2) (h : spec_l10Copy.f k a0_0 l0_1 l0_2 = some (r1, r2, r3)) :
  Calls Try.prog 107 #[.agg #[.int .i64 a0_0, .slice A0_1 l0_1.length c0_1, .slice A0_2 l0_2.length c0_2]] w fun e w' => ∃ v1_ v2_ : Value, e = .returned (.agg #[.int .i64 r1, v1_, v2_]) ∧ Kd.R (Kd.int .i64) 3 w' w.heap.size (fun _ => True) v1_ r2 ∧ Kd.S (Kd.slice 3 (Kd.int .i64)) 55 w' w.heap.size (fun k_ => some k_ ≠ (v1_ : Value).ownBlock) v2_ r3 ∧ Below w.heap.size w w' := by
 have hu58 := Try.underlying58
 have HR0_1 := Asd.mk hr0_1
 have HC0_1 := Asd.mk hc0_1
 clear hr0_1 hc0_1
 have HR0_2 := Asd.mk hr0_2
 have HC0_2 := Asd.mk hc0_2
 clear hr0_2 hc0_2
 have HB := Asd.mk (Below.refl w.heap.size w)
 have H : ((some (([] : List Int) : List Int)).bind fun y237 => (if y237.length + l0_1.length < 17592186044416 then (spec_l10Copy.l0 k 0 a0_0 l0_1 l0_2 a0_0 (y237 ++ l0_1) ([] : List (List Int))) else (none))) = some (r1, r2, r3) := h
 clear h
 obtain ⟨y237, hy237⟩ : ∃ y_ : List Int, y_ = (([] : List Int)) := ⟨_, rfl⟩
 replace H : (if y237.length + l0_1.length < 17592186044416 then (spec_l10Copy.l0 k 0 a0_0 l0_1 l0_2 a0_0 (y237 ++ l0_1) ([] : List (List Int))) else (none)) = some (r1, r2, r3) := by first | (rw [hy237]; with_reducible exact H) | (have H2_ := (Option.bind_some _ _).symm.trans H; rw [hy237]; with_reducible exact H2_) | (have H2_ := (Option.bind_some _ _).symm.trans H; with_reducible exact H2_) | with_reducible exact H | (rw [hy237]; exact H) | exact H
 have Ny237 := Asd.mk hy237
 clear hy237
 by_cases c2 : y237.length + l0_1.length < 17592186044416; rotate_left; (rw [if_neg c2] at H; exact absurd H (by simp))
 rw [if_pos c2] at H
 have LMc2 := Asd.mk c2
 clear c2
 obtain ⟨y240, hy240⟩ : ∃ y_ : List Int, y_ = (y237 ++ l0_1) := ⟨_, rfl⟩
 replace H : (spec_l10Copy.l0 k 0 a0_0 l0_1 l0_2 a0_0 y240 ([] : List (List Int))) = some (r1, r2, r3) := by first | (rw [hy240]; with_reducible exact H) | (have H2_ := (Option.bind_some _ _).symm.trans H; rw [hy240]; with_reducible exact H2_) | (have H2_ := (Option.bind_some _ _).symm.trans H; with_reducible exact H2_) | with_reducible exact H | (rw [hy240]; exact H) | exact H
 have Ny240 := Asd.mk hy240
 clear hy240
 have H' := Asd.mk H
 clear H
 go_enter Try.func107, Try.ntmps107
 try go_wp2_with (first | ((with_reducible refine gate_dst (N := 1) rfl ?_); refine bxE ?hg (N := 1) ?hd (cs := #[.int .i64 a0_0, .slice A0_1 l0_1.length c0_1, .slice A0_2 l0_2.length c0_2]) (t := 58) ?hr ?_; (case hd => rfl); (case hg => rfl); (case hr => first | (go_simp; done) | (go_simp; rfl)); intro gb235 hg w3 hbox hb; have n0_ := Asd.mk (bwP (by repeat (with_reducible first | exact HB.out | apply bwX)) hb); have n1_ := Asd.mk (hbox); have n2_ := Asd.mk ((by rw [hg]; exact (below_size (by repeat (with_reducible first | exact HB.out | apply bwX))) : w.heap.size ≤ gb235)); have n3_ := Asd.mk ((by rw [hg]; exact (below_size (by repeat (with_reducible first | exact HB.out | apply bwX))) : w.heap.size ≤ gb235)); clear HB; have HB := n0_; have BK235 := n1_; have GW235 := n2_; have GE235 := n3_; clear n0_ n1_ n2_ n3_; clear hb hbox hg) | ((with_reducible refine gate_dst (N := 2) rfl ?_); refine bxE ?hg (N := 2) ?hd (cs := #[.int .i64 0, .slice none 0 0, .slice none 0 0]) (t := 58) ?hr ?_; (case hd => rfl); (case hg => rfl); (case hr => first | (go_simp; done) | (go_simp; rfl)); intro gb236 hg w4 hbox hb; have n0_ := Asd.mk (bkB (g := gb235) (o := .cells #[.int .i64 a0_0, .slice A0_1 l0_1.length c0_1, .slice A0_2 l0_2.length c0_2] 58 (0, 0)) (by (repeat apply bkS); exact BK235.out) hb); have n1_ := Asd.mk (bwP (by repeat (with_reducible first | exact HB.out | apply bwX | refine bwS ?_ aX)) hb); have n2_ := Asd.mk (hbox); have n3_ := Asd.mk ((by rw [hg]; exact (below_size (by repeat (with_reducible first | exact HB.out | apply bwX | refine bwS ?_ aX))) : w.heap.size ≤ gb236)); have n4_ := Asd.mk ((by rw [hg]; exact (below_size (by repeat (with_reducible first | exact HB.out | apply bwX | refine bwS ?_ aX))) : w.heap.size ≤ gb236)); have n5_ := Asd.mk ((by rw [hg]; exact Nat.ne_of_lt (bkL (g := gb235) (o := .cells #[.int .i64 a0_0, .slice A0_1 l0_1.length c0_1, .slice A0_2 l0_2.length c0_2] 58 (0, 0)) (by (repeat apply bkS); exact BK235.out)) : gb235 ≠ gb236)); have n6_ := Asd.mk ((by rw [hg]; exact Nat.ne_of_gt (bkL (g := gb235) (o := .cells #[.int .i64 a0_0, .slice A0_1 l0_1.length c0_1, .slice A0_2 l0_2.length c0_2] 58 (0, 0)) (by (repeat apply bkS); exact BK235.out)) : gb236 ≠ gb235)); clear BK235; clear HB; have BK235 := n0_; have HB := n1_; have BK236 := n2_; have GW236 := n3_; have GE236 := n4_; have NB235_236 := n5_; have NB236_235 := n6_; clear n0_ n1_ n2_ n3_ n4_ n5_ n6_; clear hb hbox hg))
 have n0_ := Asd.mk (bkD BK235.out)
 have n1_ := Asd.mk (bkD BK236.out)
 have n2_ := Asd.mk (bwD HB.out)
 clear BK235
 clear BK236
 clear HB
 have BK235 := n0_
 have BK236 := n1_
 have HB := n2_
 clear n0_ n1_ n2_
 refine start_ (n := 9) (S := fun w' => w'.cell? ⟨gb235, 0, none⟩ = some (.int .i64 a0_0) ∧ w'.cell? ⟨gb235, 1, none⟩ = some (.slice A0_1 l0_1.length c0_1) ∧ w'.cell? ⟨gb235, 2, none⟩ = some (.slice A0_2 l0_2.length c0_2)) (ds := []) #[false, false, false, false, false, false, false, false, false] (by kernel_rfl) rfl rfl ⟨(bkC BK235.out 0).trans rfl, (bkC BK235.out 1).trans rfl, (bkC BK235.out 2).trans rfl⟩ (fun hHeld => ?_); refine with_tabW spec_l10Copy.tab1 spec_l10Copy.bits1 (fun HT_ HW_ => ?_)
 generalize w4.drew = w5 at BK235 BK236 HB hHeld ⊢
 refine pure_ (i := 0) (N := some 5) (v := ?_) (a' := ?_) #[true, false, false, false, false, false, false, false, false] rfl rfl (any_of HT_.out (by kernel_rfl)) (fun _ _ _ h => h) (Or.inl ⟨by rfl, ?_⟩) ?_ ?_
 rotate_left
 ·intro w'
  go_simp
  with_reducible rfl
 rotate_left
 ·simp only [Act.put, qA, qB, qC, i64_w, i32_w]
  rfl
 refine pure_ (i := 3) (N := some 8) (v := ?_) (a' := ?_) #[true, false, false, true, false, false, false, false, false] rfl rfl (any_of HT_.out (by kernel_rfl)) (fun _ _ _ h => h) (Or.inl ⟨by rfl, ?_⟩) ?_ ?_
 rotate_left
 ·intro w'
  go_simp
  with_reducible rfl
 rotate_left
 ·simp only [Act.put, qA, qB, qC, i64_w, i32_w]
  rfl
 refine take_ (i := 1) (N := some 6) (v := ?_) (a' := ?_) #[true, true, false, true, false, false, false, false, false] rfl rfl (take_ofW HT_.out HW_.out (by kernel_rfl)) (fun _ _ _ h => h) (Or.inl ⟨by rfl, ?_⟩) hHeld ?_ ?_
 rotate_left
 ·rintro w' ⟨s0, s1, s2⟩
  go_simp
  with_reducible rfl
 rotate_left
 ·simp only [Act.put, qA, qB, qC, i64_w, i32_w]
  rfl
 refine take_ (i := 4) (N := some 9) (v := ?_) (a' := ?_) #[true, true, false, true, true, false, false, false, false] rfl rfl (take_ofW HT_.out HW_.out (by kernel_rfl)) (fun _ _ _ h => h) (Or.inl ⟨by rfl, ?_⟩) hHeld ?_ ?_
 rotate_left
 ·rintro w' ⟨s0, s1, s2⟩
  go_simp
  with_reducible rfl
 rotate_left
 ·simp only [Act.put, qA, qB, qC, i64_w, i32_w]
  rfl
 refine join_ (σ := Value × Value × Nat) 1 #[true, true, true, true, true, true, true, true, false] (fun s_ => [(7, s_.1), (10, s_.2.1), (3, .pointer (some ⟨s_.2.2, 0, none⟩)), (11, .agg #[.int .i64 a0_0, s_.2.1, .slice none 0 0])]) (fun s_ w' => (w'.cell? ⟨gb235, 0, none⟩ = some (.int .i64 a0_0) ∧ w'.cell? ⟨gb235, 1, none⟩ = some (.slice A0_1 l0_1.length c0_1) ∧ w'.cell? ⟨gb235, 2, none⟩ = some (.slice A0_2 l0_2.length c0_2)) ∧ (Kd.R (Kd.int .i64) 3 w' w.heap.size (fun _ => True) s_.2.1 y240) ∧ (w'.heap[gb235]? = some (.cells #[.int .i64 a0_0, .slice A0_1 l0_1.length c0_1, .slice A0_2 l0_2.length c0_2] 58 (0, 0))) ∧ (w'.heap[gb236]? = some (.cells #[.int .i64 0, .slice none 0 0, .slice none 0 0] 58 (0, 0))) ∧ (w'.heap[s_.2.2]? = some (.cells #[.int .i64 0, .slice none 0 0, .slice none 0 0] 58 (0, 0))) ∧ (w.heap.size ≤ s_.2.2) ∧ (w.heap.size ≤ s_.2.2) ∧ (gb235 ≠ s_.2.2) ∧ (s_.2.2 ≠ gb235) ∧ (gb236 ≠ s_.2.2) ∧ (s_.2.2 ≠ gb236) ∧ (Below w.heap.size w w')) ?_ ?_
 rotate_left
 ·intro hCont
  refine two_ (i := 2) (j := 7) (Ni := some 7) (Nj := some 3) #[true, true, true, true, true, false, false, false, false] #[true, true, false, true, true, false, false, true, false] rfl rfl rfl rfl (two_of HT_.out (by kernel_rfl)) (by decide) (by decide) (fun K hK => ?_) (fun K hK => ?_)
  ·skip
   refine Kd.R_lit_step (Kd.int .i64) _ 3 ?hg (N := 7) ?hd (xs := ([] : List Int)) (inner := []) (ok := fun _ => True) (okp := fun _ => True) ?hr ?hp (fun _ hk => hk) trivial (Below.refl _ _) (Nat.le_refl _) (by simp) ?_; (case hd => rfl); (case hg => rfl); (case hr => first | (go_simp; done) | (go_simp; rfl)); (case hp => exact (Reps.none _ _))
   intro v238 w6 ho7 hb hg_ hnew_
   clear hg_ hnew_
   (first | rw [← Ny237.out] at ho7 | (simp only [Int.reduceToNat] at ho7; rw [← Ny237.out] at ho7))
   have n0_ := Asd.mk (Kd.R_lower ho7 (below_size (by repeat (with_reducible first | exact HB.out | apply bwX | refine bwS ?_ aX))))
   have n1_ := Asd.mk (bkB (g := gb235) (o := .cells #[.int .i64 a0_0, .slice A0_1 l0_1.length c0_1, .slice A0_2 l0_2.length c0_2] 58 (0, 0)) (by (repeat apply bkS); exact BK235.out) hb)
   have n2_ := Asd.mk (bkB (g := gb236) (o := .cells #[.int .i64 0, .slice none 0 0, .slice none 0 0] 58 (0, 0)) (by (repeat apply bkS); exact BK236.out) hb)
   have n3_ := Asd.mk (bwP (by repeat (with_reducible first | exact HB.out | apply bwX | refine bwS ?_ aX)) hb)
   clear BK235
   clear BK236
   clear HB
   have HO239 := n0_
   have BK235 := n1_
   have BK236 := n2_
   have HB := n3_
   clear n0_ n1_ n2_ n3_
   clear hb ho7
   refine hK.out _ _ ⟨(bkC BK235.out 0).trans rfl, (bkC BK235.out 1).trans rfl, (bkC BK235.out 2).trans rfl⟩ (fun hHeld => ?_)
   clear hK K
   refine norm_ (a' := ?_) ?_ ?_
   rotate_left
   ·show Act.put _ (some 7) _ = _
    simp only [Act.put, qA, qB, qC, i64_w, i32_w]
    rfl
   refine two_ (i := 5) (j := 7) (Ni := some 10) (Nj := some 3) #[true, true, true, true, true, true, false, false, false] #[true, true, true, true, true, false, false, true, false] rfl rfl rfl rfl (two_of HT_.out (by kernel_rfl)) (by decide) (by decide) (fun K hK => ?_) (fun K hK => ?_)
   ·skip
    refine Kd.R_append_rows_step (Kd.int .i64) (w0 := w) w.heap.size (by rfl) (.tmp 7) (.tmp 9) 55 3 (.int .i64 0) 8 rfl Try.underlying55 info3 rfl (by decide) (by omega) v238 y237 l0_1 _ _ _ (fun _ => True) (fun _ => False) rfl rfl ?aO ?aR (fun _ _ h => h) (fun _ h => h.elim) ?aF ?aB ?aS ?aL ?_
    (case aR => repeat (first | exact (Kd.C_below HR0_1.out HB.out) | (with_reducible refine Kd.C_alloc ?_ _) | (with_reducible refine Kd.C_drewN ?_ _) | (with_reducible refine Kd.C_drew ?_)))
    (case aB => exact (by repeat (with_reducible first | exact HB.out | apply bwX | refine bwS ?_ aX)))
    (case aF => exact (fun _ _ => trivial))
    (case aO => exact (by (repeat apply Kd.RS); exact HO239.out))
    (case aS => exact (below_size (by repeat (with_reducible first | exact HB.out | apply bwX | refine bwS ?_ aX))))
    (case aL => have := LMc2.out; omega)
    intro v241 w8 ho hb hg hat
    rw [← Ny240.out] at ho
    have n0_ := Asd.mk (blk_grown (g := gb235) (o := .cells #[.int .i64 a0_0, .slice A0_1 l0_1.length c0_1, .slice A0_2 l0_2.length c0_2] 58 (0, 0)) (by (repeat apply bkS); exact BK235.out) hg (Kd.R_ne HO239.out BK235.out (by decide)))
    have n1_ := Asd.mk (blk_grown (g := gb236) (o := .cells #[.int .i64 0, .slice none 0 0, .slice none 0 0] 58 (0, 0)) (by (repeat apply bkS); exact BK236.out) hg (Kd.R_ne HO239.out BK236.out (by decide)))
    have n2_ := Asd.mk (hb)
    have n3_ := Asd.mk (ho)
    clear BK235
    clear BK236
    clear HB
    clear HO239
    have BK235 := n0_
    have BK236 := n1_
    have HB := n2_
    have HO242 := n3_
    clear n0_ n1_ n2_ n3_
    clear ho hb hg hat
    obtain ⟨Ao9, co9, eo9⟩ := Kd.R_slice HO242.out
    (first | subst eo9 | (injection eo9 with f1_ f2_ f3_; have f4_ := f1_.symm; have f5_ := f3_.symm; clear f1_ f2_ f3_; subst f4_; subst f5_))
    refine hK.out _ _ ⟨(bkC BK235.out 0).trans rfl, (bkC BK235.out 1).trans rfl, (bkC BK235.out 2).trans rfl⟩ (fun hHeld => ?_)
    clear hK K
    refine norm_ (a' := ?_) ?_ ?_
    rotate_left
    ·show Act.put _ (some 10) _ = _
     simp only [Act.put, qA, qB, qC, i64_w, i32_w]
     rfl
    refine pure_ (i := 6) (N := some 11) (v := ?_) (a' := ?_) #[true, true, true, true, true, true, true, false, false] rfl rfl (any_of HT_.out (by kernel_rfl)) (fun _ _ _ h => h) (Or.inl ⟨by rfl, ?_⟩) ?_ ?_
    rotate_left
    ·intro w'
     go_simp
     with_reducible rfl
    rotate_left
    ·simp only [Act.put, qA, qB, qC, i64_w, i32_w]
     rfl
    refine one_ (i := 7) (N := some 3) #[true, true, true, true, true, true, true, true, false] rfl rfl (one_of HT_.out (by kernel_rfl)) (by decide) (fun K hK => ?_)
    refine box_step ?hg (N := 3) ?hd (cs := #[.int .i64 0, .slice none 0 0, .slice none 0 0]) (t := 58) ?hr ?_; (case hd => rfl); (case hg => rfl); (case hr => first | (go_simp; done) | (go_simp; rfl))
    intro gb243 hg w10 hbox hb
    have n0_ := Asd.mk (Kd.R_below (by (repeat apply Kd.RS); exact HO242.out) hb)
    have n1_ := Asd.mk (bkB (g := gb235) (o := .cells #[.int .i64 a0_0, .slice A0_1 l0_1.length c0_1, .slice A0_2 l0_2.length c0_2] 58 (0, 0)) (by (repeat apply bkS); exact BK235.out) hb)
    have n2_ := Asd.mk (bkB (g := gb236) (o := .cells #[.int .i64 0, .slice none 0 0, .slice none 0 0] 58 (0, 0)) (by (repeat apply bkS); exact BK236.out) hb)
    have n3_ := Asd.mk (bwP (by repeat (with_reducible first | exact HB.out | apply bwX | refine bwS ?_ aX)) hb)
    have n4_ := Asd.mk (hbox)
    have n5_ := Asd.mk ((by rw [hg]; exact (below_size (by repeat (with_reducible first | exact HB.out | apply bwX | refine bwS ?_ aX))) : w.heap.size ≤ gb243))
    have n6_ := Asd.mk ((by rw [hg]; exact (below_size (by repeat (with_reducible first | exact HB.out | apply bwX | refine bwS ?_ aX))) : w.heap.size ≤ gb243))
    have n7_ := Asd.mk ((by rw [hg]; exact Nat.ne_of_lt (bkL (g := gb235) (o := .cells #[.int .i64 a0_0, .slice A0_1 l0_1.length c0_1, .slice A0_2 l0_2.length c0_2] 58 (0, 0)) (by (repeat apply bkS); exact BK235.out)) : gb235 ≠ gb243))
    have n8_ := Asd.mk ((by rw [hg]; exact Nat.ne_of_gt (bkL (g := gb235) (o := .cells #[.int .i64 a0_0, .slice A0_1 l0_1.length c0_1, .slice A0_2 l0_2.length c0_2] 58 (0, 0)) (by (repeat apply bkS); exact BK235.out)) : gb243 ≠ gb235))
    have n9_ := Asd.mk ((by rw [hg]; exact Nat.ne_of_lt (bkL (g := gb236) (o := .cells #[.int .i64 0, .slice none 0 0, .slice none 0 0] 58 (0, 0)) (by (repeat apply bkS); exact BK236.out)) : gb236 ≠ gb243))
    have n10_ := Asd.mk ((by rw [hg]; exact Nat.ne_of_gt (bkL (g := gb236) (o := .cells #[.int .i64 0, .slice none 0 0, .slice none 0 0] 58 (0, 0)) (by (repeat apply bkS); exact BK236.out)) : gb243 ≠ gb236))
    clear HO242
    clear BK235
    clear BK236
    clear HB
    have HO242 := n0_
    have BK235 := n1_
    have BK236 := n2_
    have HB := n3_
    have BK243 := n4_
    have GW243 := n5_
    have GE243 := n6_
    have NB235_243 := n7_
    have NB243_235 := n8_
    have NB236_243 := n9_
    have NB243_236 := n10_
    clear n0_ n1_ n2_ n3_ n4_ n5_ n6_ n7_ n8_ n9_ n10_
    clear hb hbox hg
    refine hK.out _ _ ⟨(bkC BK235.out 0).trans rfl, (bkC BK235.out 1).trans rfl, (bkC BK235.out 2).trans rfl⟩ (fun hHeld => ?_)
    clear hK K
    refine norm_ (a' := ?_) ?_ ?_
    rotate_left
    ·show Act.put _ (some 3) _ = _
     simp only [Act.put, qA, qB, qC, i64_w, i32_w]
     rfl
    exact norm_ (by simp only [putAll, Act.put, qA, qB, qC]) (hCont (v238, .slice Ao9 y240.length co9, gb243) _ ⟨hHeld, (by (repeat apply Kd.RS); exact HO242.out), (by (repeat apply bkS); exact BK235.out), (by (repeat apply bkS); exact BK236.out), (by (repeat apply bkS); exact BK243.out), GW243.out, GE243.out, NB235_243.out, NB243_235.out, NB236_243.out, NB243_236.out, (by repeat (with_reducible first | exact HB.out | apply bwX | refine bwS ?_ aX))⟩)
   ·skip
    refine box_step ?hg (N := 3) ?hd (cs := #[.int .i64 0, .slice none 0 0, .slice none 0 0]) (t := 58) ?hr ?_; (case hd => rfl); (case hg => rfl); (case hr => first | (go_simp; done) | (go_simp; rfl))
    intro gb243 hg w8 hbox hb
    have n0_ := Asd.mk (Kd.R_below (by (repeat apply Kd.RS); exact HO239.out) hb)
    have n1_ := Asd.mk (bkB (g := gb235) (o := .cells #[.int .i64 a0_0, .slice A0_1 l0_1.length c0_1, .slice A0_2 l0_2.length c0_2] 58 (0, 0)) (by (repeat apply bkS); exact BK235.out) hb)
    have n2_ := Asd.mk (bkB (g := gb236) (o := .cells #[.int .i64 0, .slice none 0 0, .slice none 0 0] 58 (0, 0)) (by (repeat apply bkS); exact BK236.out) hb)
    have n3_ := Asd.mk (bwP (by repeat (with_reducible first | exact HB.out | apply bwX | refine bwS ?_ aX)) hb)
    have n4_ := Asd.mk (hbox)
    have n5_ := Asd.mk ((by rw [hg]; exact (below_size (by repeat (with_reducible first | exact HB.out | apply bwX | refine bwS ?_ aX))) : w.heap.size ≤ gb243))
    have n6_ := Asd.mk ((by rw [hg]; exact (below_size (by repeat (with_reducible first | exact HB.out | apply bwX | refine bwS ?_ aX))) : w.heap.size ≤ gb243))
    have n7_ := Asd.mk ((by rw [hg]; exact Nat.ne_of_lt (bkL (g := gb235) (o := .cells #[.int .i64 a0_0, .slice A0_1 l0_1.length c0_1, .slice A0_2 l0_2.length c0_2] 58 (0, 0)) (by (repeat apply bkS); exact BK235.out)) : gb235 ≠ gb243))
    have n8_ := Asd.mk ((by rw [hg]; exact Nat.ne_of_gt (bkL (g := gb235) (o := .cells #[.int .i64 a0_0, .slice A0_1 l0_1.length c0_1, .slice A0_2 l0_2.length c0_2] 58 (0, 0)) (by (repeat apply bkS); exact BK235.out)) : gb243 ≠ gb235))
    have n9_ := Asd.mk ((by rw [hg]; exact Nat.ne_of_lt (bkL (g := gb236) (o := .cells #[.int .i64 0, .slice none 0 0, .slice none 0 0] 58 (0, 0)) (by (repeat apply bkS); exact BK236.out)) : gb236 ≠ gb243))
    have n10_ := Asd.mk ((by rw [hg]; exact Nat.ne_of_gt (bkL (g := gb236) (o := .cells #[.int .i64 0, .slice none 0 0, .slice none 0 0] 58 (0, 0)) (by (repeat apply bkS); exact BK236.out)) : gb243 ≠ gb236))
    clear HO239
    clear BK235
    clear BK236
    clear HB
    have HO239 := n0_
    have BK235 := n1_
    have BK236 := n2_
    have HB := n3_
    have BK243 := n4_
    have GW243 := n5_
    have GE243 := n6_
    have NB235_243 := n7_
    have NB243_235 := n8_
    have NB236_243 := n9_
    have NB243_236 := n10_
    clear n0_ n1_ n2_ n3_ n4_ n5_ n6_ n7_ n8_ n9_ n10_
    clear hb hbox hg
    refine hK.out _ _ ⟨(bkC BK235.out 0).trans rfl, (bkC BK235.out 1).trans rfl, (bkC BK235.out 2).trans rfl⟩ (fun hHeld => ?_)
    clear hK K
    refine norm_ (a' := ?_) ?_ ?_
    rotate_left
    ·show Act.put _ (some 3) _ = _
     simp only [Act.put, qA, qB, qC, i64_w, i32_w]
     rfl
    refine one_ (i := 5) (N := some 10) #[true, true, true, true, true, true, false, true, false] rfl rfl (one_of HT_.out (by kernel_rfl)) (by decide) (fun K hK => ?_)
    refine Kd.R_append_rows_step (Kd.int .i64) (w0 := w) w.heap.size (by rfl) (.tmp 7) (.tmp 9) 55 3 (.int .i64 0) 8 rfl Try.underlying55 info3 rfl (by decide) (by omega) v238 y237 l0_1 _ _ _ (fun _ => True) (fun _ => False) rfl rfl ?aO ?aR (fun _ _ h => h) (fun _ h => h.elim) ?aF ?aB ?aS ?aL ?_
    (case aR => repeat (first | exact (Kd.C_below HR0_1.out HB.out) | (with_reducible refine Kd.C_alloc ?_ _) | (with_reducible refine Kd.C_drewN ?_ _) | (with_reducible refine Kd.C_drew ?_)))
    (case aB => exact (by repeat (with_reducible first | exact HB.out | apply bwX | refine bwS ?_ aX)))
    (case aF => exact (fun _ _ => trivial))
    (case aO => exact (by (repeat apply Kd.RS); exact HO239.out))
    (case aS => exact (below_size (by repeat (with_reducible first | exact HB.out | apply bwX | refine bwS ?_ aX))))
    (case aL => have := LMc2.out; omega)
    intro v241 w9 ho hb hg hat
    rw [← Ny240.out] at ho
    have n0_ := Asd.mk (blk_grown (g := gb235) (o := .cells #[.int .i64 a0_0, .slice A0_1 l0_1.length c0_1, .slice A0_2 l0_2.length c0_2] 58 (0, 0)) (by (repeat apply bkS); exact BK235.out) hg (Kd.R_ne HO239.out BK235.out (by decide)))
    have n1_ := Asd.mk (blk_grown (g := gb236) (o := .cells #[.int .i64 0, .slice none 0 0, .slice none 0 0] 58 (0, 0)) (by (repeat apply bkS); exact BK236.out) hg (Kd.R_ne HO239.out BK236.out (by decide)))
    have n2_ := Asd.mk (blk_grown (g := gb243) (o := .cells #[.int .i64 0, .slice none 0 0, .slice none 0 0] 58 (0, 0)) (by (repeat apply bkS); exact BK243.out) hg (Kd.R_ne HO239.out BK243.out (by decide)))
    have n3_ := Asd.mk (hb)
    have n4_ := Asd.mk (ho)
    clear BK235
    clear BK236
    clear BK243
    clear HB
    clear HO239
    have BK235 := n0_
    have BK236 := n1_
    have BK243 := n2_
    have HB := n3_
    have HO242 := n4_
    clear n0_ n1_ n2_ n3_ n4_
    clear ho hb hg hat
    obtain ⟨Ao10, co10, eo10⟩ := Kd.R_slice HO242.out
    (first | subst eo10 | (injection eo10 with f1_ f2_ f3_; have f4_ := f1_.symm; have f5_ := f3_.symm; clear f1_ f2_ f3_; subst f4_; subst f5_))
    refine hK.out _ _ ⟨(bkC BK235.out 0).trans rfl, (bkC BK235.out 1).trans rfl, (bkC BK235.out 2).trans rfl⟩ (fun hHeld => ?_)
    clear hK K
    refine norm_ (a' := ?_) ?_ ?_
    rotate_left
    ·show Act.put _ (some 10) _ = _
     simp only [Act.put, qA, qB, qC, i64_w, i32_w]
     rfl
    refine pure_ (i := 6) (N := some 11) (v := ?_) (a' := ?_) #[true, true, true, true, true, true, true, true, false] rfl rfl (any_of HT_.out (by kernel_rfl)) (fun _ _ _ h => h) (Or.inl ⟨by rfl, ?_⟩) ?_ ?_
    rotate_left
    ·intro w'
     go_simp
     with_reducible rfl
    rotate_left
    ·simp only [Act.put, qA, qB, qC, i64_w, i32_w]
     rfl
    exact norm_ (by simp only [putAll, Act.put, qA, qB, qC]) (hCont (v238, .slice Ao10 y240.length co10, gb243) _ ⟨hHeld, (by (repeat apply Kd.RS); exact HO242.out), (by (repeat apply bkS); exact BK235.out), (by (repeat apply bkS); exact BK236.out), (by (repeat apply bkS); exact BK243.out), GW243.out, GE243.out, NB235_243.out, NB243_235.out, NB236_243.out, NB243_236.out, (by repeat (with_reducible first | exact HB.out | apply bwX | refine bwS ?_ aX))⟩)
  ·skip
   refine box_step ?hg (N := 3) ?hd (cs := #[.int .i64 0, .slice none 0 0, .slice none 0 0]) (t := 58) ?hr ?_; (case hd => rfl); (case hg => rfl); (case hr => first | (go_simp; done) | (go_simp; rfl))
   intro gb243 hg w6 hbox hb
   have n0_ := Asd.mk (bkB (g := gb235) (o := .cells #[.int .i64 a0_0, .slice A0_1 l0_1.length c0_1, .slice A0_2 l0_2.length c0_2] 58 (0, 0)) (by (repeat apply bkS); exact BK235.out) hb)
   have n1_ := Asd.mk (bkB (g := gb236) (o := .cells #[.int .i64 0, .slice none 0 0, .slice none 0 0] 58 (0, 0)) (by (repeat apply bkS); exact BK236.out) hb)
   have n2_ := Asd.mk (bwP (by repeat (with_reducible first | exact HB.out | apply bwX | refine bwS ?_ aX)) hb)
   have n3_ := Asd.mk (hbox)
   have n4_ := Asd.mk ((by rw [hg]; exact (below_size (by repeat (with_reducible first | exact HB.out | apply bwX | refine bwS ?_ aX))) : w.heap.size ≤ gb243))
   have n5_ := Asd.mk ((by rw [hg]; exact (below_size (by repeat (with_reducible first | exact HB.out | apply bwX | refine bwS ?_ aX))) : w.heap.size ≤ gb243))
   have n6_ := Asd.mk ((by rw [hg]; exact Nat.ne_of_lt (bkL (g := gb235) (o := .cells #[.int .i64 a0_0, .slice A0_1 l0_1.length c0_1, .slice A0_2 l0_2.length c0_2] 58 (0, 0)) (by (repeat apply bkS); exact BK235.out)) : gb235 ≠ gb243))
   have n7_ := Asd.mk ((by rw [hg]; exact Nat.ne_of_gt (bkL (g := gb235) (o := .cells #[.int .i64 a0_0, .slice A0_1 l0_1.length c0_1, .slice A0_2 l0_2.length c0_2] 58 (0, 0)) (by (repeat apply bkS); exact BK235.out)) : gb243 ≠ gb235))
   have n8_ := Asd.mk ((by rw [hg]; exact Nat.ne_of_lt (bkL (g := gb236) (o := .cells #[.int .i64 0, .slice none 0 0, .slice none 0 0] 58 (0, 0)) (by (repeat apply bkS); exact BK236.out)) : gb236 ≠ gb243))
   have n9_ := Asd.mk ((by rw [hg]; exact Nat.ne_of_gt (bkL (g := gb236) (o := .cells #[.int .i64 0, .slice none 0 0, .slice none 0 0] 58 (0, 0)) (by (repeat apply bkS); exact BK236.out)) : gb243 ≠ gb236))
   clear BK235
   clear BK236
   clear HB
   have BK235 := n0_
   have BK236 := n1_
   have HB := n2_
   have BK243 := n3_
   have GW243 := n4_
   have GE243 := n5_
   have NB235_243 := n6_
   have NB243_235 := n7_
   have NB236_243 := n8_
   have NB243_236 := n9_
   clear n0_ n1_ n2_ n3_ n4_ n5_ n6_ n7_ n8_ n9_
   clear hb hbox hg
   refine hK.out _ _ ⟨(bkC BK235.out 0).trans rfl, (bkC BK235.out 1).trans rfl, (bkC BK235.out 2).trans rfl⟩ (fun hHeld => ?_)
   clear hK K
   refine norm_ (a' := ?_) ?_ ?_
   rotate_left
   ·show Act.put _ (some 3) _ = _
    simp only [Act.put, qA, qB, qC, i64_w, i32_w]
    rfl
   refine one_ (i := 2) (N := some 7) #[true, true, true, true, true, false, false, true, false] rfl rfl (one_of HT_.out (by kernel_rfl)) (by decide) (fun K hK => ?_)
   refine Kd.R_lit_step (Kd.int .i64) _ 3 ?hg (N := 7) ?hd (xs := ([] : List Int)) (inner := []) (ok := fun _ => True) (okp := fun _ => True) ?hr ?hp (fun _ hk => hk) trivial (Below.refl _ _) (Nat.le_refl _) (by simp) ?_; (case hd => rfl); (case hg => rfl); (case hr => first | (go_simp; done) | (go_simp; rfl)); (case hp => exact (Reps.none _ _))
   intro v238 w7 ho8 hb hg_ hnew_
   clear hg_ hnew_
   (first | rw [← Ny237.out] at ho8 | (simp only [Int.reduceToNat] at ho8; rw [← Ny237.out] at ho8))
   have n0_ := Asd.mk (Kd.R_lower ho8 (below_size (by repeat (with_reducible first | exact HB.out | apply bwX | refine bwS ?_ aX))))
   have n1_ := Asd.mk (bkB (g := gb235) (o := .cells #[.int .i64 a0_0, .slice A0_1 l0_1.length c0_1, .slice A0_2 l0_2.length c0_2] 58 (0, 0)) (by (repeat apply bkS); exact BK235.out) hb)
   have n2_ := Asd.mk (bkB (g := gb236) (o := .cells #[.int .i64 0, .slice none 0 0, .slice none 0 0] 58 (0, 0)) (by (repeat apply bkS); exact BK236.out) hb)
   have n3_ := Asd.mk (bkB (g := gb243) (o := .cells #[.int .i64 0, .slice none 0 0, .slice none 0 0] 58 (0, 0)) (by (repeat apply bkS); exact BK243.out) hb)
   have n4_ := Asd.mk (bwP (by repeat (with_reducible first | exact HB.out | apply bwX | refine bwS ?_ aX)) hb)
   clear BK235
   clear BK236
   clear BK243
   clear HB
   have HO239 := n0_
   have BK235 := n1_
   have BK236 := n2_
   have BK243 := n3_
   have HB := n4_
   clear n0_ n1_ n2_ n3_ n4_
   clear hb ho8
   refine hK.out _ _ ⟨(bkC BK235.out 0).trans rfl, (bkC BK235.out 1).trans rfl, (bkC BK235.out 2).trans rfl⟩ (fun hHeld => ?_)
   clear hK K
   refine norm_ (a' := ?_) ?_ ?_
   rotate_left
   ·show Act.put _ (some 7) _ = _
    simp only [Act.put, qA, qB, qC, i64_w, i32_w]
    rfl
   refine one_ (i := 5) (N := some 10) #[true, true, true, true, true, true, false, true, false] rfl rfl (one_of HT_.out (by kernel_rfl)) (by decide) (fun K hK => ?_)
   refine Kd.R_append_rows_step (Kd.int .i64) (w0 := w) w.heap.size (by rfl) (.tmp 7) (.tmp 9) 55 3 (.int .i64 0) 8 rfl Try.underlying55 info3 rfl (by decide) (by omega) v238 y237 l0_1 _ _ _ (fun _ => True) (fun _ => False) rfl rfl ?aO ?aR (fun _ _ h => h) (fun _ h => h.elim) ?aF ?aB ?aS ?aL ?_
   (case aR => repeat (first | exact (Kd.C_below HR0_1.out HB.out) | (with_reducible refine Kd.C_alloc ?_ _) | (with_reducible refine Kd.C_drewN ?_ _) | (with_reducible refine Kd.C_drew ?_)))
   (case aB => exact (by repeat (with_reducible first | exact HB.out | apply bwX | refine bwS ?_ aX)))
   (case aF => exact (fun _ _ => trivial))
   (case aO => exact (by (repeat apply Kd.RS); exact HO239.out))
   (case aS => exact (below_size (by repeat (with_reducible first | exact HB.out | apply bwX | refine bwS ?_ aX))))
   (case aL => have := LMc2.out; omega)
   intro v241 w9 ho hb hg hat
   rw [← Ny240.out] at ho
   have n0_ := Asd.mk (blk_grown (g := gb235) (o := .cells #[.int .i64 a0_0, .slice A0_1 l0_1.length c0_1, .slice A0_2 l0_2.length c0_2] 58 (0, 0)) (by (repeat apply bkS); exact BK235.out) hg (Kd.R_ne HO239.out BK235.out (by decide)))
   have n1_ := Asd.mk (blk_grown (g := gb236) (o := .cells #[.int .i64 0, .slice none 0 0, .slice none 0 0] 58 (0, 0)) (by (repeat apply bkS); exact BK236.out) hg (Kd.R_ne HO239.out BK236.out (by decide)))
   have n2_ := Asd.mk (blk_grown (g := gb243) (o := .cells #[.int .i64 0, .slice none 0 0, .slice none 0 0] 58 (0, 0)) (by (repeat apply bkS); exact BK243.out) hg (Kd.R_ne HO239.out BK243.out (by decide)))
   have n3_ := Asd.mk (hb)
   have n4_ := Asd.mk (ho)
   clear BK235
   clear BK236
   clear BK243
   clear HB
   clear HO239
   have BK235 := n0_
   have BK236 := n1_
   have BK243 := n2_
   have HB := n3_
   have HO242 := n4_
   clear n0_ n1_ n2_ n3_ n4_
   clear ho hb hg hat
   obtain ⟨Ao10, co10, eo10⟩ := Kd.R_slice HO242.out
   (first | subst eo10 | (injection eo10 with f1_ f2_ f3_; have f4_ := f1_.symm; have f5_ := f3_.symm; clear f1_ f2_ f3_; subst f4_; subst f5_))
   refine hK.out _ _ ⟨(bkC BK235.out 0).trans rfl, (bkC BK235.out 1).trans rfl, (bkC BK235.out 2).trans rfl⟩ (fun hHeld => ?_)
   clear hK K
   refine norm_ (a' := ?_) ?_ ?_
   rotate_left
   ·show Act.put _ (some 10) _ = _
    simp only [Act.put, qA, qB, qC, i64_w, i32_w]
    rfl
   refine pure_ (i := 6) (N := some 11) (v := ?_) (a' := ?_) #[true, true, true, true, true, true, true, true, false] rfl rfl (any_of HT_.out (by kernel_rfl)) (fun _ _ _ h => h) (Or.inl ⟨by rfl, ?_⟩) ?_ ?_
   rotate_left
   ·intro w'
    go_simp
    with_reducible rfl
   rotate_left
   ·simp only [Act.put, qA, qB, qC, i64_w, i32_w]
    rfl
   exact norm_ (by simp only [putAll, Act.put, qA, qB, qC]) (hCont (v238, .slice Ao10 y240.length co10, gb243) _ ⟨hHeld, (by (repeat apply Kd.RS); exact HO242.out), (by (repeat apply bkS); exact BK235.out), (by (repeat apply bkS); exact BK236.out), (by (repeat apply bkS); exact BK243.out), GW243.out, GE243.out, NB235_243.out, NB243_235.out, NB236_243.out, NB243_236.out, (by repeat (with_reducible first | exact HB.out | apply bwX | refine bwS ?_ aX))⟩)
 rintro ⟨v238, v241, gb243⟩ w11 ⟨hS_, h0_, h1_, h2_, h3_, h4_, h5_, h6_, h7_, h8_, h9_, h10_⟩
 have n0_ : Asd (Kd.R (Kd.int .i64) 3 w11 w.heap.size (fun _ => True) v241 y240) := ⟨h0_⟩
 have n1_ : Asd (w11.heap[gb235]? = some (.cells #[.int .i64 a0_0, .slice A0_1 l0_1.length c0_1, .slice A0_2 l0_2.length c0_2] 58 (0, 0))) := ⟨h1_⟩
 have n2_ : Asd (w11.heap[gb236]? = some (.cells #[.int .i64 0, .slice none 0 0, .slice none 0 0] 58 (0, 0))) := ⟨h2_⟩
 have n3_ : Asd (w11.heap[gb243]? = some (.cells #[.int .i64 0, .slice none 0 0, .slice none 0 0] 58 (0, 0))) := ⟨h3_⟩
 have n4_ : Asd (w.heap.size ≤ gb243) := ⟨h4_⟩
 have n5_ : Asd (w.heap.size ≤ gb243) := ⟨h5_⟩
 have n6_ : Asd (gb235 ≠ gb243) := ⟨h6_⟩
 have n7_ : Asd (gb243 ≠ gb235) := ⟨h7_⟩
 have n8_ : Asd (gb236 ≠ gb243) := ⟨h8_⟩
 have n9_ : Asd (gb243 ≠ gb236) := ⟨h9_⟩
 have n10_ : Asd (Below w.heap.size w w11) := ⟨h10_⟩
 clear BK235
 clear BK236
 clear HB
 clear h0_ h1_ h2_ h3_ h4_ h5_ h6_ h7_ h8_ h9_ h10_
 have HO242 := n0_
 have BK235 := n1_
 have BK236 := n2_
 have BK243 := n3_
 have GW243 := n4_
 have GE243 := n5_
 have NB235_243 := n6_
 have NB243_235 := n7_
 have NB236_243 := n8_
 have NB243_236 := n9_
 have HB := n10_
 clear n0_ n1_ n2_ n3_ n4_ n5_ n6_ n7_ n8_ n9_ n10_
 have hHeld : w11.cell? ⟨gb235, 0, none⟩ = some (.int .i64 a0_0) ∧ w11.cell? ⟨gb235, 1, none⟩ = some (.slice A0_1 l0_1.length c0_1) ∧ w11.cell? ⟨gb235, 2, none⟩ = some (.slice A0_2 l0_2.length c0_2) := hS_
 obtain ⟨Ao12, co12, eo12⟩ := Kd.R_slice HO242.out
 (first | subst eo12 | (injection eo12 with f1_ f2_ f3_; have f4_ := f1_.symm; have f5_ := f3_.symm; clear f1_ f2_ f3_; subst f4_; subst f5_))
 refine norm_ (a' := ?_) ?_ ?_
 rotate_left
 ·simp only [putAll, Act.put, qA, qB, qC]
  rfl
 refine one_ (i := 8) (N := none) #[true, true, true, true, true, true, true, true, true] rfl rfl (one_of HT_.out (by kernel_rfl)) (by decide) (fun K hK => ?_)
 have hs13 : w11.cell? ⟨gb243, 0, none⟩ = some (.int .i64 0) := (bkC BK243.out 0).trans rfl
 have hfs13 := bkF BK243.out 0
 have hns13_0 := NB235_243.out
 have hns13_1 := NB236_243.out
 have hms13_0 := NB243_235.out
 have hms13_1 := NB243_236.out
 have hs14 : w11.cell? ⟨gb243, 1, none⟩ = some (.slice none 0 0) := (bkC BK243.out 1).trans rfl
 have hfs14 := bkF BK243.out 1
 have hns14_0 := NB235_243.out
 have hns14_1 := NB236_243.out
 have hms14_0 := NB243_235.out
 have hms14_1 := NB243_236.out
 have hs15 : w11.cell? ⟨gb243, 2, none⟩ = some (.slice none 0 0) := (bkC BK243.out 2).trans rfl
 have hfs15 := bkF BK243.out 2
 have hns15_0 := NB235_243.out
 have hns15_1 := NB236_243.out
 have hms15_0 := NB243_235.out
 have hms15_1 := NB243_236.out
 refine skip_ (w1 := ?_) (by rfl) rfl ?_ ?_
 rotate_left
 ·go_simp
  rfl
 refine hK.out _ _ ⟨((cell_far (p := ⟨gb243, _, none⟩) NB235_243.out _).trans (((cell_far (p := ⟨gb243, _, none⟩) NB235_243.out _).trans (((cell_far (p := ⟨gb243, _, none⟩) NB235_243.out _).trans (hHeld.1)))))), ((cell_far (p := ⟨gb243, _, none⟩) NB235_243.out _).trans (((cell_far (p := ⟨gb243, _, none⟩) NB235_243.out _).trans (((cell_far (p := ⟨gb243, _, none⟩) NB235_243.out _).trans (hHeld.2.1)))))), ((cell_far (p := ⟨gb243, _, none⟩) NB235_243.out _).trans (((cell_far (p := ⟨gb243, _, none⟩) NB235_243.out _).trans (((cell_far (p := ⟨gb243, _, none⟩) NB235_243.out _).trans (hHeld.2.2))))))⟩ (fun hHeld => ?_)
 clear hK K
 refine done_ (done_of HT_.out (by kernel_rfl)) ?_
 try go_wp2
 go_loopg [4] k (fun kq v4 w' => ∃ (x4_1 : Int) (x244002_1 : List (List Int)) (u244002 : Value), v4 = .int .i64 x4_1 ∧ Asd (spec_l10Copy.l0 kq x4_1 a0_0 l0_1 l0_2 a0_0 y240 x244002_1 = some (r1, r2, r3)) ∧ Asd (kq ≤ k) ∧ Asd (Kd.R (Kd.int .i64) 3 w' w.heap.size (fun _ => True) (.slice Ao12 y240.length co12) y240) ∧ Asd (Kd.S (Kd.slice 3 (Kd.int .i64)) 55 w' w.heap.size (fun k_ => some k_ ≠ ((.slice Ao12 y240.length co12) : Value).ownBlock) u244002 x244002_1) ∧ Asd (w'.heap[gb235]? = some (.cells #[.int .i64 a0_0, (.slice A0_1 l0_1.length c0_1), (.slice A0_2 l0_2.length c0_2)] 58 (0, 0))) ∧ Asd (w'.heap[gb236]? = some (.cells #[.int .i64 0, (.slice none 0 0), (.slice none 0 0)] 58 (0, 0))) ∧ Asd (w'.heap[gb243]? = some (.cells #[.int .i64 a0_0, (.slice Ao12 y240.length co12), u244002] 58 (0, 0))) ∧ Asd (Below w.heap.size w w'))
 case atStart => exact ⟨(0), (([] : List (List Int))), (.slice none 0 0), (by first | rfl | (simp; done) | (simp [*]; done)), H', ⟨Nat.le_refl _⟩, ⟨by (repeat apply Kd.RS); exact Kd.R_mono (Kd.R_far (p := ⟨gb243, 2, none⟩) (Kd.R_far (p := ⟨gb243, 1, none⟩) (Kd.R_far (p := ⟨gb243, 0, none⟩) (Kd.R_types HO242.out BK243.out (by decide)) (fun _ hk => hk.2) (.int .i64 a0_0)) (fun _ hk => hk.2) (.slice Ao12 y240.length co12)) (fun _ hk => hk.2) (.slice none 0 0)) (fun _ hk => trivial)⟩, ⟨by first | exact Kd.S_nil _ _ _ _ _ | exact Kd.N_nil _ _ _ _ _ | exact Kd.V_nil _ _ _ _ _ | exact Kd.Q_nil _ _ _ _ _ | exact Kd.R_nil _ _ _ _ _⟩, ⟨by (repeat apply bkS); refine bkR ?_ NB235_243.out _; (repeat apply bkS); refine bkR ?_ NB235_243.out _; (repeat apply bkS); refine bkR ?_ NB235_243.out _; (repeat apply bkS); exact BK235.out⟩, ⟨by (repeat apply bkS); refine bkR ?_ NB236_243.out _; (repeat apply bkS); refine bkR ?_ NB236_243.out _; (repeat apply bkS); refine bkR ?_ NB236_243.out _; (repeat apply bkS); exact BK236.out⟩, ⟨by (repeat apply bkS); refine bkP (cs := #[.int .i64 a0_0, .slice Ao12 y240.length co12, .slice none 0 0]) ?_ 2 _ rfl; (repeat apply bkS); refine bkP (cs := #[.int .i64 a0_0, .slice none 0 0, .slice none 0 0]) ?_ 1 _ rfl; (repeat apply bkS); refine bkP (cs := #[.int .i64 0, .slice none 0 0, .slice none 0 0]) ?_ 0 _ rfl; (repeat apply bkS); exact BK243.out⟩, ⟨by repeat (with_reducible first | exact HB.out | apply bwX | refine bwS ?_ aX)⟩⟩
 case round =>
  clear H'
  obtain ⟨x4_1, x244002_1, u244002, rfl, HA, HK1, HO_244001, HO_244002, BK235, BK236, BK243, HB⟩ := hrel
  cases gk with
  | zero => exact absurd HA.out (by simp [spec_l10Copy.l0])
  | succ k1 =>
   have H := HA.out
   clear HA
   simp only [spec_l10Copy.l0] at H
   by_cases c16 : x4_1 < (l0_2.length : Int)
   ·rw [if_pos c16] at H
    have c16b0 : decide (x4_1 < (l0_2.length : Int)) = true := decide_eq_true c16
    clear c16
    obtain ⟨y244, hy244⟩ : ∃ y_ : List Int, y_ = (([] : List Int)) := ⟨_, rfl⟩
    replace H : (if 0 ≤ x4_1 then (if y244.length + (rd_L5 l0_2 x4_1).length < 17592186044416 then (if x244002_1.length < 5864062014805 then (spec_l10Copy.l0 k1 (wrap64 (x4_1 + 1)) a0_0 l0_1 l0_2 a0_0 y240 (x244002_1 ++ [(y244 ++ (rd_L5 l0_2 x4_1))])) else (none)) else (none)) else (none)) = some (r1, r2, r3) := by first | (rw [hy244]; with_reducible exact H) | (have H2_ := (Option.bind_some _ _).symm.trans H; rw [hy244]; with_reducible exact H2_) | (have H2_ := (Option.bind_some _ _).symm.trans H; with_reducible exact H2_) | with_reducible exact H | (rw [hy244]; exact H) | exact H
    have Ny244 := Asd.mk hy244
    clear hy244
    by_cases c17 : 0 ≤ x4_1; rotate_left; (rw [if_neg c17] at H; exact absurd H (by simp))
    rw [if_pos c17] at H
    have c17b0 : decide (0 ≤ x4_1) = true := decide_eq_true c17
    clear c17
    by_cases c18 : y244.length + (rd_L5 l0_2 x4_1).length < 17592186044416; rotate_left; (rw [if_neg c18] at H; exact absurd H (by simp))
    rw [if_pos c18] at H
    have LMc18 := Asd.mk c18
    clear c18
    obtain ⟨y248, hy248⟩ : ∃ y_ : List Int, y_ = (y244 ++ (rd_L5 l0_2 x4_1)) := ⟨_, rfl⟩
    replace H : (if x244002_1.length < 5864062014805 then (spec_l10Copy.l0 k1 (wrap64 (x4_1 + 1)) a0_0 l0_1 l0_2 a0_0 y240 (x244002_1 ++ [y248])) else (none)) = some (r1, r2, r3) := by first | (rw [hy248]; with_reducible exact H) | (have H2_ := (Option.bind_some _ _).symm.trans H; rw [hy248]; with_reducible exact H2_) | (have H2_ := (Option.bind_some _ _).symm.trans H; with_reducible exact H2_) | with_reducible exact H | (rw [hy248]; exact H) | exact H
    have Ny248 := Asd.mk hy248
    clear hy248
    by_cases c19 : x244002_1.length < 5864062014805; rotate_left; (rw [if_neg c19] at H; exact absurd H (by simp))
    rw [if_pos c19] at H
    have LMc19 := Asd.mk c19
    clear c19
    obtain ⟨y251, hy251⟩ : ∃ y_ : List (List Int), y_ = (x244002_1 ++ [y248]) := ⟨_, rfl⟩
    replace H : (spec_l10Copy.l0 k1 (wrap64 (x4_1 + 1)) a0_0 l0_1 l0_2 a0_0 y240 y251) = some (r1, r2, r3) := by first | (rw [hy251]; with_reducible exact H) | (have H2_ := (Option.bind_some _ _).symm.trans H; rw [hy251]; with_reducible exact H2_) | (have H2_ := (Option.bind_some _ _).symm.trans H; with_reducible exact H2_) | with_reducible exact H | (rw [hy251]; exact H) | exact H
    have Ny251 := Asd.mk hy251
    clear hy251
    have H' := Asd.mk H
    clear H
    have hnb20 := NB235_236.out
    have hnc20 := NB236_235.out
    have hnb21 := NB235_243.out
    have hnc21 := NB243_235.out
    have hcz22_0 : wr.cell? ⟨gb235, 0, none⟩ = some (.int .i64 a0_0) := (bkC BK235.out 0).trans rfl
    have hcz22_1 : wr.cell? ⟨gb235, 1, none⟩ = some (.slice A0_1 l0_1.length c0_1) := (bkC BK235.out 1).trans rfl
    have hcz22_2 : wr.cell? ⟨gb235, 2, none⟩ = some (.slice A0_2 l0_2.length c0_2) := (bkC BK235.out 2).trans rfl
    have hfz22_0 := bkF BK235.out 0
    have hfz22_1 := bkF BK235.out 1
    have hfz22_2 := bkF BK235.out 2
    try go_wp2
    have n0_ := Asd.mk (Kd.R_drew HO_244001.out)
    have n1_ := Asd.mk (Kd.S_drew HO_244002.out)
    have n2_ := Asd.mk (bkD BK235.out)
    have n3_ := Asd.mk (bkD BK236.out)
    have n4_ := Asd.mk (bkD BK243.out)
    have n5_ := Asd.mk (bwD HB.out)
    clear HO_244001
    clear HO_244002
    clear BK235
    clear BK236
    clear BK243
    clear HB
    have HO_244001 := n0_
    have HO_244002 := n1_
    have BK235 := n2_
    have BK236 := n3_
    have BK243 := n4_
    have HB := n5_
    clear n0_ n1_ n2_ n3_ n4_ n5_
    have p247 : 0 ≤ (x4_1 : Int) := odt
    have q247 : x4_1 < (l0_2.length : Int) := odt
    obtain ⟨ad247, A247_0, c247_0, e247, hx247_0, hl247_0, hi247_0⟩ := at_L5 HR0_2.out x4_1 p247 q247
    have hw247_0 := hx247_0
    cases e247
    replace hx247_0 := (HB.out.cell (World.block_lt_of_cell? w _ hx247_0)).trans hx247_0
    have HR247_0 := Asd.mk hi247_0
    have HC247_0 := Asd.mk hl247_0
    clear hi247_0 hl247_0
    replace p247 := eq_true p247
    replace q247 := eq_true q247
    refine start_ (n := 13) (S := fun w' => w'.cell? ⟨gb243, 0, none⟩ = some (.int .i64 a0_0) ∧ w'.cell? ⟨gb243, 1, none⟩ = some (.slice Ao12 y240.length co12) ∧ w'.cell? ⟨gb243, 2, none⟩ = some (u244002) ∧ w'.cell? ⟨gb235, 0, none⟩ = some (.int .i64 a0_0) ∧ w'.cell? ⟨gb235, 1, none⟩ = some (.slice A0_1 l0_1.length c0_1) ∧ w'.cell? ⟨gb235, 2, none⟩ = some (.slice (some ad247) l0_2.length c0_2) ∧ w'.cell? (ad247.add (x4_1).toNat) = some (.slice A247_0 (rd_L5 l0_2 x4_1).length c247_0)) (ds := [12]) #[false, false, false, false, false, false, false, false, false, false, false, false, false] (by kernel_rfl) rfl rfl ⟨(bkC BK243.out 0).trans rfl, (bkC BK243.out 1).trans rfl, (bkC BK243.out 2).trans rfl, (bkC BK235.out 0).trans rfl, (bkC BK235.out 1).trans rfl, (bkC BK235.out 2).trans rfl, ((HB.out.cell (World.block_lt_of_cell? w _ hw247_0)).trans hw247_0)⟩ (fun hHeld => ?_); refine with_tabW spec_l10Copy.tab5 spec_l10Copy.bits5 (fun HT_ HW_ => ?_)
    generalize wr.drew = w23 at HO_244001 HO_244002 BK235 BK236 BK243 HB HR247_0 hx247_0 hHeld ⊢
    refine pure_ (i := 0) (N := some 19) (v := ?_) (a' := ?_) #[true, false, false, false, false, false, false, false, false, false, false, false, false] rfl rfl (any_of HT_.out (by kernel_rfl)) (fun _ _ _ h => h) (Or.inl ⟨by rfl, ?_⟩) ?_ ?_
    rotate_left
    ·intro w'
     go_simp
     with_reducible rfl
    rotate_left
    ·simp only [Act.put, qA, qB, qC, i64_w, i32_w]
     rfl
    refine pure_ (i := 3) (N := some 22) (v := ?_) (a' := ?_) #[true, false, false, true, false, false, false, false, false, false, false, false, false] rfl rfl (any_of HT_.out (by kernel_rfl)) (fun _ _ _ h => h) (Or.inl ⟨by rfl, ?_⟩) ?_ ?_
    rotate_left
    ·intro w'
     go_simp
     with_reducible rfl
    rotate_left
    ·simp only [Act.put, qA, qB, qC, i64_w, i32_w]
     rfl
    refine pure_ (i := 5) (N := some 24) (v := ?_) (a' := ?_) #[true, false, false, true, false, true, false, false, false, false, false, false, false] rfl rfl (any_of HT_.out (by kernel_rfl)) (fun _ _ _ h => h) (Or.inl ⟨by rfl, ?_⟩) ?_ ?_
    rotate_left
    ·intro w'
     go_simp
     with_reducible rfl
    rotate_left
    ·simp only [Act.put, qA, qB, qC, i64_w, i32_w]
     rfl
    refine take_ (i := 1) (N := some 20) (v := ?_) (a' := ?_) #[true, true, false, true, false, true, false, false, false, false, false, false, false] rfl rfl (take_ofW HT_.out HW_.out (by kernel_rfl)) (fun _ _ _ h => h) (Or.inl ⟨by rfl, ?_⟩) hHeld ?_ ?_
    rotate_left
    ·rintro w' ⟨s0, s1, s2, s3, s4, s5, s6⟩
     go_simp
     with_reducible rfl
    rotate_left
    ·simp only [Act.put, qA, qB, qC, i64_w, i32_w]
     rfl
    refine take_ (i := 4) (N := some 23) (v := ?_) (a' := ?_) #[true, true, false, true, true, true, false, false, false, false, false, false, false] rfl rfl (take_ofW HT_.out HW_.out (by kernel_rfl)) (fun _ _ _ h => h) (Or.inl ⟨by rfl, ?_⟩) hHeld ?_ ?_
    rotate_left
    ·rintro w' ⟨s0, s1, s2, s3, s4, s5, s6⟩
     go_simp
     with_reducible rfl
    rotate_left
    ·simp only [Act.put, qA, qB, qC, i64_w, i32_w]
     rfl
    refine pure_ (i := 6) (N := some 25) (v := ?_) (a' := ?_) #[true, true, false, true, true, true, true, false, false, false, false, false, false] rfl rfl (any_of HT_.out (by kernel_rfl)) (fun _ _ _ h => h) (Or.inl ⟨by rfl, ?_⟩) ?_ ?_
    rotate_left
    ·intro w'
     go_simp
     with_reducible rfl
    rotate_left
    ·simp only [Act.put, qA, qB, qC, i64_w, i32_w]
     rfl
    refine take_ (i := 7) (N := some 26) (v := ?_) (a' := ?_) #[true, true, false, true, true, true, true, true, false, false, false, false, false] rfl rfl (take_ofW HT_.out HW_.out (by kernel_rfl)) (fun _ _ _ h => h) (Or.inl ⟨by rfl, ?_⟩) hHeld ?_ ?_
    rotate_left
    ·rintro w' ⟨s0, s1, s2, s3, s4, s5, s6⟩
     go_simp
     with_reducible rfl
    rotate_left
    ·simp only [Act.put, qA, qB, qC, i64_w, i32_w]
     rfl
    refine one_ (i := 2) (N := some 21) #[true, true, true, true, true, true, true, true, false, false, false, false, false] rfl rfl (one_of HT_.out (by kernel_rfl)) (by decide) (fun K hK => ?_)
    refine Kd.R_lit_step (Kd.int .i64) _ 3 ?hg (N := 21) ?hd (xs := ([] : List Int)) (inner := []) (ok := fun _ => True) (okp := fun _ => True) ?hr ?hp (fun _ hk => hk) trivial (Below.refl _ _) (Nat.le_refl _) (by simp) ?_; (case hd => rfl); (case hg => rfl); (case hr => first | (go_simp; done) | (go_simp; rfl)); (case hp => exact (Reps.none _ _))
    intro v245 w24 ho25 hb hg_ hnew_
    clear hg_ hnew_
    (first | rw [← Ny244.out] at ho25 | (simp only [Int.reduceToNat] at ho25; rw [← Ny244.out] at ho25))
    have n0_ := Asd.mk (Kd.R_elder' (by (repeat apply Kd.RS); exact HO_244001.out) (Kd.R_base ho25) hb)
    have n1_ := Asd.mk (Kd.S_elder' (by (repeat apply Kd.SS); exact HO_244002.out) (Kd.R_base ho25) hb)
    have n2_ := Asd.mk (Kd.R_lower (Kd.R_new' ho25 (Kd.R_lt (by (repeat apply Kd.RS); exact HO_244001.out))) (below_size (by repeat (with_reducible first | exact HB.out | apply bwX | refine bwS ?_ aX))))
    have n3_ := Asd.mk (bkB (g := gb235) (o := .cells #[.int .i64 a0_0, .slice A0_1 l0_1.length c0_1, .slice (some ad247) l0_2.length c0_2] 58 (0, 0)) (by (repeat apply bkS); exact BK235.out) hb)
    have n4_ := Asd.mk (bkB (g := gb236) (o := .cells #[.int .i64 0, .slice none 0 0, .slice none 0 0] 58 (0, 0)) (by (repeat apply bkS); exact BK236.out) hb)
    have n5_ := Asd.mk (bkB (g := gb243) (o := .cells #[.int .i64 a0_0, .slice Ao12 y240.length co12, u244002] 58 (0, 0)) (by (repeat apply bkS); exact BK243.out) hb)
    have n6_ := Asd.mk (bwP (by repeat (with_reducible first | exact HB.out | apply bwX | refine bwS ?_ aX)) hb)
    clear HO_244001
    clear HO_244002
    clear BK235
    clear BK236
    clear BK243
    clear HB
    have HO_244001 := n0_
    have HO_244002 := n1_
    have HO246 := n2_
    have BK235 := n3_
    have BK236 := n4_
    have BK243 := n5_
    have HB := n6_
    clear n0_ n1_ n2_ n3_ n4_ n5_ n6_
    clear hb ho25
    refine hK.out _ _ ⟨(bkC BK243.out 0).trans rfl, (bkC BK243.out 1).trans rfl, (bkC BK243.out 2).trans rfl, (bkC BK235.out 0).trans rfl, (bkC BK235.out 1).trans rfl, (bkC BK235.out 2).trans rfl, ((HB.out.cell (World.block_lt_of_cell? w _ hw247_0)).trans hw247_0)⟩ (fun hHeld => ?_)
    clear hK K
    refine norm_ (a' := ?_) ?_ ?_
    rotate_left
    ·show Act.put _ (some 21) _ = _
     simp only [Act.put, qA, qB, qC, i64_w, i32_w]
     rfl
    refine one_ (i := 8) (N := some 27) #[true, true, true, true, true, true, true, true, true, false, false, false, false] rfl rfl (one_of HT_.out (by kernel_rfl)) (by decide) (fun K hK => ?_)
    refine Kd.R_append_rows_step (Kd.int .i64) (w0 := w) w.heap.size (by rfl) (.tmp 21) (.tmp 26) 55 3 (.int .i64 0) 8 rfl Try.underlying55 info3 rfl (by decide) (by omega) v245 y244 (rd_L5 l0_2 x4_1) _ _ _ (fun k_ => some k_ ≠ (.slice Ao12 y240.length co12 : Value).ownBlock) (fun _ => False) rfl rfl ?aO ?aR (fun _ _ h => h) (fun _ h => h.elim) ?aF ?aB ?aS ?aL ?_
    (case aR => repeat (first | exact (Kd.C_below HR247_0.out HB.out) | (with_reducible refine Kd.C_alloc ?_ _) | (with_reducible refine Kd.C_drewN ?_ _) | (with_reducible refine Kd.C_drew ?_)))
    (case aB => exact (by repeat (with_reducible first | exact HB.out | apply bwX | refine bwS ?_ aX)))
    (case aF => exact (fun k_ hk => Kd.fresh' (Kd.R_lt (by (repeat apply Kd.RS); exact HO_244001.out)) k_ hk))
    (case aO => exact (by (repeat apply Kd.RS); exact Kd.R_mono HO246.out (fun _ hk => hk.2)))
    (case aS => exact (below_size (by repeat (with_reducible first | exact HB.out | apply bwX | refine bwS ?_ aX))))
    (case aL => have := LMc18.out; omega)
    intro v249 w26 ho hb hg hat
    rw [← Ny248.out] at ho
    have n0_ := Asd.mk (Kd.R_after (ok := (fun _ => True)) (by (repeat apply Kd.RS); exact HO_244001.out) hg hat)
    have n1_ := Asd.mk (Kd.S_after (ok := (fun k_ => some k_ ≠ (.slice Ao12 y240.length co12 : Value).ownBlock)) (by (repeat apply Kd.SS); exact HO_244002.out) hg hat)
    have n2_ := Asd.mk (blk_grown (g := gb235) (o := .cells #[.int .i64 a0_0, .slice A0_1 l0_1.length c0_1, .slice (some ad247) l0_2.length c0_2] 58 (0, 0)) (by (repeat apply bkS); exact BK235.out) hg (Kd.R_ne HO246.out BK235.out (by decide)))
    have n3_ := Asd.mk (blk_grown (g := gb236) (o := .cells #[.int .i64 0, .slice none 0 0, .slice none 0 0] 58 (0, 0)) (by (repeat apply bkS); exact BK236.out) hg (Kd.R_ne HO246.out BK236.out (by decide)))
    have n4_ := Asd.mk (blk_grown (g := gb243) (o := .cells #[.int .i64 a0_0, .slice Ao12 y240.length co12, u244002] 58 (0, 0)) (by (repeat apply bkS); exact BK243.out) hg (Kd.R_ne HO246.out BK243.out (by decide)))
    have n5_ := Asd.mk (hb)
    have n6_ := Asd.mk (ho)
    clear HO_244001
    clear HO_244002
    clear BK235
    clear BK236
    clear BK243
    clear HB
    clear HO246
    have HO_244001 := n0_
    have HO_244002 := n1_
    have BK235 := n2_
    have BK236 := n3_
    have BK243 := n4_
    have HB := n5_
    have HO250 := n6_
    clear n0_ n1_ n2_ n3_ n4_ n5_ n6_
    clear ho hb hg hat
    obtain ⟨Ao28, co28, eo28⟩ := Kd.R_slice HO250.out
    (first | subst eo28 | (injection eo28 with f1_ f2_ f3_; have f4_ := f1_.symm; have f5_ := f3_.symm; clear f1_ f2_ f3_; subst f4_; subst f5_))
    refine hK.out _ _ ⟨(bkC BK243.out 0).trans rfl, (bkC BK243.out 1).trans rfl, (bkC BK243.out 2).trans rfl, (bkC BK235.out 0).trans rfl, (bkC BK235.out 1).trans rfl, (bkC BK235.out 2).trans rfl, ((HB.out.cell (World.block_lt_of_cell? w _ hw247_0)).trans hw247_0)⟩ (fun hHeld => ?_)
    clear hK K
    refine norm_ (a' := ?_) ?_ ?_
    rotate_left
    ·show Act.put _ (some 27) _ = _
     simp only [Act.put, qA, qB, qC, i64_w, i32_w]
     rfl
    refine one_ (i := 9) (N := some 28) #[true, true, true, true, true, true, true, true, true, true, false, false, false] rfl rfl (one_of HT_.out (by kernel_rfl)) (by decide) (fun K hK => ?_)
    refine value_ (w1 := ?_) (v := ?_) (by rfl) rfl ?_ ?_
    rotate_left 2
    ·go_simp
     constructor
     ·rfl
     ·rfl
    refine hK.out _ _ ⟨(bkC (bkA BK243.out _) 0).trans rfl, (bkC (bkA BK243.out _) 1).trans rfl, (bkC (bkA BK243.out _) 2).trans rfl, (bkC (bkA BK235.out _) 0).trans rfl, (bkC (bkA BK235.out _) 1).trans rfl, (bkC (bkA BK235.out _) 2).trans rfl, (World.cell?_alloc_lt _ _ _ (World.block_lt_of_cell? _ _ (((HB.out.cell (World.block_lt_of_cell? w _ hw247_0)).trans hw247_0)))).trans (((HB.out.cell (World.block_lt_of_cell? w _ hw247_0)).trans hw247_0))⟩ (fun hHeld => ?_)
    clear hK K
    refine norm_ (a' := ?_) ?_ ?_
    rotate_left
    ·show Act.put _ (some 28) _ = _
     simp only [Act.put, qA, qB, qC, i64_w, i32_w]
     rfl
    refine one_ (i := 10) (N := some 29) #[true, true, true, true, true, true, true, true, true, true, true, false, false] rfl rfl (one_of HT_.out (by kernel_rfl)) (by decide) (fun K hK => ?_)
    refine Kd.S_append_step (Kd.slice 3 (Kd.int .i64)) (w0 := w) w.heap.size (by rfl) (.tmp 20) (.tmp 28) 56 55 (.slice none 0 0) 24 rfl Try.underlying56 info55 rfl (by decide) (by omega) u244002 x244002_1 y248 [.slice Ao28 y248.length co28] (fun k_ => some k_ ≠ (.slice Ao12 y240.length co12 : Value).ownBlock) (fun k_ => some k_ = (.slice Ao28 y248.length co28 : Value).ownBlock) rfl rfl ?aP (fun k_ hk_ => ((Kd.R_mono (ok' := fun k_ => ((fun k_ => some k_ ≠ (.slice Ao12 y240.length co12 : Value).ownBlock)) k_ ∧ some k_ ≠ (u244002 : Value).ownBlock) (Kd.R_apart' (HO250.out) (Kd.S_typed HO_244002.out) (by decide)) (fun k_ hk => ⟨hk.1, hk.2⟩))).1 k_ hk_.symm) ?aF ?aO ?aB ?aS ?aL ?_
    (case aP => exact Kd.M_row (Kd.R_mono (Kd.R_tight rfl (Kd.R_mono (ok' := fun k_ => ((fun k_ => some k_ ≠ (.slice Ao12 y240.length co12 : Value).ownBlock)) k_ ∧ some k_ ≠ (u244002 : Value).ownBlock) (Kd.R_apart' (HO250.out) (Kd.S_typed HO_244002.out) (by decide)) (fun k_ hk => ⟨hk.1, hk.2⟩))) (fun _ h_ => h_)))
    (case aB => exact (by repeat (with_reducible first | exact HB.out | apply bwX | refine bwS ?_ aX)))
    (case aF => exact (fun k_ hk => Kd.fresh' (Kd.R_lt (by (repeat apply Kd.RS); exact HO_244001.out)) k_ hk))
    (case aO => exact (by (repeat apply Kd.SS); exact Kd.S_mono HO_244002.out (fun k_ hk => ⟨hk.1, fun e_ => hk.2 e_⟩)))
    (case aS => exact (below_size (by repeat (with_reducible first | exact HB.out | apply bwX | refine bwS ?_ aX))))
    (case aL => have := LMc19.out; omega)
    intro v252 w27 ho hb hg hat
    rw [← Ny251.out] at ho
    have n0_ := Asd.mk (Kd.R_over' (by (repeat apply Kd.RS); exact HO_244001.out) (Kd.S_typed (by (repeat apply Kd.SS); exact HO_244002.out)) (by decide) hg)
    have n1_ := Asd.mk (blk_grown (g := gb235) (o := .cells #[.int .i64 a0_0, .slice A0_1 l0_1.length c0_1, .slice (some ad247) l0_2.length c0_2] 58 (0, 0)) (by (repeat apply bkS); exact BK235.out) hg (Kd.S_ne HO_244002.out BK235.out (by decide)))
    have n2_ := Asd.mk (blk_grown (g := gb236) (o := .cells #[.int .i64 0, .slice none 0 0, .slice none 0 0] 58 (0, 0)) (by (repeat apply bkS); exact BK236.out) hg (Kd.S_ne HO_244002.out BK236.out (by decide)))
    have n3_ := Asd.mk (blk_grown (g := gb243) (o := .cells #[.int .i64 a0_0, .slice Ao12 y240.length co12, u244002] 58 (0, 0)) (by (repeat apply bkS); exact BK243.out) hg (Kd.S_ne HO_244002.out BK243.out (by decide)))
    have n4_ := Asd.mk (hb)
    have n5_ := Asd.mk (ho)
    clear HO_244001
    clear BK235
    clear BK236
    clear BK243
    clear HB
    clear HO_244002
    clear HO250
    have HO_244001 := n0_
    have BK235 := n1_
    have BK236 := n2_
    have BK243 := n3_
    have HB := n4_
    have HO253 := n5_
    clear n0_ n1_ n2_ n3_ n4_ n5_
    clear ho hb hg hat
    obtain ⟨Ao29, co29, eo29⟩ := Kd.S_slice HO253.out
    (first | subst eo29 | (injection eo29 with f1_ f2_ f3_; have f4_ := f1_.symm; have f5_ := f3_.symm; clear f1_ f2_ f3_; subst f4_; subst f5_))
    refine hK.out _ _ ⟨(bkC BK243.out 0).trans rfl, (bkC BK243.out 1).trans rfl, (bkC BK243.out 2).trans rfl, (bkC BK235.out 0).trans rfl, (bkC BK235.out 1).trans rfl, (bkC BK235.out 2).trans rfl, ((HB.out.cell (World.block_lt_of_cell? w _ hw247_0)).trans hw247_0)⟩ (fun hHeld => ?_)
    clear hK K
    refine norm_ (a' := ?_) ?_ ?_
    rotate_left
    ·show Act.put _ (some 29) _ = _
     simp only [Act.put, qA, qB, qC, i64_w, i32_w]
     rfl
    refine pure_ (i := 11) (N := some 30) (v := ?_) (a' := ?_) #[true, true, true, true, true, true, true, true, true, true, true, true, false] rfl rfl (any_of HT_.out (by kernel_rfl)) (fun _ _ _ h => h) (Or.inl ⟨by rfl, ?_⟩) ?_ ?_
    rotate_left
    ·intro w'
     go_simp
     with_reducible rfl
    rotate_left
    ·simp only [Act.put, qA, qB, qC, i64_w, i32_w]
     rfl
    refine last_ (i := 12) (N := none) #[true, true, true, true, true, true, true, true, true, true, true, true, true] rfl rfl (one_of HT_.out (by kernel_rfl)) (by decide) (fun K hK => ?_)
    have hs30 : w27.cell? ⟨gb243, 2, none⟩ = some (u244002) := (bkC BK243.out 2).trans rfl
    have hfs30 := bkF BK243.out 2
    have hns30_0 := NB235_243.out
    have hns30_1 := NB236_243.out
    have hms30_0 := NB243_235.out
    have hms30_1 := NB243_236.out
    refine skip_ (w1 := ?_) (by rfl) rfl ?_ ?_
    rotate_left
    ·go_simp
     rfl
    refine hK.out _ _ ?_
    clear hK K
    refine done_ (done_of HT_.out (by kernel_rfl)) ?_
    try go_wp2
    go_roundg k1
    case measure => have := HK1.out; omega
    case rel => exact ⟨(wrap64 (x4_1 + 1)), (y251), (.slice Ao29 y251.length co29), (by first | rfl | (simp; done) | (simp [*]; done)), H', ⟨by have := HK1.out; omega⟩, ⟨by (repeat apply Kd.RS); exact Kd.R_mono (Kd.R_far (p := ⟨gb243, 2, none⟩) (Kd.R_types HO_244001.out BK243.out (by decide)) (fun _ hk => hk.2) (.slice Ao29 y251.length co29)) (fun _ hk => trivial)⟩, ⟨by (repeat apply Kd.SS); exact Kd.S_mono (Kd.S_far (p := ⟨gb243, 2, none⟩) (Kd.S_types HO253.out BK243.out (by decide)) (fun _ hk => hk.2) (.slice Ao29 y251.length co29)) (fun _ hk => hk.1)⟩, ⟨by (repeat apply bkS); refine bkR ?_ NB235_243.out _; (repeat apply bkS); exact BK235.out⟩, ⟨by (repeat apply bkS); refine bkR ?_ NB236_243.out _; (repeat apply bkS); exact BK236.out⟩, ⟨by (repeat apply bkS); refine bkP (cs := #[.int .i64 a0_0, .slice Ao12 y240.length co12, u244002]) ?_ 2 _ rfl; (repeat apply bkS); exact BK243.out⟩, ⟨by repeat (with_reducible first | exact HB.out | apply bwX | refine bwS ?_ aX)⟩⟩
   ·rw [if_neg c16] at H
    have c16b0 : decide (x4_1 < (l0_2.length : Int)) = false := decide_eq_false c16
    clear c16
    simp only [Option.some.injEq, Prod.mk.injEq] at H
    obtain ⟨rfl, rfl, rfl⟩ := H
    have hnb31 := NB235_236.out
    have hnc31 := NB236_235.out
    have hnb32 := NB235_243.out
    have hnc32 := NB243_235.out
    have hcz33_0 : wr.cell? ⟨gb235, 0, none⟩ = some (.int .i64 a0_0) := (bkC BK235.out 0).trans rfl
    have hcz33_1 : wr.cell? ⟨gb235, 1, none⟩ = some (.slice A0_1 l0_1.length c0_1) := (bkC BK235.out 1).trans rfl
    have hcz33_2 : wr.cell? ⟨gb235, 2, none⟩ = some (.slice A0_2 l0_2.length c0_2) := (bkC BK235.out 2).trans rfl
    have hfz33_0 := bkF BK235.out 0
    have hfz33_1 := bkF BK235.out 1
    have hfz33_2 := bkF BK235.out 2
    have hnb34 := NB243_236.out
    have hnc34 := NB236_243.out
    have hcz35_0 : wr.cell? ⟨gb243, 0, none⟩ = some (.int .i64 a0_0) := (bkC BK243.out 0).trans rfl
    have hcz35_1 : wr.cell? ⟨gb243, 1, none⟩ = some (.slice Ao12 y240.length co12) := (bkC BK243.out 1).trans rfl
    have hcz35_2 : wr.cell? ⟨gb243, 2, none⟩ = some (u244002) := (bkC BK243.out 2).trans rfl
    have hfz35_0 := bkF BK243.out 0
    have hfz35_1 := bkF BK243.out 1
    have hfz35_2 := bkF BK243.out 2
    have hcz36_0 : wr.cell? ⟨gb236, 0, none⟩ = some (.int .i64 0) := (bkC BK236.out 0).trans rfl
    have hcz36_1 : wr.cell? ⟨gb236, 1, none⟩ = some (.slice none 0 0) := (bkC BK236.out 1).trans rfl
    have hcz36_2 : wr.cell? ⟨gb236, 2, none⟩ = some (.slice none 0 0) := (bkC BK236.out 2).trans rfl
    have hfz36_0 := bkF BK236.out 0
    have hfz36_1 := bkF BK236.out 1
    have hfz36_2 := bkF BK236.out 2
    obtain ⟨Ao37, co37, eo37⟩ := Kd.S_slice HO_244002.out
    subst eo37
    go_wp2
    refine bodyPost_ret (results_cell_row rfl _ _ gb236 58 #[.int .i64 a0_0, .slice Ao12 y240.length co12, .slice Ao37 x244002_1.length co37] (0, 0) _ rfl (by (repeat apply bkS); refine bkP (cs := #[.int .i64 a0_0, .slice Ao12 y240.length co12, .slice none 0 0]) ?_ 2 _ rfl; (repeat apply bkS); refine bkP (cs := #[.int .i64 a0_0, .slice none 0 0, .slice none 0 0]) ?_ 1 _ rfl; (repeat apply bkS); refine bkP (cs := #[.int .i64 0, .slice none 0 0, .slice none 0 0]) ?_ 0 _ rfl; (repeat apply bkS); exact BK236.out) Try.underlying58 rfl (by kernel_rfl)) rfl ?_
    exact ⟨_, _, by first | rfl | (simp [*, errW_none, errW_some] <;> rfl), by (repeat apply Kd.RS); exact Kd.R_mono (Kd.R_far (p := ⟨gb236, 2, none⟩) (Kd.R_far (p := ⟨gb236, 1, none⟩) (Kd.R_far (p := ⟨gb236, 0, none⟩) (Kd.R_types HO_244001.out BK236.out (by decide)) (fun _ hk => hk.2) (.int .i64 a0_0)) (fun _ hk => hk.2) (.slice Ao12 y240.length co12)) (fun _ hk => hk.2) (.slice Ao37 x244002_1.length co37)) (fun _ hk => trivial), by (repeat apply Kd.SS); exact Kd.S_mono (Kd.S_far (p := ⟨gb236, 2, none⟩) (Kd.S_far (p := ⟨gb236, 1, none⟩) (Kd.S_far (p := ⟨gb236, 0, none⟩) (Kd.S_types HO_244002.out BK236.out (by decide)) (fun _ hk => hk.2) (.int .i64 a0_0)) (fun _ hk => hk.2) (.slice Ao12 y240.length co12)) (fun _ hk => hk.2) (.slice Ao37 x244002_1.length co37)) (fun _ hk => hk.1), by repeat (with_reducible first | exact HB.out | apply bwX | refine bwS ?_ aX)⟩

/-! ### spec_SetOk: function 132 -/
def spec_SetOk.f (a0 : Int) (a1 : Int) : Option (Bool) := (spec_l1In.f a0 1 3).bind fun t254 => (if t254 = true then ((spec_l1All.f a0).bind fun t255 => ((spec_l1In.f a1 0 t255).bind fun t256 => (some t256))) else (some false))
set_option maxHeartbeats 8000000 in
set_option maxRecDepth 100000 in
theorem spec_SetOk.calls (a0 : Int) (a1 : Int) (r : Bool) (w : World) (h : spec_SetOk.f a0 a1 = some r) :
  Calls Try.prog 132 #[.int .i64 a0, .int .i64 a1] w fun e w' => e = .returned (.bool r) ∧ Drawn0 w w' := by
 have H : ((spec_l1In.f a0 1 3).bind fun t254 => (if t254 = true then ((spec_l1All.f a0).bind fun t255 => ((spec_l1In.f a1 0 t255).bind fun t256 => (some t256))) else (some false))) = some r := h
 clear h
 replace H := Option.bind_eq_some_iff.mp H
 obtain ⟨t254, A30, H⟩ := H
 try dsimp only at H
 have A3 := Asd.mk A30
 clear A30
 by_cases c4 : t254 = true
 ·subst c4
  rw [if_pos rfl] at H
  replace H := Option.bind_eq_some_iff.mp H
  obtain ⟨t255, A50, H⟩ := H
  try dsimp only at H
  have A5 := Asd.mk A50
  clear A50
  replace H := Option.bind_eq_some_iff.mp H
  obtain ⟨t256, A60, H⟩ := H
  try dsimp only at H
  have A6 := Asd.mk A60
  clear A60
  obtain rfl := Option.some.inj H
  go_enter Try.func132, Try.ntmps132
  go_wp2_with (first | ((with_reducible refine gate_callee (f := 72) rfl ?_); refine gsM (some 6) rfl rfl Try.func72 (by kernel_rfl) rfl #[.int .i64 a0, .int .i64 1, .int .i64 3] rfl ?_; (with_reducible refine (spec_l1In.calls a0 1 3 true _ A3.out).mono ?_); rintro e w' ⟨rfl, ⟨nd, rfl⟩⟩; refine ⟨_, rfl, ?_⟩) | (go_at_call 140; (with_reducible refine (spec_l1All.calls a0 t255 _ A5.out).mono ?_); rintro e w' ⟨rfl, ⟨nd, rfl⟩⟩) | (go_at_call 72; (with_reducible refine (spec_l1In.calls a1 0 t255 t256 _ A6.out).mono ?_); rintro e w' ⟨rfl, ⟨nd, rfl⟩⟩))
  go_ret
  exact ⟨by first | rfl | (simp; done) | (simp [*]; done), by repeat (first | exact Drawn0.refl _ | apply Drawn0.step)⟩
 ·replace c4 := Bool.eq_false_iff.mpr c4
  subst c4
  rw [if_neg (show ¬ (false = true) by decide)] at H
  obtain rfl := Option.some.inj H
  go_enter Try.func132, Try.ntmps132
  go_wp2_with (first | ((with_reducible refine gate_callee (f := 72) rfl ?_); refine gsM (some 6) rfl rfl Try.func72 (by kernel_rfl) rfl #[.int .i64 a0, .int .i64 1, .int .i64 3] rfl ?_; (with_reducible refine (spec_l1In.calls a0 1 3 false _ A3.out).mono ?_); rintro e w' ⟨rfl, ⟨nd, rfl⟩⟩; refine ⟨_, rfl, ?_⟩))
  go_ret
  exact ⟨by first | rfl | (simp; done) | (simp [*]; done), by repeat (first | exact Drawn0.refl _ | apply Drawn0.step)⟩

end Go.Proofs.Ytihgpkohglcijaa.P
