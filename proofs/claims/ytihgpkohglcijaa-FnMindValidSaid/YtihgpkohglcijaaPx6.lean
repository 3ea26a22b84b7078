-- Written by a program of this session (wip/hook.py), which runs the kit's printer; Lean checks it.
import Derived.Test.YtihgpkohglcijaaPx0
import Derived.Test.YtihgpkohglcijaaPx2
import Derived.Test.YtihgpkohglcijaaPx4
namespace Go.Proofs.Ytihgpkohglcijaa.P
open Go.RowKit Go.Proofs.YtihgpkohglcijaaW.PrintWords Go.Proofs.YtihgpkohglcijaaW.PrintLast Go.Proofs.YtihgpkohglcijaaW.PrintMore
attribute [local go_sem] max2_int min2_int max_two min_two max_three min_three max_four min_four   -- for this text's walks alone
set_option linter.unusedVariables false
set_option linter.unusedSimpArgs false

/-! ### spec_l10Copy: function 107 -/
def spec_l10Copy.l0 : Nat → Int → Int → List Int → List (List Int) → Int → List Int → List (List Int) → Option (Int × List Int × (List (List Int)))
 | 0, _, _, _, _, _, _, _ => none
 | k + 1, x4, x198000, x198001, x198002, x206000, x206001, x206002 => if x4 < (x198002.length : Int) then ((some (([] : List Int) : List Int)).bind fun y206 => (if 0 ≤ x4 then (if y206.length + (rd_L1 x198002 x4).length < 17592186044416 then (if x206002.length < 5864062014805 then (spec_l10Copy.l0 k (wrap64 (x4 + 1)) x198000 x198001 x198002 x206000 x206001 (x206002 ++ [(y206 ++ (rd_L1 x198002 x4))])) else (none)) else (none)) else (none))) else (some (x206000, x206001, x206002))
def spec_l10Copy.f (k : Nat) (a0_0 : Int) (l0_1 : List Int) (l0_2 : List (List Int)) : Option (Int × List Int × (List (List Int))) := (some (([] : List Int) : List Int)).bind fun y199 => (if y199.length + l0_1.length < 17592186044416 then (spec_l10Copy.l0 k 0 a0_0 l0_1 l0_2 a0_0 (y199 ++ l0_1) ([] : List (List Int))) else (none))
theorem spec_l10Copy.mono_l : ∀ k, (∀ y0 y1 y2 y3 y4 y5 y6, LeO (spec_l10Copy.l0 k y0 y1 y2 y3 y4 y5 y6) (spec_l10Copy.l0 (k + 1) y0 y1 y2 y3 y4 y5 y6))
 | 0 => fun _ _ _ _ _ _ _ r h => by simp [spec_l10Copy.l0] at h
 | k + 1 => by
  have ih0 := spec_l10Copy.mono_l k
  ·intro y0 y1 y2 y3 y4 y5 y6
   unfold spec_l10Copy.l0
   repeat' first
   | (with_reducible exact ih0 _ _ _ _ _ _ _)
   | (with_reducible exact LeO.refl _)
   | (with_reducible exact LeO.none _)
   | (with_reducible refine LeO.ite ?_ ?_)
   | (with_reducible refine LeO.bind ?_ (fun _ => ?_))
   | refine LeO.ite ?_ ?_
   | refine LeO.bind ?_ (fun _ => ?_)
theorem spec_l10Copy.mono : ∀ a0 a1 a2 k, LeO (spec_l10Copy.f k a0 a1 a2) (spec_l10Copy.f (k + 1) a0 a1 a2) := by
 intro a0 a1 a2 k
 have ih0 := spec_l10Copy.mono_l k
 unfold spec_l10Copy.f
 repeat' first
   | (with_reducible exact ih0 _ _ _ _ _ _ _)
   | (with_reducible exact LeO.refl _)
   | (with_reducible exact LeO.none _)
   | (with_reducible refine LeO.ite ?_ ?_)
   | (with_reducible refine LeO.bind ?_ (fun _ => ?_))
   | refine LeO.ite ?_ ?_
   | refine LeO.bind ?_ (fun _ => ?_)
def spec_l10Copy.T1 : Bool × List (List Nat × List Nat) := (true, [([], []), ([0], [0]), ([], []), ([], []), ([3], [3]), ([2, 4], [2, 4]), ([1, 5], [1, 5]), ([], []), ([7, 6, 5, 0, 1, 2, 3, 4, 5, 6, 7], [6, 7])])
def spec_l10Copy.B1 : List Nat := [0, 1, 0, 0, 8, 28, 63, 0, 255]
theorem spec_l10Copy.tab1 : rtab .any (opsOf Try.f107 1) = spec_l10Copy.T1 := by kernel_rfl
theorem spec_l10Copy.bits1 : waitsOk spec_l10Copy.T1.2 spec_l10Copy.B1 = true := by kernel_rfl
def spec_l10Copy.T5 : Bool × List (List Nat × List Nat) := (true, [([], []), ([0], [0]), ([], []), ([], []), ([3], [3]), ([], []), ([4, 5], [4, 5]), ([6], [6]), ([2, 7], [2, 7]), ([8], [8]), ([1, 9, 8], [1, 9]), ([0, 1, 2, 3, 4, 5, 6, 7, 8, 9, 10], []), ([11, 10, 10, 0, 1, 2, 3, 4, 5, 6, 7, 8, 9, 10], [10, 11])])
def spec_l10Copy.B5 : List Nat := [0, 1, 0, 0, 8, 0, 56, 120, 252, 508, 1023, 2047, 4095]
theorem spec_l10Copy.tab5 : rtab .any (opsOf Try.f107 5) = spec_l10Copy.T5 := by kernel_rfl
theorem spec_l10Copy.bits5 : waitsOk spec_l10Copy.T5.2 spec_l10Copy.B5 = true := by kernel_rfl
set_option maxHeartbeats 8000000 in
set_option maxRecDepth 100000 in
theorem spec_l10Copy.calls (k : Nat) (a0_0 : Int) (A0_1 : Option Addr) (c0_1 : Nat) (l0_1 : List Int) (A0_2 : Option Addr) (c0_2 : Nat) (l0_2 : List (List Int)) (r1 : Int) (r2 : List Int) (r3 : List (List Int)) (w : World) (hr0_1 : Kd.C (Kd.int .i64) w A0_1 l0_1.length l0_1) (hc0_1 : l0_1.length ≤ c0_1) (hr0_2 : Kd.C (Kd.slice 3 (Kd.int .i64)) w A0_2 l0_2.length l0_2) (hc0_2 : l0_2.length ≤ c0_2) (h : spec_l10Copy.f k a0_0 l0_1 l0_2 = some (r1, r2, r3)) :
  Calls Try.prog 107 #[.agg #[.int .i64 a0_0, .slice A0_1 l0_1.length c0_1, .slice A0_2 l0_2.length c0_2]] w fun e w' => ∃ v1_ v2_ : Value, e = .returned (.agg #[.int .i64 r1, v1_, v2_]) ∧ Kd.R (Kd.int .i64) 3 w' w.heap.size (fun _ => True) v1_ r2 ∧ Kd.S (Kd.slice 3 (Kd.int .i64)) 55 w' w.heap.size (fun k_ => some k_ ≠ (v1_ : Value).ownBlock) v2_ r3 ∧ Below w.heap.size w w' := by
 have hu58 := Try.underlying58
 have HR0_1 := Asd.mk hr0_1
 have HC0_1 := Asd.mk hc0_1
 clear hr0_1 hc0_1
 have HR0_2 := Asd.mk hr0_2
 have HC0_2 := Asd.mk hc0_2
 clear hr0_2 hc0_2
 have HB := Asd.mk (Below.refl w.heap.size w)
 have H : ((some (([] : List Int) : List Int)).bind fun y199 => (if y199.length + l0_1.length < 17592186044416 then (spec_l10Copy.l0 k 0 a0_0 l0_1 l0_2 a0_0 (y199 ++ l0_1) ([] : List (List Int))) else (none))) = some (r1, r2, r3) := h
 clear h
 obtain ⟨y199, hy199⟩ : ∃ y_ : List Int, y_ = (([] : List Int)) := ⟨_, rfl⟩
 replace H : (if y199.length + l0_1.length < 17592186044416 then (spec_l10Copy.l0 k 0 a0_0 l0_1 l0_2 a0_0 (y199 ++ l0_1) ([] : List (List Int))) else (none)) = some (r1, r2, r3) := by first | (rw [hy199]; with_reducible exact H) | (have H2_ := (Option.bind_some _ _).symm.trans H; rw [hy199]; with_reducible exact H2_) | (have H2_ := (Option.bind_some _ _).symm.trans H; with_reducible exact H2_) | with_reducible exact H | (rw [hy199]; exact H) | exact H
 have Ny199 := Asd.mk hy199
 clear hy199
 by_cases c2 : y199.length + l0_1.length < 17592186044416; rotate_left; (rw [if_neg c2] at H; exact absurd H (by simp))
 rw [if_pos c2] at H
 have LMc2 := Asd.mk c2
 clear c2
 obtain ⟨y202, hy202⟩ : ∃ y_ : List Int, y_ = (y199 ++ l0_1) := ⟨_, rfl⟩
 replace H : (spec_l10Copy.l0 k 0 a0_0 l0_1 l0_2 a0_0 y202 ([] : List (List Int))) = some (r1, r2, r3) := by first | (rw [hy202]; with_reducible exact H) | (have H2_ := (Option.bind_some _ _).symm.trans H; rw [hy202]; with_reducible exact H2_) | (have H2_ := (Option.bind_some _ _).symm.trans H; with_reducible exact H2_) | with_reducible exact H | (rw [hy202]; exact H) | exact H
 have Ny202 := Asd.mk hy202
 clear hy202
 have H' := Asd.mk H
 clear H
 go_enter Try.func107, Try.ntmps107
 try go_wp2_with (first | ((with_reducible refine gate_dst (N := 1) rfl ?_); refine bxE ?hg (N := 1) ?hd (cs := #[.int .i64 a0_0, .slice A0_1 l0_1.length c0_1, .slice A0_2 l0_2.length c0_2]) (t := 58) ?hr ?_; (case hd => rfl); (case hg => rfl); (case hr => first | (go_simp; done) | (go_simp; rfl)); intro gb197 hg w3 hbox hb; have n0_ := Asd.mk (bwP (by repeat (with_reducible first | exact HB.out | apply bwX)) hb); have n1_ := Asd.mk (hbox); have n2_ := Asd.mk ((by rw [hg]; exact (below_size (by repeat (with_reducible first | exact HB.out | apply bwX))) : w.heap.size ≤ gb197)); have n3_ := Asd.mk ((by rw [hg]; exact (below_size (by repeat (with_reducible first | exact HB.out | apply bwX))) : w.heap.size ≤ gb197)); clear HB; have HB := n0_; have BK197 := n1_; have GW197 := n2_; have GE197 := n3_; clear n0_ n1_ n2_ n3_; clear hb hbox hg) | ((with_reducible refine gate_dst (N := 2) rfl ?_); refine bxE ?hg (N := 2) ?hd (cs := #[.int .i64 0, .slice none 0 0, .slice none 0 0]) (t := 58) ?hr ?_; (case hd => rfl); (case hg => rfl); (case hr => first | (go_simp; done) | (go_simp; rfl)); intro gb198 hg w4 hbox hb; have n0_ := Asd.mk (bkB (g := gb197) (o := .cells #[.int .i64 a0_0, .slice A0_1 l0_1.length c0_1, .slice A0_2 l0_2.length c0_2] 58 (0, 0)) (by (repeat apply bkS); exact BK197.out) hb); have n1_ := Asd.mk (bwP (by repeat (with_reducible first | exact HB.out | apply bwX | refine bwS ?_ GE197.out)) hb); have n2_ := Asd.mk (hbox); have n3_ := Asd.mk ((by rw [hg]; exact (below_size (by repeat (with_reducible first | exact HB.out | apply bwX | refine bwS ?_ GE197.out))) : w.heap.size ≤ gb198)); have n4_ := Asd.mk ((by rw [hg]; exact (below_size (by repeat (with_reducible first | exact HB.out | apply bwX | refine bwS ?_ GE197.out))) : w.heap.size ≤ gb198)); have n5_ := Asd.mk ((by rw [hg]; exact Nat.ne_of_lt (bkL (g := gb197) (o := .cells #[.int .i64 a0_0, .slice A0_1 l0_1.length c0_1, .slice A0_2 l0_2.length c0_2] 58 (0, 0)) (by (repeat apply bkS); exact BK197.out)) : gb197 ≠ gb198)); have n6_ := Asd.mk ((by rw [hg]; exact Nat.ne_of_gt (bkL (g := gb197) (o := .cells #[.int .i64 a0_0, .slice A0_1 l0_1.length c0_1, .slice A0_2 l0_2.length c0_2] 58 (0, 0)) (by (repeat apply bkS); exact BK197.out)) : gb198 ≠ gb197)); clear BK197; clear HB; have BK197 := n0_; have HB := n1_; have BK198 := n2_; have GW198 := n3_; have GE198 := n4_; have NB197_198 := n5_; have NB198_197 := n6_; clear n0_ n1_ n2_ n3_ n4_ n5_ n6_; clear hb hbox hg))
 have n0_ := Asd.mk (bkD BK197.out)
 have n1_ := Asd.mk (bkD BK198.out)
 have n2_ := Asd.mk (bwD HB.out)
 clear BK197
 clear BK198
 clear HB
 have BK197 := n0_
 have BK198 := n1_
 have HB := n2_
 clear n0_ n1_ n2_
 refine start_ (n := 9) (S := fun w' => w'.cell? ⟨gb197, 0, none⟩ = some (.int .i64 a0_0) ∧ w'.cell? ⟨gb197, 1, none⟩ = some (.slice A0_1 l0_1.length c0_1) ∧ w'.cell? ⟨gb197, 2, none⟩ = some (.slice A0_2 l0_2.length c0_2)) (ds := []) #[false, false, false, false, false, false, false, false, false] (by kernel_rfl) rfl rfl ⟨(bkC BK197.out 0).trans rfl, (bkC BK197.out 1).trans rfl, (bkC BK197.out 2).trans rfl⟩ (fun hHeld => ?_); refine with_tabW spec_l10Copy.tab1 spec_l10Copy.bits1 (fun HT_ HW_ => ?_)
 generalize w4.drew = w5 at BK197 BK198 HB hHeld ⊢
 refine pure_ (i := 0) (N := some 5) (v := ?_) (a' := ?_) #[true, false, false, false, false, false, false, false, false] rfl rfl (any_of HT_.out (by kernel_rfl)) (fun _ _ _ h => h) (Or.inl ⟨by rfl, ?_⟩) ?_ ?_
 rotate_left
 ·intro w'
  go_simp
  with_reducible rfl
 rotate_left
 ·simp only [Act.put, qA, qB, qC, i64_w, i32_w]
  rfl
 refine pure_ (i := 3) (N := some 8) (v := ?_) (a' := ?_) #[true, false, false, true, false, false, false, false, false] rfl rfl (any_of HT_.out (by kernel_rfl)) (fun _ _ _ h => h) (Or.inl ⟨by rfl, ?_⟩) ?_ ?_
 rotate_left
 ·intro w'
  go_simp
  with_reducible rfl
 rotate_left
 ·simp only [Act.put, qA, qB, qC, i64_w, i32_w]
  rfl
 refine take_ (i := 1) (N := some 6) (v := ?_) (a' := ?_) #[true, true, false, true, false, false, false, false, false] rfl rfl (take_ofW HT_.out HW_.out (by kernel_rfl)) (fun _ _ _ h => h) (Or.inl ⟨by rfl, ?_⟩) hHeld ?_ ?_
 rotate_left
 ·rintro w' ⟨s0, s1, s2⟩
  go_simp
  with_reducible rfl
 rotate_left
 ·simp only [Act.put, qA, qB, qC, i64_w, i32_w]
  rfl
 refine take_ (i := 4) (N := some 9) (v := ?_) (a' := ?_) #[true, true, false, true, true, false, false, false, false] rfl rfl (take_ofW HT_.out HW_.out (by kernel_rfl)) (fun _ _ _ h => h) (Or.inl ⟨by rfl, ?_⟩) hHeld ?_ ?_
 rotate_left
 ·rintro w' ⟨s0, s1, s2⟩
  go_simp
  with_reducible rfl
 rotate_left
 ·simp only [Act.put, qA, qB, qC, i64_w, i32_w]
  rfl
 refine join_ (σ := Value × Value × Nat) 1 #[true, true, true, true, true, true, true, true, false] (fun s_ => [(7, s_.1), (10, s_.2.1), (3, .pointer (some ⟨s_.2.2, 0, none⟩)), (11, .agg #[.int .i64 a0_0, s_.2.1, .slice none 0 0])]) (fun s_ w' => (w'.cell? ⟨gb197, 0, none⟩ = some (.int .i64 a0_0) ∧ w'.cell? ⟨gb197, 1, none⟩ = some (.slice A0_1 l0_1.length c0_1) ∧ w'.cell? ⟨gb197, 2, none⟩ = some (.slice A0_2 l0_2.length c0_2)) ∧ (Kd.R (Kd.int .i64) 3 w' w.heap.size (fun _ => True) s_.2.1 y202) ∧ (w'.heap[gb197]? = some (.cells #[.int .i64 a0_0, .slice A0_1 l0_1.length c0_1, .slice A0_2 l0_2.length c0_2] 58 (0, 0))) ∧ (w'.heap[gb198]? = some (.cells #[.int .i64 0, .slice none 0 0, .slice none 0 0] 58 (0, 0))) ∧ (w'.heap[s_.2.2]? = some (.cells #[.int .i64 0, .slice none 0 0, .slice none 0 0] 58 (0, 0))) ∧ (w.heap.size ≤ s_.2.2) ∧ (w.heap.size ≤ s_.2.2) ∧ (gb197 ≠ s_.2.2) ∧ (s_.2.2 ≠ gb197) ∧ (gb198 ≠ s_.2.2) ∧ (s_.2.2 ≠ gb198) ∧ (Below w.heap.size w w')) ?_ ?_
 rotate_left
 ·intro hCont
  refine two_ (i := 2) (j := 7) (Ni := some 7) (Nj := some 3) #[true, true, true, true, true, false, false, false, false] #[true, true, false, true, true, false, false, true, false] rfl rfl rfl rfl (two_of HT_.out (by kernel_rfl)) (by decide) (by decide) (fun K hK => ?_) (fun K hK => ?_)
  ·skip
   refine Kd.R_lit_step (Kd.int .i64) _ 3 ?hg (N := 7) ?hd (xs := ([] : List Int)) (inner := []) (ok := fun _ => True) (okp := fun _ => True) ?hr ?hp (fun _ hk => hk) trivial (Below.refl _ _) (Nat.le_refl _) (by simp) ?_; (case hd => rfl); (case hg => rfl); (case hr => first | (go_simp; done) | (go_simp; rfl)); (case hp => exact (Reps.none _ _))
   intro v200 w6 ho7 hb hg_ hnew_
   clear hg_ hnew_
   (first | rw [← Ny199.out] at ho7 | (simp only [Int.reduceToNat] at ho7; rw [← Ny199.out] at ho7))
   have n0_ := Asd.mk (Kd.R_lower ho7 (below_size (by repeat (with_reducible first | exact HB.out | apply bwX | refine bwS ?_ GE197.out | refine bwS ?_ GE198.out))))
   have n1_ := Asd.mk (bkB (g := gb197) (o := .cells #[.int .i64 a0_0, .slice A0_1 l0_1.length c0_1, .slice A0_2 l0_2.length c0_2] 58 (0, 0)) (by (repeat apply bkS); exact BK197.out) hb)
   have n2_ := Asd.mk (bkB (g := gb198) (o := .cells #[.int .i64 0, .slice none 0 0, .slice none 0 0] 58 (0, 0)) (by (repeat apply bkS); exact BK198.out) hb)
   have n3_ := Asd.mk (bwP (by repeat (with_reducible first | exact HB.out | apply bwX | refine bwS ?_ GE197.out | refine bwS ?_ GE198.out)) hb)
   clear BK197
   clear BK198
   clear HB
   have HO201 := n0_
   have BK197 := n1_
   have BK198 := n2_
   have HB := n3_
   clear n0_ n1_ n2_ n3_
   clear hb ho7
   refine hK.out _ _ ⟨(bkC BK197.out 0).trans rfl, (bkC BK197.out 1).trans rfl, (bkC BK197.out 2).trans rfl⟩ (fun hHeld => ?_)
   clear hK K
   refine norm_ (a' := ?_) ?_ ?_
   rotate_left
   ·show Act.put _ (some 7) _ = _
    simp only [Act.put, qA, qB, qC, i64_w, i32_w]
    rfl
   refine two_ (i := 5) (j := 7) (Ni := some 10) (Nj := some 3) #[true, true, true, true, true, true, false, false, false] #[true, true, true, true, true, false, false, true, false] rfl rfl rfl rfl (two_of HT_.out (by kernel_rfl)) (by decide) (by decide) (fun K hK => ?_) (fun K hK => ?_)
   ·skip
    refine Kd.R_append_rows_step (Kd.int .i64) (w0 := w) w.heap.size (by rfl) (.tmp 7) (.tmp 9) 55 3 (.int .i64 0) 8 rfl Try.underlying55 info3 rfl (by decide) (by omega) v200 y199 l0_1 _ _ _ (fun _ => True) (fun _ => False) rfl rfl ?aO ?aR (fun _ _ h => h) (fun _ h => h.elim) ?aF ?aB ?aS ?aL ?_
    (case aR => repeat (first | exact (Kd.C_below HR0_1.out HB.out) | (with_reducible refine Kd.C_alloc ?_ _) | (with_reducible refine Kd.C_drewN ?_ _) | (with_reducible refine Kd.C_drew ?_)))
    (case aB => exact (by repeat (with_reducible first | exact HB.out | apply bwX | refine bwS ?_ GE197.out | refine bwS ?_ GE198.out)))
    (case aF => exact (fun _ _ => trivial))
    (case aO => exact (by (repeat apply Kd.RS); exact HO201.out))
    (case aS => exact (below_size (by repeat (with_reducible first | exact HB.out | apply bwX | refine bwS ?_ GE197.out | refine bwS ?_ GE198.out))))
    (case aL => have := LMc2.out; omega)
    intro v203 w8 ho hb hg hat
    rw [← Ny202.out] at ho
    have n0_ := Asd.mk (blk_grown (g := gb197) (o := .cells #[.int .i64 a0_0, .slice A0_1 l0_1.length c0_1, .slice A0_2 l0_2.length c0_2] 58 (0, 0)) (by (repeat apply bkS); exact BK197.out) hg (Kd.R_ne HO201.out BK197.out (by decide)))
    have n1_ := Asd.mk (blk_grown (g := gb198) (o := .cells #[.int .i64 0, .slice none 0 0, .slice none 0 0] 58 (0, 0)) (by (repeat apply bkS); exact BK198.out) hg (Kd.R_ne HO201.out BK198.out (by decide)))
    have n2_ := Asd.mk (hb)
    have n3_ := Asd.mk (ho)
    clear BK197
    clear BK198
    clear HB
    clear HO201
    have BK197 := n0_
    have BK198 := n1_
    have HB := n2_
    have HO204 := n3_
    clear n0_ n1_ n2_ n3_
    clear ho hb hg hat
    obtain ⟨Ao9, co9, eo9⟩ := Kd.R_slice HO204.out
    (first | subst eo9 | (injection eo9 with f1_ f2_ f3_; have f4_ := f1_.symm; have f5_ := f3_.symm; clear f1_ f2_ f3_; subst f4_; subst f5_))
    refine hK.out _ _ ⟨(bkC BK197.out 0).trans rfl, (bkC BK197.out 1).trans rfl, (bkC BK197.out 2).trans rfl⟩ (fun hHeld => ?_)
    clear hK K
    refine norm_ (a' := ?_) ?_ ?_
    rotate_left
    ·show Act.put _ (some 10) _ = _
     simp only [Act.put, qA, qB, qC, i64_w, i32_w]
     rfl
    refine pure_ (i := 6) (N := some 11) (v := ?_) (a' := ?_) #[true, true, true, true, true, true, true, false, false] rfl rfl (any_of HT_.out (by kernel_rfl)) (fun _ _ _ h => h) (Or.inl ⟨by rfl, ?_⟩) ?_ ?_
    rotate_left
    ·intro w'
     go_simp
     with_reducible rfl
    rotate_left
    ·simp only [Act.put, qA, qB, qC, i64_w, i32_w]
     rfl
    refine one_ (i := 7) (N := some 3) #[true, true, true, true, true, true, true, true, false] rfl rfl (one_of HT_.out (by kernel_rfl)) (by decide) (fun K hK => ?_)
    refine box_step ?hg (N := 3) ?hd (cs := #[.int .i64 0, .slice none 0 0, .slice none 0 0]) (t := 58) ?hr ?_; (case hd => rfl); (case hg => rfl); (case hr => first | (go_simp; done) | (go_simp; rfl))
    intro gb205 hg w10 hbox hb
    have n0_ := Asd.mk (Kd.R_below (by (repeat apply Kd.RS); exact HO204.out) hb)
    have n1_ := Asd.mk (bkB (g := gb197) (o := .cells #[.int .i64 a0_0, .slice A0_1 l0_1.length c0_1, .slice A0_2 l0_2.length c0_2] 58 (0, 0)) (by (repeat apply bkS); exact BK197.out) hb)
    have n2_ := Asd.mk (bkB (g := gb198) (o := .cells #[.int .i64 0, .slice none 0 0, .slice none 0 0] 58 (0, 0)) (by (repeat apply bkS); exact BK198.out) hb)
    have n3_ := Asd.mk (bwP (by repeat (with_reducible first | exact HB.out | apply bwX | refine bwS ?_ GE197.out | refine bwS ?_ GE198.out)) hb)
    have n4_ := Asd.mk (hbox)
    have n5_ := Asd.mk ((by rw [hg]; exact (below_size (by repeat (with_reducible first | exact HB.out | apply bwX | refine bwS ?_ GE197.out | refine bwS ?_ GE198.out))) : w.heap.size ≤ gb205))
    have n6_ := Asd.mk ((by rw [hg]; exact (below_size (by repeat (with_reducible first | exact HB.out | apply bwX | refine bwS ?_ GE197.out | refine bwS ?_ GE198.out))) : w.heap.size ≤ gb205))
    have n7_ := Asd.mk ((by rw [hg]; exact Nat.ne_of_lt (bkL (g := gb197) (o := .cells #[.int .i64 a0_0, .slice A0_1 l0_1.length c0_1, .slice A0_2 l0_2.length c0_2] 58 (0, 0)) (by (repeat apply bkS); exact BK197.out)) : gb197 ≠ gb205))
    have n8_ := Asd.mk ((by rw [hg]; exact Nat.ne_of_gt (bkL (g := gb197) (o := .cells #[.int .i64 a0_0, .slice A0_1 l0_1.length c0_1, .slice A0_2 l0_2.length c0_2] 58 (0, 0)) (by (repeat apply bkS); exact BK197.out)) : gb205 ≠ gb197))
    have n9_ := Asd.mk ((by rw [hg]; exact Nat.ne_of_lt (bkL (g := gb198) (o := .cells #[.int .i64 0, .slice none 0 0, .slice none 0 0] 58 (0, 0)) (by (repeat apply bkS); exact BK198.out)) : gb198 ≠ gb205))
    have n10_ := Asd.mk ((by rw [hg]; exact Nat.ne_of_gt (bkL (g := gb198) (o := .cells #[.int .i64 0, .slice none 0 0, .slice none 0 0] 58 (0, 0)) (by (repeat apply bkS); exact BK198.out)) : gb205 ≠ gb198))
    clear HO204
    clear BK197
    clear BK198
    clear HB
    have HO204 := n0_
    have BK197 := n1_
    have BK198 := n2_
    have HB := n3_
    have BK205 := n4_
    have GW205 := n5_
    have GE205 := n6_
    have NB197_205 := n7_
    have NB205_197 := n8_
    have NB198_205 := n9_
    have NB205_198 := n10_
    clear n0_ n1_ n2_ n3_ n4_ n5_ n6_ n7_ n8_ n9_ n10_
    clear hb hbox hg
    refine hK.out _ _ ⟨(bkC BK197.out 0).trans rfl, (bkC BK197.out 1).trans rfl, (bkC BK197.out 2).trans rfl⟩ (fun hHeld => ?_)
    clear hK K
    refine norm_ (a' := ?_) ?_ ?_
    rotate_left
    ·show Act.put _ (some 3) _ = _
     simp only [Act.put, qA, qB, qC, i64_w, i32_w]
     rfl
    exact norm_ (by simp only [putAll, Act.put, qA, qB, qC]) (hCont (v200, .slice Ao9 y202.length co9, gb205) _ ⟨hHeld, (by (repeat apply Kd.RS); exact HO204.out), (by (repeat apply bkS); exact BK197.out), (by (repeat apply bkS); exact BK198.out), (by (repeat apply bkS); exact BK205.out), GW205.out, GE205.out, NB197_205.out, NB205_197.out, NB198_205.out, NB205_198.out, (by repeat (with_reducible first | exact HB.out | apply bwX | refine bwS ?_ GE197.out | refine bwS ?_ GE198.out | refine bwS ?_ GE205.out))⟩)
   ·skip
    refine box_step ?hg (N := 3) ?hd (cs := #[.int .i64 0, .slice none 0 0, .slice none 0 0]) (t := 58) ?hr ?_; (case hd => rfl); (case hg => rfl); (case hr => first | (go_simp; done) | (go_simp; rfl))
    intro gb205 hg w8 hbox hb
    have n0_ := Asd.mk (Kd.R_below (by (repeat apply Kd.RS); exact HO201.out) hb)
    have n1_ := Asd.mk (bkB (g := gb197) (o := .cells #[.int .i64 a0_0, .slice A0_1 l0_1.length c0_1, .slice A0_2 l0_2.length c0_2] 58 (0, 0)) (by (repeat apply bkS); exact BK197.out) hb)
    have n2_ := Asd.mk (bkB (g := gb198) (o := .cells #[.int .i64 0, .slice none 0 0, .slice none 0 0] 58 (0, 0)) (by (repeat apply bkS); exact BK198.out) hb)
    have n3_ := Asd.mk (bwP (by repeat (with_reducible first | exact HB.out | apply bwX | refine bwS ?_ GE197.out | refine bwS ?_ GE198.out)) hb)
    have n4_ := Asd.mk (hbox)
    have n5_ := Asd.mk ((by rw [hg]; exact (below_size (by repeat (with_reducible first | exact HB.out | apply bwX | refine bwS ?_ GE197.out | refine bwS ?_ GE198.out))) : w.heap.size ≤ gb205))
    have n6_ := Asd.mk ((by rw [hg]; exact (below_size (by repeat (with_reducible first | exact HB.out | apply bwX | refine bwS ?_ GE197.out | refine bwS ?_ GE198.out))) : w.heap.size ≤ gb205))
    have n7_ := Asd.mk ((by rw [hg]; exact Nat.ne_of_lt (bkL (g := gb197) (o := .cells #[.int .i64 a0_0, .slice A0_1 l0_1.length c0_1, .slice A0_2 l0_2.length c0_2] 58 (0, 0)) (by (repeat apply bkS); exact BK197.out)) : gb197 ≠ gb205))
    have n8_ := Asd.mk ((by rw [hg]; exact Nat.ne_of_gt (bkL (g := gb197) (o := .cells #[.int .i64 a0_0, .slice A0_1 l0_1.length c0_1, .slice A0_2 l0_2.length c0_2] 58 (0, 0)) (by (repeat apply bkS); exact BK197.out)) : gb205 ≠ gb197))
    have n9_ := Asd.mk ((by rw [hg]; exact Nat.ne_of_lt (bkL (g := gb198) (o := .cells #[.int .i64 0, .slice none 0 0, .slice none 0 0] 58 (0, 0)) (by (repeat apply bkS); exact BK198.out)) : gb198 ≠ gb205))
    have n10_ := Asd.mk ((by rw [hg]; exact Nat.ne_of_gt (bkL (g := gb198) (o := .cells #[.int .i64 0, .slice none 0 0, .slice none 0 0] 58 (0, 0)) (by (repeat apply bkS); exact BK198.out)) : gb205 ≠ gb198))
    clear HO201
    clear BK197
    clear BK198
    clear HB
    have HO201 := n0_
    have BK197 := n1_
    have BK198 := n2_
    have HB := n3_
    have BK205 := n4_
    have GW205 := n5_
    have GE205 := n6_
    have NB197_205 := n7_
    have NB205_197 := n8_
    have NB198_205 := n9_
    have NB205_198 := n10_
    clear n0_ n1_ n2_ n3_ n4_ n5_ n6_ n7_ n8_ n9_ n10_
    clear hb hbox hg
    refine hK.out _ _ ⟨(bkC BK197.out 0).trans rfl, (bkC BK197.out 1).trans rfl, (bkC BK197.out 2).trans rfl⟩ (fun hHeld => ?_)
    clear hK K
    refine norm_ (a' := ?_) ?_ ?_
    rotate_left
    ·show Act.put _ (some 3) _ = _
     simp only [Act.put, qA, qB, qC, i64_w, i32_w]
     rfl
    refine one_ (i := 5) (N := some 10) #[true, true, true, true, true, true, false, true, false] rfl rfl (one_of HT_.out (by kernel_rfl)) (by decide) (fun K hK => ?_)
    refine Kd.R_append_rows_step (Kd.int .i64) (w0 := w) w.heap.size (by rfl) (.tmp 7) (.tmp 9) 55 3 (.int .i64 0) 8 rfl Try.underlying55 info3 rfl (by decide) (by omega) v200 y199 l0_1 _ _ _ (fun _ => True) (fun _ => False) rfl rfl ?aO ?aR (fun _ _ h => h) (fun _ h => h.elim) ?aF ?aB ?aS ?aL ?_
    (case aR => repeat (first | exact (Kd.C_below HR0_1.out HB.out) | (with_reducible refine Kd.C_alloc ?_ _) | (with_reducible refine Kd.C_drewN ?_ _) | (with_reducible refine Kd.C_drew ?_)))
    (case aB => exact (by repeat (with_reducible first | exact HB.out | apply bwX | refine bwS ?_ GE197.out | refine bwS ?_ GE198.out | refine bwS ?_ GE205.out)))
    (case aF => exact (fun _ _ => trivial))
    (case aO => exact (by (repeat apply Kd.RS); exact HO201.out))
    (case aS => exact (below_size (by repeat (with_reducible first | exact HB.out | apply bwX | refine bwS ?_ GE197.out | refine bwS ?_ GE198.out | refine bwS ?_ GE205.out))))
    (case aL => have := LMc2.out; omega)
    intro v203 w9 ho hb hg hat
    rw [← Ny202.out] at ho
    have n0_ := Asd.mk (blk_grown (g := gb197) (o := .cells #[.int .i64 a0_0, .slice A0_1 l0_1.length c0_1, .slice A0_2 l0_2.length c0_2] 58 (0, 0)) (by (repeat apply bkS); exact BK197.out) hg (Kd.R_ne HO201.out BK197.out (by decide)))
    have n1_ := Asd.mk (blk_grown (g := gb198) (o := .cells #[.int .i64 0, .slice none 0 0, .slice none 0 0] 58 (0, 0)) (by (repeat apply bkS); exact BK198.out) hg (Kd.R_ne HO201.out BK198.out (by decide)))
    have n2_ := Asd.mk (blk_grown (g := gb205) (o := .cells #[.int .i64 0, .slice none 0 0, .slice none 0 0] 58 (0, 0)) (by (repeat apply bkS); exact BK205.out) hg (Kd.R_ne HO201.out BK205.out (by decide)))
    have n3_ := Asd.mk (hb)
    have n4_ := Asd.mk (ho)
    clear BK197
    clear BK198
    clear BK205
    clear HB
    clear HO201
    have BK197 := n0_
    have BK198 := n1_
    have BK205 := n2_
    have HB := n3_
    have HO204 := n4_
    clear n0_ n1_ n2_ n3_ n4_
    clear ho hb hg hat
    obtain ⟨Ao10, co10, eo10⟩ := Kd.R_slice HO204.out
    (first | subst eo10 | (injection eo10 with f1_ f2_ f3_; have f4_ := f1_.symm; have f5_ := f3_.symm; clear f1_ f2_ f3_; subst f4_; subst f5_))
    refine hK.out _ _ ⟨(bkC BK197.out 0).trans rfl, (bkC BK197.out 1).trans rfl, (bkC BK197.out 2).trans rfl⟩ (fun hHeld => ?_)
    clear hK K
    refine norm_ (a' := ?_) ?_ ?_
    rotate_left
    ·show Act.put _ (some 10) _ = _
     simp only [Act.put, qA, qB, qC, i64_w, i32_w]
     rfl
    refine pure_ (i := 6) (N := some 11) (v := ?_) (a' := ?_) #[true, true, true, true, true, true, true, true, false] rfl rfl (any_of HT_.out (by kernel_rfl)) (fun _ _ _ h => h) (Or.inl ⟨by rfl, ?_⟩) ?_ ?_
    rotate_left
    ·intro w'
     go_simp
     with_reducible rfl
    rotate_left
    ·simp only [Act.put, qA, qB, qC, i64_w, i32_w]
     rfl
    exact norm_ (by simp only [putAll, Act.put, qA, qB, qC]) (hCont (v200, .slice Ao10 y202.length co10, gb205) _ ⟨hHeld, (by (repeat apply Kd.RS); exact HO204.out), (by (repeat apply bkS); exact BK197.out), (by (repeat apply bkS); exact BK198.out), (by (repeat apply bkS); exact BK205.out), GW205.out, GE205.out, NB197_205.out, NB205_197.out, NB198_205.out, NB205_198.out, (by repeat (with_reducible first | exact HB.out | apply bwX | refine bwS ?_ GE197.out | refine bwS ?_ GE198.out | refine bwS ?_ GE205.out))⟩)
  ·skip
   refine box_step ?hg (N := 3) ?hd (cs := #[.int .i64 0, .slice none 0 0, .slice none 0 0]) (t := 58) ?hr ?_; (case hd => rfl); (case hg => rfl); (case hr => first | (go_simp; done) | (go_simp; rfl))
   intro gb205 hg w6 hbox hb
   have n0_ := Asd.mk (bkB (g := gb197) (o := .cells #[.int .i64 a0_0, .slice A0_1 l0_1.length c0_1, .slice A0_2 l0_2.length c0_2] 58 (0, 0)) (by (repeat apply bkS); exact BK197.out) hb)
   have n1_ := Asd.mk (bkB (g := gb198) (o := .cells #[.int .i64 0, .slice none 0 0, .slice none 0 0] 58 (0, 0)) (by (repeat apply bkS); exact BK198.out) hb)
   have n2_ := Asd.mk (bwP (by repeat (with_reducible first | exact HB.out | apply bwX | refine bwS ?_ GE197.out | refine bwS ?_ GE198.out)) hb)
   have n3_ := Asd.mk (hbox)
   have n4_ := Asd.mk ((by rw [hg]; exact (below_size (by repeat (with_reducible first | exact HB.out | apply bwX | refine bwS ?_ GE197.out | refine bwS ?_ GE198.out))) : w.heap.size ≤ gb205))
   have n5_ := Asd.mk ((by rw [hg]; exact (below_size (by repeat (with_reducible first | exact HB.out | apply bwX | refine bwS ?_ GE197.out | refine bwS ?_ GE198.out))) : w.heap.size ≤ gb205))
   have n6_ := Asd.mk ((by rw [hg]; exact Nat.ne_of_lt (bkL (g := gb197) (o := .cells #[.int .i64 a0_0, .slice A0_1 l0_1.length c0_1, .slice A0_2 l0_2.length c0_2] 58 (0, 0)) (by (repeat apply bkS); exact BK197.out)) : gb197 ≠ gb205))
   have n7_ := Asd.mk ((by rw [hg]; exact Nat.ne_of_gt (bkL (g := gb197) (o := .cells #[.int .i64 a0_0, .slice A0_1 l0_1.length c0_1, .slice A0_2 l0_2.length c0_2] 58 (0, 0)) (by (repeat apply bkS); exact BK197.out)) : gb205 ≠ gb197))
   have n8_ := Asd.mk ((by rw [hg]; exact Nat.ne_of_lt (bkL (g := gb198) (o := .cells #[.int .i64 0, .slice none 0 0, .slice none 0 0] 58 (0, 0)) (by (repeat apply bkS); exact BK198.out)) : gb198 ≠ gb205))
   have n9_ := Asd.mk ((by rw [hg]; exact Nat.ne_of_gt (bkL (g := gb198) (o := .cells #[.int .i64 0, .slice none 0 0, .slice none 0 0] 58 (0, 0)) (by (repeat apply bkS); exact BK198.out)) : gb205 ≠ gb198))
   clear BK197
   clear BK198
   clear HB
   have BK197 := n0_
   have BK198 := n1_
   have HB := n2_
   have BK205 := n3_
   have GW205 := n4_
   have GE205 := n5_
   have NB197_205 := n6_
   have NB205_197 := n7_
   have NB198_205 := n8_
   have NB205_198 := n9_
   clear n0_ n1_ n2_ n3_ n4_ n5_ n6_ n7_ n8_ n9_
   clear hb hbox hg
   refine hK.out _ _ ⟨(bkC BK197.out 0).trans rfl, (bkC BK197.out 1).trans rfl, (bkC BK197.out 2).trans rfl⟩ (fun hHeld => ?_)
   clear hK K
   refine norm_ (a' := ?_) ?_ ?_
   rotate_left
   ·show Act.put _ (some 3) _ = _
    simp only [Act.put, qA, qB, qC, i64_w, i32_w]
    rfl
   refine one_ (i := 2) (N := some 7) #[true, true, true, true, true, false, false, true, false] rfl rfl (one_of HT_.out (by kernel_rfl)) (by decide) (fun K hK => ?_)
   refine Kd.R_lit_step (Kd.int .i64) _ 3 ?hg (N := 7) ?hd (xs := ([] : List Int)) (inner := []) (ok := fun _ => True) (okp := fun _ => True) ?hr ?hp (fun _ hk => hk) trivial (Below.refl _ _) (Nat.le_refl _) (by simp) ?_; (case hd => rfl); (case hg => rfl); (case hr => first | (go_simp; done) | (go_simp; rfl)); (case hp => exact (Reps.none _ _))
   intro v200 w7 ho8 hb hg_ hnew_
   clear hg_ hnew_
   (first | rw [← Ny199.out] at ho8 | (simp only [Int.reduceToNat] at ho8; rw [← Ny199.out] at ho8))
   have n0_ := Asd.mk (Kd.R_lower ho8 (below_size (by repeat (with_reducible first | exact HB.out | apply bwX | refine bwS ?_ GE197.out | refine bwS ?_ GE198.out | refine bwS ?_ GE205.out))))
   have n1_ := Asd.mk (bkB (g := gb197) (o := .cells #[.int .i64 a0_0, .slice A0_1 l0_1.length c0_1, .slice A0_2 l0_2.length c0_2] 58 (0, 0)) (by (repeat apply bkS); exact BK197.out) hb)
   have n2_ := Asd.mk (bkB (g := gb198) (o := .cells #[.int .i64 0, .slice none 0 0, .slice none 0 0] 58 (0, 0)) (by (repeat apply bkS); exact BK198.out) hb)
   have n3_ := Asd.mk (bkB (g := gb205) (o := .cells #[.int .i64 0, .slice none 0 0, .slice none 0 0] 58 (0, 0)) (by (repeat apply bkS); exact BK205.out) hb)
   have n4_ := Asd.mk (bwP (by repeat (with_reducible first | exact HB.out | apply bwX | refine bwS ?_ GE197.out | refine bwS ?_ GE198.out | refine bwS ?_ GE205.out)) hb)
   clear BK197
   clear BK198
   clear BK205
   clear HB
   have HO201 := n0_
   have BK197 := n1_
   have BK198 := n2_
   have BK205 := n3_
   have HB := n4_
   clear n0_ n1_ n2_ n3_ n4_
   clear hb ho8
   refine hK.out _ _ ⟨(bkC BK197.out 0).trans rfl, (bkC BK197.out 1).trans rfl, (bkC BK197.out 2).trans rfl⟩ (fun hHeld => ?_)
   clear hK K
   refine norm_ (a' := ?_) ?_ ?_
   rotate_left
   ·show Act.put _ (some 7) _ = _
    simp only [Act.put, qA, qB, qC, i64_w, i32_w]
    rfl
   refine one_ (i := 5) (N := some 10) #[true, true, true, true, true, true, false, true, false] rfl rfl (one_of HT_.out (by kernel_rfl)) (by decide) (fun K hK => ?_)
   refine Kd.R_append_rows_step (Kd.int .i64) (w0 := w) w.heap.size (by rfl) (.tmp 7) (.tmp 9) 55 3 (.int .i64 0) 8 rfl Try.underlying55 info3 rfl (by decide) (by omega) v200 y199 l0_1 _ _ _ (fun _ => True) (fun _ => False) rfl rfl ?aO ?aR (fun _ _ h => h) (fun _ h => h.elim) ?aF ?aB ?aS ?aL ?_
   (case aR => repeat (first | exact (Kd.C_below HR0_1.out HB.out) | (with_reducible refine Kd.C_alloc ?_ _) | (with_reducible refine Kd.C_drewN ?_ _) | (with_reducible refine Kd.C_drew ?_)))
   (case aB => exact (by repeat (with_reducible first | exact HB.out | apply bwX | refine bwS ?_ GE197.out | refine bwS ?_ GE198.out | refine bwS ?_ GE205.out)))
   (case aF => exact (fun _ _ => trivial))
   (case aO => exact (by (repeat apply Kd.RS); exact HO201.out))
   (case aS => exact (below_size (by repeat (with_reducible first | exact HB.out | apply bwX | refine bwS ?_ GE197.out | refine bwS ?_ GE198.out | refine bwS ?_ GE205.out))))
   (case aL => have := LMc2.out; omega)
   intro v203 w9 ho hb hg hat
   rw [← Ny202.out] at ho
   have n0_ := Asd.mk (blk_grown (g := gb197) (o := .cells #[.int .i64 a0_0, .slice A0_1 l0_1.length c0_1, .slice A0_2 l0_2.length c0_2] 58 (0, 0)) (by (repeat apply bkS); exact BK197.out) hg (Kd.R_ne HO201.out BK197.out (by decide)))
   have n1_ := Asd.mk (blk_grown (g := gb198) (o := .cells #[.int .i64 0, .slice none 0 0, .slice none 0 0] 58 (0, 0)) (by (repeat apply bkS); exact BK198.out) hg (Kd.R_ne HO201.out BK198.out (by decide)))
   have n2_ := Asd.mk (blk_grown (g := gb205) (o := .cells #[.int .i64 0, .slice none 0 0, .slice none 0 0] 58 (0, 0)) (by (repeat apply bkS); exact BK205.out) hg (Kd.R_ne HO201.out BK205.out (by decide)))
   have n3_ := Asd.mk (hb)
   have n4_ := Asd.mk (ho)
   clear BK197
   clear BK198
   clear BK205
   clear HB
   clear HO201
   have BK197 := n0_
   have BK198 := n1_
   have BK205 := n2_
   have HB := n3_
   have HO204 := n4_
   clear n0_ n1_ n2_ n3_ n4_
   clear ho hb hg hat
   obtain ⟨Ao10, co10, eo10⟩ := Kd.R_slice HO204.out
   (first | subst eo10 | (injection eo10 with f1_ f2_ f3_; have f4_ := f1_.symm; have f5_ := f3_.symm; clear f1_ f2_ f3_; subst f4_; subst f5_))
   refine hK.out _ _ ⟨(bkC BK197.out 0).trans rfl, (bkC BK197.out 1).trans rfl, (bkC BK197.out 2).trans rfl⟩ (fun hHeld => ?_)
   clear hK K
   refine norm_ (a' := ?_) ?_ ?_
   rotate_left
   ·show Act.put _ (some 10) _ = _
    simp only [Act.put, qA, qB, qC, i64_w, i32_w]
    rfl
   refine pure_ (i := 6) (N := some 11) (v := ?_) (a' := ?_) #[true, true, true, true, true, true, true, true, false] rfl rfl (any_of HT_.out (by kernel_rfl)) (fun _ _ _ h => h) (Or.inl ⟨by rfl, ?_⟩) ?_ ?_
   rotate_left
   ·intro w'
    go_simp
    with_reducible rfl
   rotate_left
   ·simp only [Act.put, qA, qB, qC, i64_w, i32_w]
    rfl
   exact norm_ (by simp only [putAll, Act.put, qA, qB, qC]) (hCont (v200, .slice Ao10 y202.length co10, gb205) _ ⟨hHeld, (by (repeat apply Kd.RS); exact HO204.out), (by (repeat apply bkS); exact BK197.out), (by (repeat apply bkS); exact BK198.out), (by (repeat apply bkS); exact BK205.out), GW205.out, GE205.out, NB197_205.out, NB205_197.out, NB198_205.out, NB205_198.out, (by repeat (with_reducible first | exact HB.out | apply bwX | refine bwS ?_ GE197.out | refine bwS ?_ GE198.out | refine bwS ?_ GE205.out))⟩)
 rintro ⟨v200, v203, gb205⟩ w11 ⟨hS_, h0_, h1_, h2_, h3_, h4_, h5_, h6_, h7_, h8_, h9_, h10_⟩
 have n0_ : Asd (Kd.R (Kd.int .i64) 3 w11 w.heap.size (fun _ => True) v203 y202) := ⟨h0_⟩
 have n1_ : Asd (w11.heap[gb197]? = some (.cells #[.int .i64 a0_0, .slice A0_1 l0_1.length c0_1, .slice A0_2 l0_2.length c0_2] 58 (0, 0))) := ⟨h1_⟩
 have n2_ : Asd (w11.heap[gb198]? = some (.cells #[.int .i64 0, .slice none 0 0, .slice none 0 0] 58 (0, 0))) := ⟨h2_⟩
 have n3_ : Asd (w11.heap[gb205]? = some (.cells #[.int .i64 0, .slice none 0 0, .slice none 0 0] 58 (0, 0))) := ⟨h3_⟩
 have n4_ : Asd (w.heap.size ≤ gb205) := ⟨h4_⟩
 have n5_ : Asd (w.heap.size ≤ gb205) := ⟨h5_⟩
 have n6_ : Asd (gb197 ≠ gb205) := ⟨h6_⟩
 have n7_ : Asd (gb205 ≠ gb197) := ⟨h7_⟩
 have n8_ : Asd (gb198 ≠ gb205) := ⟨h8_⟩
 have n9_ : Asd (gb205 ≠ gb198) := ⟨h9_⟩
 have n10_ : Asd (Below w.heap.size w w11) := ⟨h10_⟩
 clear BK197
 clear BK198
 clear HB
 clear h0_ h1_ h2_ h3_ h4_ h5_ h6_ h7_ h8_ h9_ h10_
 have HO204 := n0_
 have BK197 := n1_
 have BK198 := n2_
 have BK205 := n3_
 have GW205 := n4_
 have GE205 := n5_
 have NB197_205 := n6_
 have NB205_197 := n7_
 have NB198_205 := n8_
 have NB205_198 := n9_
 have HB := n10_
 clear n0_ n1_ n2_ n3_ n4_ n5_ n6_ n7_ n8_ n9_ n10_
 have hHeld : w11.cell? ⟨gb197, 0, none⟩ = some (.int .i64 a0_0) ∧ w11.cell? ⟨gb197, 1, none⟩ = some (.slice A0_1 l0_1.length c0_1) ∧ w11.cell? ⟨gb197, 2, none⟩ = some (.slice A0_2 l0_2.length c0_2) := hS_
 obtain ⟨Ao12, co12, eo12⟩ := Kd.R_slice HO204.out
 (first | subst eo12 | (injection eo12 with f1_ f2_ f3_; have f4_ := f1_.symm; have f5_ := f3_.symm; clear f1_ f2_ f3_; subst f4_; subst f5_))
 refine norm_ (a' := ?_) ?_ ?_
 rotate_left
 ·simp only [putAll, Act.put, qA, qB, qC]
  rfl
 refine one_ (i := 8) (N := none) #[true, true, true, true, true, true, true, true, true] rfl rfl (one_of HT_.out (by kernel_rfl)) (by decide) (fun K hK => ?_)
 have hs13 : w11.cell? ⟨gb205, 0, none⟩ = some (.int .i64 0) := (bkC BK205.out 0).trans rfl
 have hfs13 := bkF BK205.out 0
 have hns13_0 := NB197_205.out
 have hns13_1 := NB198_205.out
 have hms13_0 := NB205_197.out
 have hms13_1 := NB205_198.out
 have hs14 : w11.cell? ⟨gb205, 1, none⟩ = some (.slice none 0 0) := (bkC BK205.out 1).trans rfl
 have hfs14 := bkF BK205.out 1
 have hns14_0 := NB197_205.out
 have hns14_1 := NB198_205.out
 have hms14_0 := NB205_197.out
 have hms14_1 := NB205_198.out
 have hs15 : w11.cell? ⟨gb205, 2, none⟩ = some (.slice none 0 0) := (bkC BK205.out 2).trans rfl
 have hfs15 := bkF BK205.out 2
 have hns15_0 := NB197_205.out
 have hns15_1 := NB198_205.out
 have hms15_0 := NB205_197.out
 have hms15_1 := NB205_198.out
 refine skip_ (w1 := ?_) (by rfl) rfl ?_ ?_
 rotate_left
 ·go_simp
  rfl
 refine hK.out _ _ ⟨((cell_far (p := ⟨gb205, _, none⟩) NB197_205.out _).trans (((cell_far (p := ⟨gb205, _, none⟩) NB197_205.out _).trans (((cell_far (p := ⟨gb205, _, none⟩) NB197_205.out _).trans (hHeld.1)))))), ((cell_far (p := ⟨gb205, _, none⟩) NB197_205.out _).trans (((cell_far (p := ⟨gb205, _, none⟩) NB197_205.out _).trans (((cell_far (p := ⟨gb205, _, none⟩) NB197_205.out _).trans (hHeld.2.1)))))), ((cell_far (p := ⟨gb205, _, none⟩) NB197_205.out _).trans (((cell_far (p := ⟨gb205, _, none⟩) NB197_205.out _).trans (((cell_far (p := ⟨gb205, _, none⟩) NB197_205.out _).trans (hHeld.2.2))))))⟩ (fun hHeld => ?_)
 clear hK K
 refine done_ (done_of HT_.out (by kernel_rfl)) ?_
 try go_wp2
 go_loopg [4] k (fun kq v4 w' => ∃ (x4_1 : Int) (x206002_1 : List (List Int)) (u206002 : Value), v4 = .int .i64 x4_1 ∧ Asd (spec_l10Copy.l0 kq x4_1 a0_0 l0_1 l0_2 a0_0 y202 x206002_1 = some (r1, r2, r3)) ∧ Asd (kq ≤ k) ∧ Asd (Kd.R (Kd.int .i64) 3 w' w.heap.size (fun _ => True) (.slice Ao12 y202.length co12) y202) ∧ Asd (Kd.S (Kd.slice 3 (Kd.int .i64)) 55 w' w.heap.size (fun k_ => some k_ ≠ ((.slice Ao12 y202.length co12) : Value).ownBlock) u206002 x206002_1) ∧ Asd (w'.heap[gb197]? = some (.cells #[.int .i64 a0_0, (.slice A0_1 l0_1.length c0_1), (.slice A0_2 l0_2.length c0_2)] 58 (0, 0))) ∧ Asd (w'.heap[gb198]? = some (.cells #[.int .i64 0, (.slice none 0 0), (.slice none 0 0)] 58 (0, 0))) ∧ Asd (w'.heap[gb205]? = some (.cells #[.int .i64 a0_0, (.slice Ao12 y202.length co12), u206002] 58 (0, 0))) ∧ Asd (Below w.heap.size w w'))
 case atStart => exact ⟨(0), (([] : List (List Int))), (.slice none 0 0), (by first | rfl | (simp; done) | (simp [*]; done)), H', ⟨Nat.le_refl _⟩, ⟨by (repeat apply Kd.RS); exact Kd.R_mono (Kd.R_far (p := ⟨gb205, 2, none⟩) (Kd.R_far (p := ⟨gb205, 1, none⟩) (Kd.R_far (p := ⟨gb205, 0, none⟩) (Kd.R_types HO204.out BK205.out (by decide)) (fun _ hk => hk.2) (.int .i64 a0_0)) (fun _ hk => hk.2) (.slice Ao12 y202.length co12)) (fun _ hk => hk.2) (.slice none 0 0)) (fun _ hk => trivial)⟩, ⟨by first | exact Kd.S_nil _ _ _ _ _ | exact Kd.N_nil _ _ _ _ _ | exact Kd.V_nil _ _ _ _ _ | exact Kd.Q_nil _ _ _ _ _ | exact Kd.R_nil _ _ _ _ _⟩, ⟨by (repeat apply bkS); refine bkR ?_ NB197_205.out _; (repeat apply bkS); refine bkR ?_ NB197_205.out _; (repeat apply bkS); refine bkR ?_ NB197_205.out _; (repeat apply bkS); exact BK197.out⟩, ⟨by (repeat apply bkS); refine bkR ?_ NB198_205.out _; (repeat apply bkS); refine bkR ?_ NB198_205.out _; (repeat apply bkS); refine bkR ?_ NB198_205.out _; (repeat apply bkS); exact BK198.out⟩, ⟨by (repeat apply bkS); refine bkP (cs := #[.int .i64 a0_0, .slice Ao12 y202.length co12, .slice none 0 0]) ?_ 2 _ rfl; (repeat apply bkS); refine bkP (cs := #[.int .i64 a0_0, .slice none 0 0, .slice none 0 0]) ?_ 1 _ rfl; (repeat apply bkS); refine bkP (cs := #[.int .i64 0, .slice none 0 0, .slice none 0 0]) ?_ 0 _ rfl; (repeat apply bkS); exact BK205.out⟩, ⟨by repeat (with_reducible first | exact HB.out | apply bwX | refine bwS ?_ GE197.out | refine bwS ?_ GE198.out | refine bwS ?_ GE205.out)⟩⟩
 case round =>
  clear H'
  obtain ⟨x4_1, x206002_1, u206002, rfl, HA, HK1, HO_206001, HO_206002, BK197, BK198, BK205, HB⟩ := hrel
  cases gk with
  | zero => exact absurd HA.out (by simp [spec_l10Copy.l0])
  | succ k1 =>
   have H := HA.out
   clear HA
   simp only [spec_l10Copy.l0] at H
   by_cases c16 : x4_1 < (l0_2.length : Int)
   ·rw [if_pos c16] at H
    have c16b0 : decide (x4_1 < (l0_2.length : Int)) = true := decide_eq_true c16
    clear c16
    obtain ⟨y206, hy206⟩ : ∃ y_ : List Int, y_ = (([] : List Int)) := ⟨_, rfl⟩
    replace H : (if 0 ≤ x4_1 then (if y206.length + (rd_L1 l0_2 x4_1).length < 17592186044416 then (if x206002_1.length < 5864062014805 then (spec_l10Copy.l0 k1 (wrap64 (x4_1 + 1)) a0_0 l0_1 l0_2 a0_0 y202 (x206002_1 ++ [(y206 ++ (rd_L1 l0_2 x4_1))])) else (none)) else (none)) else (none)) = some (r1, r2, r3) := by first | (rw [hy206]; with_reducible exact H) | (have H2_ := (Option.bind_some _ _).symm.trans H; rw [hy206]; with_reducible exact H2_) | (have H2_ := (Option.bind_some _ _).symm.trans H; with_reducible exact H2_) | with_reducible exact H | (rw [hy206]; exact H) | exact H
    have Ny206 := Asd.mk hy206
    clear hy206
    by_cases c17 : 0 ≤ x4_1; rotate_left; (rw [if_neg c17] at H; exact absurd H (by simp))
    rw [if_pos c17] at H
    have c17b0 : decide (0 ≤ x4_1) = true := decide_eq_true c17
    clear c17
    by_cases c18 : y206.length + (rd_L1 l0_2 x4_1).length < 17592186044416; rotate_left; (rw [if_neg c18] at H; exact absurd H (by simp))
    rw [if_pos c18] at H
    have LMc18 := Asd.mk c18
    clear c18
    obtain ⟨y210, hy210⟩ : ∃ y_ : List Int, y_ = (y206 ++ (rd_L1 l0_2 x4_1)) := ⟨_, rfl⟩
    replace H : (if x206002_1.length < 5864062014805 then (spec_l10Copy.l0 k1 (wrap64 (x4_1 + 1)) a0_0 l0_1 l0_2 a0_0 y202 (x206002_1 ++ [y210])) else (none)) = some (r1, r2, r3) := by first | (rw [hy210]; with_reducible exact H) | (have H2_ := (Option.bind_some _ _).symm.trans H; rw [hy210]; with_reducible exact H2_) | (have H2_ := (Option.bind_some _ _).symm.trans H; with_reducible exact H2_) | with_reducible exact H | (rw [hy210]; exact H) | exact H
    have Ny210 := Asd.mk hy210
    clear hy210
    by_cases c19 : x206002_1.length < 5864062014805; rotate_left; (rw [if_neg c19] at H; exact absurd H (by simp))
    rw [if_pos c19] at H
    have LMc19 := Asd.mk c19
    clear c19
    obtain ⟨y213, hy213⟩ : ∃ y_ : List (List Int), y_ = (x206002_1 ++ [y210]) := ⟨_, rfl⟩
    replace H : (spec_l10Copy.l0 k1 (wrap64 (x4_1 + 1)) a0_0 l0_1 l0_2 a0_0 y202 y213) = some (r1, r2, r3) := by first | (rw [hy213]; with_reducible exact H) | (have H2_ := (Option.bind_some _ _).symm.trans H; rw [hy213]; with_reducible exact H2_) | (have H2_ := (Option.bind_some _ _).symm.trans H; with_reducible exact H2_) | with_reducible exact H | (rw [hy213]; exact H) | exact H
    have Ny213 := Asd.mk hy213
    clear hy213
    have H' := Asd.mk H
    clear H
    have hnb20 := NB197_198.out
    have hnc20 := NB198_197.out
    have hnb21 := NB197_205.out
    have hnc21 := NB205_197.out
    have hcz22_0 : wr.cell? ⟨gb197, 0, none⟩ = some (.int .i64 a0_0) := (bkC BK197.out 0).trans rfl
    have hcz22_1 : wr.cell? ⟨gb197, 1, none⟩ = some (.slice A0_1 l0_1.length c0_1) := (bkC BK197.out 1).trans rfl
    have hcz22_2 : wr.cell? ⟨gb197, 2, none⟩ = some (.slice A0_2 l0_2.length c0_2) := (bkC BK197.out 2).trans rfl
    have hfz22_0 := bkF BK197.out 0
    have hfz22_1 := bkF BK197.out 1
    have hfz22_2 := bkF BK197.out 2
    try go_wp2
    have n0_ := Asd.mk (Kd.R_drew HO_206001.out)
    have n1_ := Asd.mk (Kd.S_drew HO_206002.out)
    have n2_ := Asd.mk (bkD BK197.out)
    have n3_ := Asd.mk (bkD BK198.out)
    have n4_ := Asd.mk (bkD BK205.out)
    have n5_ := Asd.mk (bwD HB.out)
    clear HO_206001
    clear HO_206002
    clear BK197
    clear BK198
    clear BK205
    clear HB
    have HO_206001 := n0_
    have HO_206002 := n1_
    have BK197 := n2_
    have BK198 := n3_
    have BK205 := n4_
    have HB := n5_
    clear n0_ n1_ n2_ n3_ n4_ n5_
    have p209 : 0 ≤ (x4_1 : Int) := odt
    have q209 : x4_1 < (l0_2.length : Int) := odt
    obtain ⟨ad209, A209_0, c209_0, e209, hx209_0, hl209_0, hi209_0⟩ := at_L1 HR0_2.out x4_1 p209 q209
    have hw209_0 := hx209_0
    cases e209
    replace hx209_0 := (HB.out.cell (World.block_lt_of_cell? w _ hx209_0)).trans hx209_0
    have HR209_0 := Asd.mk hi209_0
    have HC209_0 := Asd.mk hl209_0
    clear hi209_0 hl209_0
    replace p209 := eq_true p209
    replace q209 := eq_true q209
    refine start_ (n := 13) (S := fun w' => w'.cell? ⟨gb205, 0, none⟩ = some (.int .i64 a0_0) ∧ w'.cell? ⟨gb205, 1, none⟩ = some (.slice Ao12 y202.length co12) ∧ w'.cell? ⟨gb205, 2, none⟩ = some (u206002) ∧ w'.cell? ⟨gb197, 0, none⟩ = some (.int .i64 a0_0) ∧ w'.cell? ⟨gb197, 1, none⟩ = some (.slice A0_1 l0_1.length c0_1) ∧ w'.cell? ⟨gb197, 2, none⟩ = some (.slice (some ad209) l0_2.length c0_2) ∧ w'.cell? (ad209.add (x4_1).toNat) = some (.slice A209_0 (rd_L1 l0_2 x4_1).length c209_0)) (ds := [12]) #[false, false, false, false, false, false, false, false, false, false, false, false, false] (by kernel_rfl) rfl rfl ⟨(bkC BK205.out 0).trans rfl, (bkC BK205.out 1).trans rfl, (bkC BK205.out 2).trans rfl, (bkC BK197.out 0).trans rfl, (bkC BK197.out 1).trans rfl, (bkC BK197.out 2).trans rfl, ((HB.out.cell (World.block_lt_of_cell? w _ hw209_0)).trans hw209_0)⟩ (fun hHeld => ?_); refine with_tabW spec_l10Copy.tab5 spec_l10Copy.bits5 (fun HT_ HW_ => ?_)
    generalize wr.drew = w23 at HO_206001 HO_206002 BK197 BK198 BK205 HB HR209_0 hx209_0 hHeld ⊢
    refine pure_ (i := 0) (N := some 19) (v := ?_) (a' := ?_) #[true, false, false, false, false, false, false, false, false, false, false, false, false] rfl rfl (any_of HT_.out (by kernel_rfl)) (fun _ _ _ h => h) (Or.inl ⟨by rfl, ?_⟩) ?_ ?_
    rotate_left
    ·intro w'
     go_simp
     with_reducible rfl
    rotate_left
    ·simp only [Act.put, qA, qB, qC, i64_w, i32_w]
     rfl
    refine pure_ (i := 3) (N := some 22) (v := ?_) (a' := ?_) #[true, false, false, true, false, false, false, false, false, false, false, false, false] rfl rfl (any_of HT_.out (by kernel_rfl)) (fun _ _ _ h => h) (Or.inl ⟨by rfl, ?_⟩) ?_ ?_
    rotate_left
    ·intro w'
     go_simp
     with_reducible rfl
    rotate_left
    ·simp only [Act.put, qA, qB, qC, i64_w, i32_w]
     rfl
    refine pure_ (i := 5) (N := some 24) (v := ?_) (a' := ?_) #[true, false, false, true, false, true, false, false, false, false, false, false, false] rfl rfl (any_of HT_.out (by kernel_rfl)) (fun _ _ _ h => h) (Or.inl ⟨by rfl, ?_⟩) ?_ ?_
    rotate_left
    ·intro w'
     go_simp
     with_reducible rfl
    rotate_left
    ·simp only [Act.put, qA, qB, qC, i64_w, i32_w]
     rfl
    refine take_ (i := 1) (N := some 20) (v := ?_) (a' := ?_) #[true, true, false, true, false, true, false, false, false, false, false, false, false] rfl rfl (take_ofW HT_.out HW_.out (by kernel_rfl)) (fun _ _ _ h => h) (Or.inl ⟨by rfl, ?_⟩) hHeld ?_ ?_
    rotate_left
    ·rintro w' ⟨s0, s1, s2, s3, s4, s5, s6⟩
     go_simp
     with_reducible rfl
    rotate_left
    ·simp only [Act.put, qA, qB, qC, i64_w, i32_w]
     rfl
    refine take_ (i := 4) (N := some 23) (v := ?_) (a' := ?_) #[true, true, false, true, true, true, false, false, false, false, false, false, false] rfl rfl (take_ofW HT_.out HW_.out (by kernel_rfl)) (fun _ _ _ h => h) (Or.inl ⟨by rfl, ?_⟩) hHeld ?_ ?_
    rotate_left
    ·rintro w' ⟨s0, s1, s2, s3, s4, s5, s6⟩
     go_simp
     with_reducible rfl
    rotate_left
    ·simp only [Act.put, qA, qB, qC, i64_w, i32_w]
     rfl
    refine pure_ (i := 6) (N := some 25) (v := ?_) (a' := ?_) #[true, true, false, true, true, true, true, false, false, false, false, false, false] rfl rfl (any_of HT_.out (by kernel_rfl)) (fun _ _ _ h => h) (Or.inl ⟨by rfl, ?_⟩) ?_ ?_
    rotate_left
    ·intro w'
     go_simp
     with_reducible rfl
    rotate_left
    ·simp only [Act.put, qA, qB, qC, i64_w, i32_w]
     rfl
    refine take_ (i := 7) (N := some 26) (v := ?_) (a' := ?_) #[true, true, false, true, true, true, true, true, false, false, false, false, false] rfl rfl (take_ofW HT_.out HW_.out (by kernel_rfl)) (fun _ _ _ h => h) (Or.inl ⟨by rfl, ?_⟩) hHeld ?_ ?_
    rotate_left
    ·rintro w' ⟨s0, s1, s2, s3, s4, s5, s6⟩
     go_simp
     with_reducible rfl
    rotate_left
    ·simp only [Act.put, qA, qB, qC, i64_w, i32_w]
     rfl
    refine one_ (i := 2) (N := some 21) #[true, true, true, true, true, true, true, true, false, false, false, false, false] rfl rfl (one_of HT_.out (by kernel_rfl)) (by decide) (fun K hK => ?_)
    refine Kd.R_lit_step (Kd.int .i64) _ 3 ?hg (N := 21) ?hd (xs := ([] : List Int)) (inner := []) (ok := fun _ => True) (okp := fun _ => True) ?hr ?hp (fun _ hk => hk) trivial (Below.refl _ _) (Nat.le_refl _) (by simp) ?_; (case hd => rfl); (case hg => rfl); (case hr => first | (go_simp; done) | (go_simp; rfl)); (case hp => exact (Reps.none _ _))
    intro v207 w24 ho25 hb hg_ hnew_
    clear hg_ hnew_
    (first | rw [← Ny206.out] at ho25 | (simp only [Int.reduceToNat] at ho25; rw [← Ny206.out] at ho25))
    have n0_ := Asd.mk (Kd.R_elder' (by (repeat apply Kd.RS); exact HO_206001.out) (Kd.R_base ho25) hb)
    have n1_ := Asd.mk (Kd.S_elder' (by (repeat apply Kd.SS); exact HO_206002.out) (Kd.R_base ho25) hb)
    have n2_ := Asd.mk (Kd.R_lower (Kd.R_new' ho25 (Kd.R_lt (by (repeat apply Kd.RS); exact HO_206001.out))) (below_size (by repeat (with_reducible first | exact HB.out | apply bwX | refine bwS ?_ GE197.out | refine bwS ?_ GE198.out | refine bwS ?_ GE205.out))))
    have n3_ := Asd.mk (bkB (g := gb197) (o := .cells #[.int .i64 a0_0, .slice A0_1 l0_1.length c0_1, .slice (some ad209) l0_2.length c0_2] 58 (0, 0)) (by (repeat apply bkS); exact BK197.out) hb)
    have n4_ := Asd.mk (bkB (g := gb198) (o := .cells #[.int .i64 0, .slice none 0 0, .slice none 0 0] 58 (0, 0)) (by (repeat apply bkS); exact BK198.out) hb)
    have n5_ := Asd.mk (bkB (g := gb205) (o := .cells #[.int .i64 a0_0, .slice Ao12 y202.length co12, u206002] 58 (0, 0)) (by (repeat apply bkS); exact BK205.out) hb)
    have n6_ := Asd.mk (bwP (by repeat (with_reducible first | exact HB.out | apply bwX | refine bwS ?_ GE197.out | refine bwS ?_ GE198.out | refine bwS ?_ GE205.out)) hb)
    clear HO_206001
    clear HO_206002
    clear BK197
    clear BK198
    clear BK205
    clear HB
    have HO_206001 := n0_
    have HO_206002 := n1_
    have HO208 := n2_
    have BK197 := n3_
    have BK198 := n4_
    have BK205 := n5_
    have HB := n6_
    clear n0_ n1_ n2_ n3_ n4_ n5_ n6_
    clear hb ho25
    refine hK.out _ _ ⟨(bkC BK205.out 0).trans rfl, (bkC BK205.out 1).trans rfl, (bkC BK205.out 2).trans rfl, (bkC BK197.out 0).trans rfl, (bkC BK197.out 1).trans rfl, (bkC BK197.out 2).trans rfl, ((HB.out.cell (World.block_lt_of_cell? w _ hw209_0)).trans hw209_0)⟩ (fun hHeld => ?_)
    clear hK K
    refine norm_ (a' := ?_) ?_ ?_
    rotate_left
    ·show Act.put _ (some 21) _ = _
     simp only [Act.put, qA, qB, qC, i64_w, i32_w]
     rfl
    refine one_ (i := 8) (N := some 27) #[true, true, true, true, true, true, true, true, true, false, false, false, false] rfl rfl (one_of HT_.out (by kernel_rfl)) (by decide) (fun K hK => ?_)
    refine Kd.R_append_rows_step (Kd.int .i64) (w0 := w) w.heap.size (by rfl) (.tmp 21) (.tmp 26) 55 3 (.int .i64 0) 8 rfl Try.underlying55 info3 rfl (by decide) (by omega) v207 y206 (rd_L1 l0_2 x4_1) _ _ _ (fun k_ => some k_ ≠ (.slice Ao12 y202.length co12 : Value).ownBlock) (fun _ => False) rfl rfl ?aO ?aR (fun _ _ h => h) (fun _ h => h.elim) ?aF ?aB ?aS ?aL ?_
    (case aR => repeat (first | exact (Kd.C_below HR209_0.out HB.out) | (with_reducible refine Kd.C_alloc ?_ _) | (with_reducible refine Kd.C_drewN ?_ _) | (with_reducible refine Kd.C_drew ?_)))
    (case aB => exact (by repeat (with_reducible first | exact HB.out | apply bwX | refine bwS ?_ GE197.out | refine bwS ?_ GE198.out | refine bwS ?_ GE205.out)))
    (case aF => exact (fun k_ hk => Kd.fresh' (Kd.R_lt (by (repeat apply Kd.RS); exact HO_206001.out)) k_ hk))
    (case aO => exact (by (repeat apply Kd.RS); exact Kd.R_mono HO208.out (fun _ hk => hk.2)))
    (case aS => exact (below_size (by repeat (with_reducible first | exact HB.out | apply bwX | refine bwS ?_ GE197.out | refine bwS ?_ GE198.out | refine bwS ?_ GE205.out))))
    (case aL => have := LMc18.out; omega)
    intro v211 w26 ho hb hg hat
    rw [← Ny210.out] at ho
    have n0_ := Asd.mk (Kd.R_after (ok := (fun _ => True)) (by (repeat apply Kd.RS); exact HO_206001.out) hg hat)
    have n1_ := Asd.mk (Kd.S_after (ok := (fun k_ => some k_ ≠ (.slice Ao12 y202.length co12 : Value).ownBlock)) (by (repeat apply Kd.SS); exact HO_206002.out) hg hat)
    have n2_ := Asd.mk (blk_grown (g := gb197) (o := .cells #[.int .i64 a0_0, .slice A0_1 l0_1.length c0_1, .slice (some ad209) l0_2.length c0_2] 58 (0, 0)) (by (repeat apply bkS); exact BK197.out) hg (Kd.R_ne HO208.out BK197.out (by decide)))
    have n3_ := Asd.mk (blk_grown (g := gb198) (o := .cells #[.int .i64 0, .slice none 0 0, .slice none 0 0] 58 (0, 0)) (by (repeat apply bkS); exact BK198.out) hg (Kd.R_ne HO208.out BK198.out (by decide)))
    have n4_ := Asd.mk (blk_grown (g := gb205) (o := .cells #[.int .i64 a0_0, .slice Ao12 y202.length co12, u206002] 58 (0, 0)) (by (repeat apply bkS); exact BK205.out) hg (Kd.R_ne HO208.out BK205.out (by decide)))
    have n5_ := Asd.mk (hb)
    have n6_ := Asd.mk (ho)
    clear HO_206001
    clear HO_206002
    clear BK197
    clear BK198
    clear BK205
    clear HB
    clear HO208
    have HO_206001 := n0_
    have HO_206002 := n1_
    have BK197 := n2_
    have BK198 := n3_
    have BK205 := n4_
    have HB := n5_
    have HO212 := n6_
    clear n0_ n1_ n2_ n3_ n4_ n5_ n6_
    clear ho hb hg hat
    obtain ⟨Ao28, co28, eo28⟩ := Kd.R_slice HO212.out
    (first | subst eo28 | (injection eo28 with f1_ f2_ f3_; have f4_ := f1_.symm; have f5_ := f3_.symm; clear f1_ f2_ f3_; subst f4_; subst f5_))
    refine hK.out _ _ ⟨(bkC BK205.out 0).trans rfl, (bkC BK205.out 1).trans rfl, (bkC BK205.out 2).trans rfl, (bkC BK197.out 0).trans rfl, (bkC BK197.out 1).trans rfl, (bkC BK197.out 2).trans rfl, ((HB.out.cell (World.block_lt_of_cell? w _ hw209_0)).trans hw209_0)⟩ (fun hHeld => ?_)
    clear hK K
    refine norm_ (a' := ?_) ?_ ?_
    rotate_left
    ·show Act.put _ (some 27) _ = _
     simp only [Act.put, qA, qB, qC, i64_w, i32_w]
     rfl
    refine one_ (i := 9) (N := some 28) #[true, true, true, true, true, true, true, true, true, true, false, false, false] rfl rfl (one_of HT_.out (by kernel_rfl)) (by decide) (fun K hK => ?_)
    refine value_ (w1 := ?_) (v := ?_) (by rfl) rfl ?_ ?_
    rotate_left 2
    ·go_simp
     constructor
     ·rfl
     ·rfl
    refine hK.out _ _ ⟨(bkC (bkA BK205.out _) 0).trans rfl, (bkC (bkA BK205.out _) 1).trans rfl, (bkC (bkA BK205.out _) 2).trans rfl, (bkC (bkA BK197.out _) 0).trans rfl, (bkC (bkA BK197.out _) 1).trans rfl, (bkC (bkA BK197.out _) 2).trans rfl, (World.cell?_alloc_lt _ _ _ (World.block_lt_of_cell? _ _ (((HB.out.cell (World.block_lt_of_cell? w _ hw209_0)).trans hw209_0)))).trans (((HB.out.cell (World.block_lt_of_cell? w _ hw209_0)).trans hw209_0))⟩ (fun hHeld => ?_)
    clear hK K
    refine norm_ (a' := ?_) ?_ ?_
    rotate_left
    ·show Act.put _ (some 28) _ = _
     simp only [Act.put, qA, qB, qC, i64_w, i32_w]
     rfl
    refine one_ (i := 10) (N := some 29) #[true, true, true, true, true, true, true, true, true, true, true, false, false] rfl rfl (one_of HT_.out (by kernel_rfl)) (by decide) (fun K hK => ?_)
    refine Kd.S_append_step (Kd.slice 3 (Kd.int .i64)) (w0 := w) w.heap.size (by rfl) (.tmp 20) (.tmp 28) 56 55 (.slice none 0 0) 24 rfl Try.underlying56 info55 rfl (by decide) (by omega) u206002 x206002_1 y210 [.slice Ao28 y210.length co28] (fun k_ => some k_ ≠ (.slice Ao12 y202.length co12 : Value).ownBlock) (fun k_ => some k_ = (.slice Ao28 y210.length co28 : Value).ownBlock) rfl rfl ?aP (fun k_ hk_ => ((Kd.R_mono (ok' := fun k_ => ((fun k_ => some k_ ≠ (.slice Ao12 y202.length co12 : Value).ownBlock)) k_ ∧ some k_ ≠ (u206002 : Value).ownBlock) (Kd.R_apart' (HO212.out) (Kd.S_typed HO_206002.out) (by decide)) (fun k_ hk => ⟨hk.1, hk.2⟩))).1 k_ hk_.symm) ?aF ?aO ?aB ?aS ?aL ?_
    (case aP => exact Kd.M_row (Kd.R_mono (Kd.R_tight rfl (Kd.R_mono (ok' := fun k_ => ((fun k_ => some k_ ≠ (.slice Ao12 y202.length co12 : Value).ownBlock)) k_ ∧ some k_ ≠ (u206002 : Value).ownBlock) (Kd.R_apart' (HO212.out) (Kd.S_typed HO_206002.out) (by decide)) (fun k_ hk => ⟨hk.1, hk.2⟩))) (fun _ h_ => h_)))
    (case aB => exact (by repeat (with_reducible first | exact HB.out | apply bwX | refine bwS ?_ GE197.out | refine bwS ?_ GE198.out | refine bwS ?_ GE205.out)))
    (case aF => exact (fun k_ hk => Kd.fresh' (Kd.R_lt (by (repeat apply Kd.RS); exact HO_206001.out)) k_ hk))
    (case aO => exact (by (repeat apply Kd.SS); exact Kd.S_mono HO_206002.out (fun k_ hk => ⟨hk.1, fun e_ => hk.2 e_⟩)))
    (case aS => exact (below_size (by repeat (with_reducible first | exact HB.out | apply bwX | refine bwS ?_ GE197.out | refine bwS ?_ GE198.out | refine bwS ?_ GE205.out))))
    (case aL => have := LMc19.out; omega)
    intro v214 w27 ho hb hg hat
    rw [← Ny213.out] at ho
    have n0_ := Asd.mk (Kd.R_over' (by (repeat apply Kd.RS); exact HO_206001.out) (Kd.S_typed (by (repeat apply Kd.SS); exact HO_206002.out)) (by decide) hg)
    have n1_ := Asd.mk (blk_grown (g := gb197) (o := .cells #[.int .i64 a0_0, .slice A0_1 l0_1.length c0_1, .slice (some ad209) l0_2.length c0_2] 58 (0, 0)) (by (repeat apply bkS); exact BK197.out) hg (Kd.S_ne HO_206002.out BK197.out (by decide)))
    have n2_ := Asd.mk (blk_grown (g := gb198) (o := .cells #[.int .i64 0, .slice none 0 0, .slice none 0 0] 58 (0, 0)) (by (repeat apply bkS); exact BK198.out) hg (Kd.S_ne HO_206002.out BK198.out (by decide)))
    have n3_ := Asd.mk (blk_grown (g := gb205) (o := .cells #[.int .i64 a0_0, .slice Ao12 y202.length co12, u206002] 58 (0, 0)) (by (repeat apply bkS); exact BK205.out) hg (Kd.S_ne HO_206002.out BK205.out (by decide)))
    have n4_ := Asd.mk (hb)
    have n5_ := Asd.mk (ho)
    clear HO_206001
    clear BK197
    clear BK198
    clear BK205
    clear HB
    clear HO_206002
    clear HO212
    have HO_206001 := n0_
    have BK197 := n1_
    have BK198 := n2_
    have BK205 := n3_
    have HB := n4_
    have HO215 := n5_
    clear n0_ n1_ n2_ n3_ n4_ n5_
    clear ho hb hg hat
    obtain ⟨Ao29, co29, eo29⟩ := Kd.S_slice HO215.out
    (first | subst eo29 | (injection eo29 with f1_ f2_ f3_; have f4_ := f1_.symm; have f5_ := f3_.symm; clear f1_ f2_ f3_; subst f4_; subst f5_))
    refine hK.out _ _ ⟨(bkC BK205.out 0).trans rfl, (bkC BK205.out 1).trans rfl, (bkC BK205.out 2).trans rfl, (bkC BK197.out 0).trans rfl, (bkC BK197.out 1).trans rfl, (bkC BK197.out 2).trans rfl, ((HB.out.cell (World.block_lt_of_cell? w _ hw209_0)).trans hw209_0)⟩ (fun hHeld => ?_)
    clear hK K
    refine norm_ (a' := ?_) ?_ ?_
    rotate_left
    ·show Act.put _ (some 29) _ = _
     simp only [Act.put, qA, qB, qC, i64_w, i32_w]
     rfl
    refine pure_ (i := 11) (N := some 30) (v := ?_) (a' := ?_) #[true, true, true, true, true, true, true, true, true, true, true, true, false] rfl rfl (any_of HT_.out (by kernel_rfl)) (fun _ _ _ h => h) (Or.inl ⟨by rfl, ?_⟩) ?_ ?_
    rotate_left
    ·intro w'
     go_simp
     with_reducible rfl
    rotate_left
    ·simp only [Act.put, qA, qB, qC, i64_w, i32_w]
     rfl
    refine last_ (i := 12) (N := none) #[true, true, true, true, true, true, true, true, true, true, true, true, true] rfl rfl (one_of HT_.out (by kernel_rfl)) (by decide) (fun K hK => ?_)
    have hs30 : w27.cell? ⟨gb205, 2, none⟩ = some (u206002) := (bkC BK205.out 2).trans rfl
    have hfs30 := bkF BK205.out 2
    have hns30_0 := NB197_205.out
    have hns30_1 := NB198_205.out
    have hms30_0 := NB205_197.out
    have hms30_1 := NB205_198.out
    refine skip_ (w1 := ?_) (by rfl) rfl ?_ ?_
    rotate_left
    ·go_simp
     rfl
    refine hK.out _ _ ?_
    clear hK K
    refine done_ (done_of HT_.out (by kernel_rfl)) ?_
    try go_wp2
    go_roundg k1
    case measure => have := HK1.out; omega
    case rel => exact ⟨(wrap64 (x4_1 + 1)), (y213), (.slice Ao29 y213.length co29), (by first | rfl | (simp; done) | (simp [*]; done)), H', ⟨by have := HK1.out; omega⟩, ⟨by (repeat apply Kd.RS); exact Kd.R_mono (Kd.R_far (p := ⟨gb205, 2, none⟩) (Kd.R_types HO_206001.out BK205.out (by decide)) (fun _ hk => hk.2) (.slice Ao29 y213.length co29)) (fun _ hk => trivial)⟩, ⟨by (repeat apply Kd.SS); exact Kd.S_mono (Kd.S_far (p := ⟨gb205, 2, none⟩) (Kd.S_types HO215.out BK205.out (by decide)) (fun _ hk => hk.2) (.slice Ao29 y213.length co29)) (fun _ hk => hk.1)⟩, ⟨by (repeat apply bkS); refine bkR ?_ NB197_205.out _; (repeat apply bkS); exact BK197.out⟩, ⟨by (repeat apply bkS); refine bkR ?_ NB198_205.out _; (repeat apply bkS); exact BK198.out⟩, ⟨by (repeat apply bkS); refine bkP (cs := #[.int .i64 a0_0, .slice Ao12 y202.length co12, u206002]) ?_ 2 _ rfl; (repeat apply bkS); exact BK205.out⟩, ⟨by repeat (with_reducible first | exact HB.out | apply bwX | refine bwS ?_ GE197.out | refine bwS ?_ GE198.out | refine bwS ?_ GE205.out)⟩⟩
   ·rw [if_neg c16] at H
    have c16b0 : decide (x4_1 < (l0_2.length : Int)) = false := decide_eq_false c16
    clear c16
    simp only [Option.some.injEq, Prod.mk.injEq] at H
    obtain ⟨rfl, rfl, rfl⟩ := H
    have hnb31 := NB197_198.out
    have hnc31 := NB198_197.out
    have hnb32 := NB197_205.out
    have hnc32 := NB205_197.out
    have hcz33_0 : wr.cell? ⟨gb197, 0, none⟩ = some (.int .i64 a0_0) := (bkC BK197.out 0).trans rfl
    have hcz33_1 : wr.cell? ⟨gb197, 1, none⟩ = some (.slice A0_1 l0_1.length c0_1) := (bkC BK197.out 1).trans rfl
    have hcz33_2 : wr.cell? ⟨gb197, 2, none⟩ = some (.slice A0_2 l0_2.length c0_2) := (bkC BK197.out 2).trans rfl
    have hfz33_0 := bkF BK197.out 0
    have hfz33_1 := bkF BK197.out 1
    have hfz33_2 := bkF BK197.out 2
    have hnb34 := NB205_198.out
    have hnc34 := NB198_205.out
    have hcz35_0 : wr.cell? ⟨gb205, 0, none⟩ = some (.int .i64 a0_0) := (bkC BK205.out 0).trans rfl
    have hcz35_1 : wr.cell? ⟨gb205, 1, none⟩ = some (.slice Ao12 y202.length co12) := (bkC BK205.out 1).trans rfl
    have hcz35_2 : wr.cell? ⟨gb205, 2, none⟩ = some (u206002) := (bkC BK205.out 2).trans rfl
    have hfz35_0 := bkF BK205.out 0
    have hfz35_1 := bkF BK205.out 1
    have hfz35_2 := bkF BK205.out 2
    have hcz36_0 : wr.cell? ⟨gb198, 0, none⟩ = some (.int .i64 0) := (bkC BK198.out 0).trans rfl
    have hcz36_1 : wr.cell? ⟨gb198, 1, none⟩ = some (.slice none 0 0) := (bkC BK198.out 1).trans rfl
    have hcz36_2 : wr.cell? ⟨gb198, 2, none⟩ = some (.slice none 0 0) := (bkC BK198.out 2).trans rfl
    have hfz36_0 := bkF BK198.out 0
    have hfz36_1 := bkF BK198.out 1
    have hfz36_2 := bkF BK198.out 2
    obtain ⟨Ao37, co37, eo37⟩ := Kd.S_slice HO_206002.out
    subst eo37
    go_wp2
    refine bodyPost_ret (results_cell_row rfl _ _ gb198 58 #[.int .i64 a0_0, .slice Ao12 y202.length co12, .slice Ao37 x206002_1.length co37] (0, 0) _ rfl (by (repeat apply bkS); refine bkP (cs := #[.int .i64 a0_0, .slice Ao12 y202.length co12, .slice none 0 0]) ?_ 2 _ rfl; (repeat apply bkS); refine bkP (cs := #[.int .i64 a0_0, .slice none 0 0, .slice none 0 0]) ?_ 1 _ rfl; (repeat apply bkS); refine bkP (cs := #[.int .i64 0, .slice none 0 0, .slice none 0 0]) ?_ 0 _ rfl; (repeat apply bkS); exact BK198.out) Try.underlying58 rfl (by kernel_rfl)) rfl ?_
    exact ⟨_, _, by first | rfl | (simp [*, errW_none, errW_some] <;> rfl), by (repeat apply Kd.RS); exact Kd.R_mono (Kd.R_far (p := ⟨gb198, 2, none⟩) (Kd.R_far (p := ⟨gb198, 1, none⟩) (Kd.R_far (p := ⟨gb198, 0, none⟩) (Kd.R_types HO_206001.out BK198.out (by decide)) (fun _ hk => hk.2) (.int .i64 a0_0)) (fun _ hk => hk.2) (.slice Ao12 y202.length co12)) (fun _ hk => hk.2) (.slice Ao37 x206002_1.length co37)) (fun _ hk => trivial), by (repeat apply Kd.SS); exact Kd.S_mono (Kd.S_far (p := ⟨gb198, 2, none⟩) (Kd.S_far (p := ⟨gb198, 1, none⟩) (Kd.S_far (p := ⟨gb198, 0, none⟩) (Kd.S_types HO_206002.out BK198.out (by decide)) (fun _ hk => hk.2) (.int .i64 a0_0)) (fun _ hk => hk.2) (.slice Ao12 y202.length co12)) (fun _ hk => hk.2) (.slice Ao37 x206002_1.length co37)) (fun _ hk => hk.1), by repeat (with_reducible first | exact HB.out | apply bwX | refine bwS ?_ GE197.out | refine bwS ?_ GE198.out | refine bwS ?_ GE205.out)⟩

/-! ### spec_SetOk: function 132 -/
def spec_SetOk.f (a0 : Int) (a1 : Int) : Option (Bool) := (spec_l1In.f a0 1 3).bind fun t216 => (if t216 = true then ((spec_l1All.f a0).bind fun t217 => ((spec_l1In.f a1 0 t217).bind fun t218 => (some t218))) else (some false))
set_option maxHeartbeats 8000000 in
set_option maxRecDepth 100000 in
theorem spec_SetOk.calls (a0 : Int) (a1 : Int) (r : Bool) (w : World) (h : spec_SetOk.f a0 a1 = some r) :
  Calls Try.prog 132 #[.int .i64 a0, .int .i64 a1] w fun e w' => e = .returned (.bool r) ∧ Drawn0 w w' := by
 have H : ((spec_l1In.f a0 1 3).bind fun t216 => (if t216 = true then ((spec_l1All.f a0).bind fun t217 => ((spec_l1In.f a1 0 t217).bind fun t218 => (some t218))) else (some false))) = some r := h
 clear h
 replace H := Option.bind_eq_some_iff.mp H
 obtain ⟨t216, A30, H⟩ := H
 try dsimp only at H
 have A3 := Asd.mk A30
 clear A30
 by_cases c4 : t216 = true
 ·subst c4
  rw [if_pos rfl] at H
  replace H := Option.bind_eq_some_iff.mp H
  obtain ⟨t217, A50, H⟩ := H
  try dsimp only at H
  have A5 := Asd.mk A50
  clear A50
  replace H := Option.bind_eq_some_iff.mp H
  obtain ⟨t218, A60, H⟩ := H
  try dsimp only at H
  have A6 := Asd.mk A60
  clear A60
  obtain rfl := Option.some.inj H
  go_enter Try.func132, Try.ntmps132
  go_wp2_with (first | ((with_reducible refine gate_callee (f := 72) rfl ?_); refine gsM (some 6) rfl rfl Try.func72 (by kernel_rfl) rfl #[.int .i64 a0, .int .i64 1, .int .i64 3] rfl ?_; (with_reducible refine (spec_l1In.calls a0 1 3 true _ A3.out).mono ?_); rintro e w' ⟨rfl, ⟨nd, rfl⟩⟩; refine ⟨_, rfl, ?_⟩) | (go_at_call 140; (with_reducible refine (spec_l1All.calls a0 t217 _ A5.out).mono ?_); rintro e w' ⟨rfl, ⟨nd, rfl⟩⟩) | (go_at_call 72; (with_reducible refine (spec_l1In.calls a1 0 t217 t218 _ A6.out).mono ?_); rintro e w' ⟨rfl, ⟨nd, rfl⟩⟩))
  go_ret
  exact ⟨by first | rfl | (simp; done) | (simp [*]; done), by repeat (first | exact Drawn0.refl _ | apply Drawn0.step)⟩
 ·replace c4 := Bool.eq_false_iff.mpr c4
  subst c4
  rw [if_neg (show ¬ (false = true) by decide)] at H
  obtain rfl := Option.some.inj H
  go_enter Try.func132, Try.ntmps132
  go_wp2_with (first | ((with_reducible refine gate_callee (f := 72) rfl ?_); refine gsM (some 6) rfl rfl Try.func72 (by kernel_rfl) rfl #[.int .i64 a0, .int .i64 1, .int .i64 3] rfl ?_; (with_reducible refine (spec_l1In.calls a0 1 3 false _ A3.out).mono ?_); rintro e w' ⟨rfl, ⟨nd, rfl⟩⟩; refine ⟨_, rfl, ?_⟩))
  go_ret
  exact ⟨by first | rfl | (simp; done) | (simp [*]; done), by repeat (first | exact Drawn0.refl _ | apply Drawn0.step)⟩

end Go.Proofs.Ytihgpkohglcijaa.P
