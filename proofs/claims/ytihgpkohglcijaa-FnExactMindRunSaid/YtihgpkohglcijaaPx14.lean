-- Written by a program of this session (wip/hook.py), which runs the kit's printer; Lean checks it.
import Derived.Test.YtihgpkohglcijaaPx0
import Derived.Test.YtihgpkohglcijaaPx11
import Derived.Test.YtihgpkohglcijaaPx12
namespace Go.Proofs.Ytihgpkohglcijaa.P
open Go.RowKit Go.Proofs.YtihgpkohglcijaaW.PrintWords Go.Proofs.YtihgpkohglcijaaW.PrintLast Go.Proofs.YtihgpkohglcijaaW.PrintMore
attribute [local go_sem] max2_int min2_int max_two min_two max_three min_three max_four min_four   -- for this text's walks alone
set_option linter.unusedVariables false
set_option linter.unusedSimpArgs false

abbrev Mk14_0 : Array Bool := #[true, true, true, true, true, false, false, true, false]
abbrev Mk14_1 : Array Bool := #[true, true, true, true, true, true, false, true, false]
abbrev Mk14_2 : Array Bool := #[true, true, true, true, true, true, true, true, false]
/-! ### spec_l10Copy: function 107 -/
def spec_l10Copy.l0 : Nat → Int → Int → List Int → List (List Int) → Int → List Int → List (List Int) → Option (Int × List Int × (List (List Int)))
 | 0, _, _, _, _, _, _, _ => none
 | k + 1, x4, x363000, x363001, x363002, x371000, x371001, x371002 => if x4 < (x363002.length : Int) then ((some (([] : List Int) : List Int)).bind fun y371 => (if 0 ≤ x4 then (if y371.length + (rd_L5 x363002 x4).length < 17592186044416 then (if x371002.length < 5864062014805 then (spec_l10Copy.l0 k (wrap64 (x4 + 1)) x363000 x363001 x363002 x371000 x371001 (x371002 ++ [(y371 ++ (rd_L5 x363002 x4))])) else (none)) else (none)) else (none))) else (some (x371000, x371001, x371002))
def spec_l10Copy.f (k : Nat) (a0_0 : Int) (l0_1 : List Int) (l0_2 : List (List Int)) : Option (Int × List Int × (List (List Int))) := (some (([] : List Int) : List Int)).bind fun y364 => (if y364.length + l0_1.length < 17592186044416 then (spec_l10Copy.l0 k 0 a0_0 l0_1 l0_2 a0_0 (y364 ++ l0_1) ([] : List (List Int))) else (none))
theorem spec_l10Copy.mono_l : ∀ k, (∀ y0 y1 y2 y3 y4 y5 y6, LeO (spec_l10Copy.l0 k y0 y1 y2 y3 y4 y5 y6) (spec_l10Copy.l0 (k + 1) y0 y1 y2 y3 y4 y5 y6))
 | 0 => fun _ _ _ _ _ _ _ r h => by simp [spec_l10Copy.l0] at h
 | k + 1 => by
  have ih0 := spec_l10Copy.mono_l k
  ·intro y0 y1 y2 y3 y4 y5 y6
   unfold spec_l10Copy.l0
   repeat' first
   | (with_reducible first | exact ih0 _ _ _ _ _ _ _ | exact LeO.refl _ | exact LeO.none _ | refine LeO.ite ?_ ?_ | refine LeO.bind ?_ (fun _ => ?_))
   | refine LeO.ite ?_ ?_
   | refine LeO.bind ?_ (fun _ => ?_)
theorem spec_l10Copy.mono : ∀ a0 a1 a2 k, LeO (spec_l10Copy.f k a0 a1 a2) (spec_l10Copy.f (k + 1) a0 a1 a2) := by
 intro a0 a1 a2 k
 have ih0 := spec_l10Copy.mono_l k
 unfold spec_l10Copy.f
 repeat' first
   | (with_reducible first | exact ih0 _ _ _ _ _ _ _ | exact LeO.refl _ | exact LeO.none _ | refine LeO.ite ?_ ?_ | refine LeO.bind ?_ (fun _ => ?_))
   | refine LeO.ite ?_ ?_
   | refine LeO.bind ?_ (fun _ => ?_)
def spec_l10Copy.T1 : Bool × List (List Nat × List Nat) := (true, [([], []), ([0], [0]), ([], []), ([], []), ([3], [3]), ([2, 4], [2, 4]), ([1, 5], [1, 5]), ([], []), ([7, 6, 5, 0, 1, 2, 3, 4, 5, 6, 7], [6, 7])])
def spec_l10Copy.B1 : List Nat := [0, 1, 0, 0, 8, 28, 63, 0, 255]
theorem spec_l10Copy.tab1 : rtab .any (opsOf Try.f107 1) = spec_l10Copy.T1 := by kernel_rfl
theorem spec_l10Copy.bits1 : waitsOk spec_l10Copy.T1.2 spec_l10Copy.B1 = true := by kernel_rfl
def spec_l10Copy.T5 : Bool × List (List Nat × List Nat) := (true, [([], []), ([0], [0]), ([], []), ([], []), ([3], [3]), ([], []), ([4, 5], [4, 5]), ([6], [6]), ([2, 7], [2, 7]), ([8], [8]), ([1, 9, 8], [1, 9]), ([0, 1, 2, 3, 4, 5, 6, 7, 8, 9, 10], []), ([11, 10, 10, 0, 1, 2, 3, 4, 5, 6, 7, 8, 9, 10], [10, 11])])
def spec_l10Copy.B5 : List Nat := [0, 1, 0, 0, 8, 0, 56, 120, 252, 508, 1023, 2047, 4095]
theorem spec_l10Copy.tab5 : rtab .any (opsOf Try.f107 5) = spec_l10Copy.T5 := by kernel_rfl
theorem spec_l10Copy.bits5 : waitsOk spec_l10Copy.T5.2 spec_l10Copy.B5 = true := by kernel_rfl
set_option maxHeartbeats 8000000 in
set_option maxRecDepth 100000 in
theorem spec_l10Copy.calls (k : Nat) (a0_0 : Int) (A0_1 : Option Addr) (c0_1 : Nat) (l0_1 : List Int) (A0_2 : Option Addr) (c0_2 : Nat) (l0_2 : List (List Int)) (r1 : Int) (r2 : List Int) (r3 : List (List Int)) (w : World) (hr0_1 : Kd.C (Kd.int .i64) w A0_1 l0_1.length l0_1) (hc0_1 : l0_1.length ≤ c0_1) (hr0_2 : Kd.C (Kd.slice 3 (Kd.int .i64)) w A0_2 l0_2.length l0_2) (hc0_2 : l0_2.length ≤ c0_2) (h : spec_l10Copy.f k a0_0 l0_1 l0_2 = some (r1, r2, r3)) :
  Calls Try.prog 107 #[.agg #[.int .i64 a0_0, .slice A0_1 l0_1.length c0_1, .slice A0_2 l0_2.length c0_2]] w fun e w' => ∃ v1_ v2_ : Value, e = .returned (.agg #[.int .i64 r1, v1_, v2_]) ∧ Kd.R (Kd.int .i64) 3 w' w.heap.size (fun _ => True) v1_ r2 ∧ Kd.S (Kd.slice 3 (Kd.int .i64)) 55 w' w.heap.size (fun k_ => some k_ ≠ (v1_ : Value).ownBlock) v2_ r3 ∧ Below w.heap.size w w' := by
 have hu58 := Try.underlying58
 have HR0_1 := Asd.mk hr0_1
 have HC0_1 := Asd.mk hc0_1
 clear hr0_1 hc0_1
 have HR0_2 := Asd.mk hr0_2
 have HC0_2 := Asd.mk hc0_2
 clear hr0_2 hc0_2
 have HB := Asd.mk (Below.refl w.heap.size w)
 have H : ((some (([] : List Int) : List Int)).bind fun y364 => (if y364.length + l0_1.length < 17592186044416 then (spec_l10Copy.l0 k 0 a0_0 l0_1 l0_2 a0_0 (y364 ++ l0_1) ([] : List (List Int))) else (none))) = some (r1, r2, r3) := h
 clear h
 obtain ⟨y364, hy364⟩ : ∃ y_ : List Int, y_ = (([] : List Int)) := ⟨_, rfl⟩
 replace H : (if y364.length + l0_1.length < 17592186044416 then (spec_l10Copy.l0 k 0 a0_0 l0_1 l0_2 a0_0 (y364 ++ l0_1) ([] : List (List Int))) else (none)) = some (r1, r2, r3) := by first | (rw [hy364]; with_reducible exact H) | (have H2_ := (Option.bind_some _ _).symm.trans H; rw [hy364]; with_reducible exact H2_) | (have H2_ := (Option.bind_some _ _).symm.trans H; with_reducible exact H2_) | with_reducible exact H | (rw [hy364]; exact H) | exact H
 have Ny364 := Asd.mk hy364
 clear hy364
 by_cases c2 : y364.length + l0_1.length < 17592186044416; rotate_left; (rw [if_neg c2] at H; exact absurd H (by simp))
 rw [if_pos c2] at H
 have LMc2 := Asd.mk c2
 clear c2
 obtain ⟨y367, hy367⟩ : ∃ y_ : List Int, y_ = (y364 ++ l0_1) := ⟨_, rfl⟩
 replace H : (spec_l10Copy.l0 k 0 a0_0 l0_1 l0_2 a0_0 y367 ([] : List (List Int))) = some (r1, r2, r3) := by first | (rw [hy367]; with_reducible exact H) | (have H2_ := (Option.bind_some _ _).symm.trans H; rw [hy367]; with_reducible exact H2_) | (have H2_ := (Option.bind_some _ _).symm.trans H; with_reducible exact H2_) | with_reducible exact H | (rw [hy367]; exact H) | exact H
 have Ny367 := Asd.mk hy367
 clear hy367
 have H' := Asd.mk H
 clear H
 go_enter Try.func107, Try.ntmps107
 try go_wp2_with (first | ((with_reducible refine gate_dst (N := 1) rfl ?_); refine bxE ?hg (N := 1) ?hd (cs := #[.int .i64 a0_0, .slice A0_1 l0_1.length c0_1, .slice A0_2 l0_2.length c0_2]) (t := 58) ?hr ?_; (case hd => rfl); (case hg => rfl); (case hr => first | (go_simp; done) | (go_simp; rfl)); intro gb362 hg w3 hbox hb; have BK362 := Asd.mk (hbox); have GW362 := bG HB hg; have GE362 := bG HB hg; replace HB := bW HB hb; clear hb hbox hg) | ((with_reducible refine gate_dst (N := 2) rfl ?_); refine bxE ?hg (N := 2) ?hd (cs := #[.int .i64 0, .slice none 0 0, .slice none 0 0]) (t := 58) ?hr ?_; (case hd => rfl); (case hg => rfl); (case hr => first | (go_simp; done) | (go_simp; rfl)); intro gb363 hg w4 hbox hb; have BK363 := Asd.mk (hbox); have GW363 := bG HB hg; have GE363 := bG HB hg; replace HB := bW HB hb; have NB362_363 := bL BK362 hg; have NB363_362 := bM BK362 hg; replace BK362 := bU BK362 hb; clear hb hbox hg))
 replace BK362 := Asd.mk (bkD BK362.out)
 replace BK363 := Asd.mk (bkD BK363.out)
 replace HB := Asd.mk (bwD HB.out)
 refine start_ (n := 9) (S := fun w' => w'.cell? ⟨gb362, 0, none⟩ = some (.int .i64 a0_0) ∧ w'.cell? ⟨gb362, 1, none⟩ = some (.slice A0_1 l0_1.length c0_1) ∧ w'.cell? ⟨gb362, 2, none⟩ = some (.slice A0_2 l0_2.length c0_2)) (ds := []) #[false, false, false, false, false, false, false, false, false] (by kernel_rfl) rfl rfl ⟨(bkC BK362.out 0).trans rfl, (bkC BK362.out 1).trans rfl, (bkC BK362.out 2).trans rfl⟩ (fun hHeld => ?_); refine with_tabW spec_l10Copy.tab1 spec_l10Copy.bits1 (fun HT_ HW_ => ?_)
 generalize w4.drew = w5 at BK362 BK363 HB hHeld ⊢
 refine pure_ (i := 0) (N := some 5) (v := ?_) (a' := ?_) #[true, false, false, false, false, false, false, false, false] rfl rfl (any_of HT_.out (by kernel_rfl)) (fun _ _ _ h => h) (Or.inl ⟨by rfl, ?_⟩) ?_ ?_
 rotate_left
 ·intro w'
  go_simp
  with_reducible rfl
 rotate_left
 ·simp only [Act.put, qA, qB, qC, i64_w, i32_w]
  rfl
 refine pure_ (i := 3) (N := some 8) (v := ?_) (a' := ?_) #[true, false, false, true, false, false, false, false, false] rfl rfl (any_of HT_.out (by kernel_rfl)) (fun _ _ _ h => h) (Or.inl ⟨by rfl, ?_⟩) ?_ ?_
 rotate_left
 ·intro w'
  go_simp
  with_reducible rfl
 rotate_left
 ·simp only [Act.put, qA, qB, qC, i64_w, i32_w]
  rfl
 refine take_ (i := 1) (N := some 6) (v := ?_) (a' := ?_) #[true, true, false, true, false, false, false, false, false] rfl rfl (take_ofW HT_.out HW_.out (by kernel_rfl)) (fun _ _ _ h => h) (Or.inl ⟨by rfl, ?_⟩) hHeld ?_ ?_
 rotate_left
 ·rintro w' ⟨s0, s1, s2⟩
  go_simp
  with_reducible rfl
 rotate_left
 ·simp only [Act.put, qA, qB, qC, i64_w, i32_w]
  rfl
 refine take_ (i := 4) (N := some 9) (v := ?_) (a' := ?_) #[true, true, false, true, true, false, false, false, false] rfl rfl (take_ofW HT_.out HW_.out (by kernel_rfl)) (fun _ _ _ h => h) (Or.inl ⟨by rfl, ?_⟩) hHeld ?_ ?_
 rotate_left
 ·rintro w' ⟨s0, s1, s2⟩
  go_simp
  with_reducible rfl
 rotate_left
 ·simp only [Act.put, qA, qB, qC, i64_w, i32_w]
  rfl
 refine join_ (σ := Value × Value × Nat) 1 Mk14_2 (fun s_ => [(7, s_.1), (10, s_.2.1), (3, .pointer (some ⟨s_.2.2, 0, none⟩)), (11, .agg #[.int .i64 a0_0, s_.2.1, .slice none 0 0])]) (fun s_ w' => (w'.cell? ⟨gb362, 0, none⟩ = some (.int .i64 a0_0) ∧ w'.cell? ⟨gb362, 1, none⟩ = some (.slice A0_1 l0_1.length c0_1) ∧ w'.cell? ⟨gb362, 2, none⟩ = some (.slice A0_2 l0_2.length c0_2)) ∧ (Kd.R (Kd.int .i64) 3 w' w.heap.size (fun _ => True) s_.2.1 y367) ∧ (w'.heap[gb362]? = some (.cells #[.int .i64 a0_0, .slice A0_1 l0_1.length c0_1, .slice A0_2 l0_2.length c0_2] 58 (0, 0))) ∧ (w'.heap[gb363]? = some (.cells #[.int .i64 0, .slice none 0 0, .slice none 0 0] 58 (0, 0))) ∧ (w'.heap[s_.2.2]? = some (.cells #[.int .i64 0, .slice none 0 0, .slice none 0 0] 58 (0, 0))) ∧ (w.heap.size ≤ s_.2.2) ∧ (w.heap.size ≤ s_.2.2) ∧ (gb362 ≠ s_.2.2) ∧ (s_.2.2 ≠ gb362) ∧ (gb363 ≠ s_.2.2) ∧ (s_.2.2 ≠ gb363) ∧ (Below w.heap.size w w')) ?_ ?_
 rotate_left
 ·intro hCont
  refine two_ (i := 2) (j := 7) (Ni := some 7) (Nj := some 3) #[true, true, true, true, true, false, false, false, false] #[true, true, false, true, true, false, false, true, false] rfl rfl rfl rfl (two_of HT_.out (by kernel_rfl)) (by decide) (by decide) (fun K hK => ?_) (fun K hK => ?_)
  ·skip
   refine Kd.R_lit_step (Kd.int .i64) _ 3 ?hg (N := 7) ?hd (xs := ([] : List Int)) (inner := []) (ok := fun _ => True) (okp := fun _ => True) ?hr ?hp (fun _ hk => hk) trivial (Below.refl _ _) (Nat.le_refl _) (by simp) ?_; (case hd => rfl); (case hg => rfl); (case hr => first | (go_simp; done) | (go_simp; rfl)); (case hp => exact (Reps.none _ _))
   intro v365 w6 ho7 hb hg_ hnew_
   clear hg_ hnew_
   (first | rw [← Ny364.out] at ho7 | (simp only [Int.reduceToNat] at ho7; rw [← Ny364.out] at ho7))
   have HO366 := Asd.mk (Kd.R_lower ho7 (below_size (wZ HB)))
   replace BK362 := bU BK362 hb
   replace BK363 := bU BK363 hb
   replace HB := bW HB hb
   clear hb ho7
   refine hK.out _ _ ⟨(bkC BK362.out 0).trans rfl, (bkC BK362.out 1).trans rfl, (bkC BK362.out 2).trans rfl⟩ (fun hHeld => ?_)
   clear hK K
   refine norm_ (a' := ?_) ?_ ?_
   rotate_left
   ·show Act.put _ (some 7) _ = _
    simp only [Act.put, qA, qB, qC, i64_w, i32_w]
    rfl
   refine two_ (i := 5) (j := 7) (Ni := some 10) (Nj := some 3) #[true, true, true, true, true, true, false, false, false] Mk14_0 rfl rfl rfl rfl (two_of HT_.out (by kernel_rfl)) (by decide) (by decide) (fun K hK => ?_) (fun K hK => ?_)
   ·skip
    refine Kd.R_append_rows_step (Kd.int .i64) (w0 := w) w.heap.size (by rfl) (.tmp 7) (.tmp 9) 55 3 (.int .i64 0) 8 rfl Try.underlying55 info3 rfl (by decide) (by omega) v365 y364 l0_1 _ _ _ (fun _ => True) (fun _ => False) rfl rfl ?aO ?aR (fun _ _ h => h) (fun _ h => h.elim) ?aF ?aB ?aS ?aL ?_
    (case aR => repeat (first | exact (Kd.C_below HR0_1.out HB.out) | (with_reducible refine Kd.C_alloc ?_ _) | (with_reducible refine Kd.C_drewN ?_ _) | (with_reducible refine Kd.C_drew ?_)))
    (case aB => exact (wZ HB))
    (case aF => exact (fun _ _ => trivial))
    (case aO => exact (rS HO366))
    (case aS => exact (below_size (wZ HB)))
    (case aL => have := LMc2.out; omega)
    intro v368 w8 ho hb hg hat
    rw [← Ny367.out] at ho
    replace BK362 := bN BK362 hg (Kd.R_ne HO366.out BK362.out (by decide))
    replace BK363 := bN BK363 hg (Kd.R_ne HO366.out BK363.out (by decide))
    replace HB := Asd.mk (hb)
    have HO369 := Asd.mk (ho)
    clear HO366 ho hb hg hat
    obtain ⟨Ao9, co9, eo9⟩ := Kd.R_slice HO369.out
    (first | subst eo9 | (injection eo9 with f1_ f2_ f3_; have f4_ := f1_.symm; have f5_ := f3_.symm; clear f1_ f2_ f3_; subst f4_; subst f5_))
    refine hK.out _ _ ⟨(bkC BK362.out 0).trans rfl, (bkC BK362.out 1).trans rfl, (bkC BK362.out 2).trans rfl⟩ (fun hHeld => ?_)
    clear hK K
    refine norm_ (a' := ?_) ?_ ?_
    rotate_left
    ·show Act.put _ (some 10) _ = _
     simp only [Act.put, qA, qB, qC, i64_w, i32_w]
     rfl
    refine pure_ (i := 6) (N := some 11) (v := ?_) (a' := ?_) #[true, true, true, true, true, true, true, false, false] rfl rfl (any_of HT_.out (by kernel_rfl)) (fun _ _ _ h => h) (Or.inl ⟨by rfl, ?_⟩) ?_ ?_
    rotate_left
    ·intro w'
     go_simp
     with_reducible rfl
    rotate_left
    ·simp only [Act.put, qA, qB, qC, i64_w, i32_w]
     rfl
    refine one_ (i := 7) (N := some 3) Mk14_2 rfl rfl (one_of HT_.out (by kernel_rfl)) (by decide) (fun K hK => ?_)
    refine box_step ?hg (N := 3) ?hd (cs := #[.int .i64 0, .slice none 0 0, .slice none 0 0]) (t := 58) ?hr ?_; (case hd => rfl); (case hg => rfl); (case hr => first | (go_simp; done) | (go_simp; rfl))
    intro gb370 hg w10 hbox hb
    replace HO369 := bR HO369 hb
    have BK370 := Asd.mk (hbox)
    have GW370 := bG HB hg
    have GE370 := bG HB hg
    replace HB := bW HB hb
    have NB362_370 := bL BK362 hg
    have NB370_362 := bM BK362 hg
    replace BK362 := bU BK362 hb
    have NB363_370 := bL BK363 hg
    have NB370_363 := bM BK363 hg
    replace BK363 := bU BK363 hb
    clear hb hbox hg
    refine hK.out _ _ ⟨(bkC BK362.out 0).trans rfl, (bkC BK362.out 1).trans rfl, (bkC BK362.out 2).trans rfl⟩ (fun hHeld => ?_)
    clear hK K
    refine norm_ (a' := ?_) ?_ ?_
    rotate_left
    ·show Act.put _ (some 3) _ = _
     simp only [Act.put, qA, qB, qC, i64_w, i32_w]
     rfl
    exact norm_ (by simp only [putAll, Act.put, qA, qB, qC]) (hCont (v365, .slice Ao9 y367.length co9, gb370) _ ⟨hHeld, (rS HO369), (kS BK362), (kS BK363), (kS BK370), GW370.out, GE370.out, NB362_370.out, NB370_362.out, NB363_370.out, NB370_363.out, (wZ HB)⟩)
   ·skip
    refine box_step ?hg (N := 3) ?hd (cs := #[.int .i64 0, .slice none 0 0, .slice none 0 0]) (t := 58) ?hr ?_; (case hd => rfl); (case hg => rfl); (case hr => first | (go_simp; done) | (go_simp; rfl))
    intro gb370 hg w8 hbox hb
    replace HO366 := bR HO366 hb
    have BK370 := Asd.mk (hbox)
    have GW370 := bG HB hg
    have GE370 := bG HB hg
    replace HB := bW HB hb
    have NB362_370 := bL BK362 hg
    have NB370_362 := bM BK362 hg
    replace BK362 := bU BK362 hb
    have NB363_370 := bL BK363 hg
    have NB370_363 := bM BK363 hg
    replace BK363 := bU BK363 hb
    clear hb hbox hg
    refine hK.out _ _ ⟨(bkC BK362.out 0).trans rfl, (bkC BK362.out 1).trans rfl, (bkC BK362.out 2).trans rfl⟩ (fun hHeld => ?_)
    clear hK K
    refine norm_ (a' := ?_) ?_ ?_
    rotate_left
    ·show Act.put _ (some 3) _ = _
     simp only [Act.put, qA, qB, qC, i64_w, i32_w]
     rfl
    refine one_ (i := 5) (N := some 10) Mk14_1 rfl rfl (one_of HT_.out (by kernel_rfl)) (by decide) (fun K hK => ?_)
    refine Kd.R_append_rows_step (Kd.int .i64) (w0 := w) w.heap.size (by rfl) (.tmp 7) (.tmp 9) 55 3 (.int .i64 0) 8 rfl Try.underlying55 info3 rfl (by decide) (by omega) v365 y364 l0_1 _ _ _ (fun _ => True) (fun _ => False) rfl rfl ?aO ?aR (fun _ _ h => h) (fun _ h => h.elim) ?aF ?aB ?aS ?aL ?_
    (case aR => repeat (first | exact (Kd.C_below HR0_1.out HB.out) | (with_reducible refine Kd.C_alloc ?_ _) | (with_reducible refine Kd.C_drewN ?_ _) | (with_reducible refine Kd.C_drew ?_)))
    (case aB => exact (wZ HB))
    (case aF => exact (fun _ _ => trivial))
    (case aO => exact (rS HO366))
    (case aS => exact (below_size (wZ HB)))
    (case aL => have := LMc2.out; omega)
    intro v368 w9 ho hb hg hat
    rw [← Ny367.out] at ho
    replace BK362 := bN BK362 hg (Kd.R_ne HO366.out BK362.out (by decide))
    replace BK363 := bN BK363 hg (Kd.R_ne HO366.out BK363.out (by decide))
    replace BK370 := bN BK370 hg (Kd.R_ne HO366.out BK370.out (by decide))
    replace HB := Asd.mk (hb)
    have HO369 := Asd.mk (ho)
    clear HO366 ho hb hg hat
    obtain ⟨Ao10, co10, eo10⟩ := Kd.R_slice HO369.out
    (first | subst eo10 | (injection eo10 with f1_ f2_ f3_; have f4_ := f1_.symm; have f5_ := f3_.symm; clear f1_ f2_ f3_; subst f4_; subst f5_))
    refine hK.out _ _ ⟨(bkC BK362.out 0).trans rfl, (bkC BK362.out 1).trans rfl, (bkC BK362.out 2).trans rfl⟩ (fun hHeld => ?_)
    clear hK K
    refine norm_ (a' := ?_) ?_ ?_
    rotate_left
    ·show Act.put _ (some 10) _ = _
     simp only [Act.put, qA, qB, qC, i64_w, i32_w]
     rfl
    refine pure_ (i := 6) (N := some 11) (v := ?_) (a' := ?_) Mk14_2 rfl rfl (any_of HT_.out (by kernel_rfl)) (fun _ _ _ h => h) (Or.inl ⟨by rfl, ?_⟩) ?_ ?_
    rotate_left
    ·intro w'
     go_simp
     with_reducible rfl
    rotate_left
    ·simp only [Act.put, qA, qB, qC, i64_w, i32_w]
     rfl
    exact norm_ (by simp only [putAll, Act.put, qA, qB, qC]) (hCont (v365, .slice Ao10 y367.length co10, gb370) _ ⟨hHeld, (rS HO369), (kS BK362), (kS BK363), (kS BK370), GW370.out, GE370.out, NB362_370.out, NB370_362.out, NB363_370.out, NB370_363.out, (wZ HB)⟩)
  ·skip
   refine box_step ?hg (N := 3) ?hd (cs := #[.int .i64 0, .slice none 0 0, .slice none 0 0]) (t := 58) ?hr ?_; (case hd => rfl); (case hg => rfl); (case hr => first | (go_simp; done) | (go_simp; rfl))
   intro gb370 hg w6 hbox hb
   have BK370 := Asd.mk (hbox)
   have GW370 := bG HB hg
   have GE370 := bG HB hg
   replace HB := bW HB hb
   have NB362_370 := bL BK362 hg
   have NB370_362 := bM BK362 hg
   replace BK362 := bU BK362 hb
   have NB363_370 := bL BK363 hg
   have NB370_363 := bM BK363 hg
   replace BK363 := bU BK363 hb
   clear hb hbox hg
   refine hK.out _ _ ⟨(bkC BK362.out 0).trans rfl, (bkC BK362.out 1).trans rfl, (bkC BK362.out 2).trans rfl⟩ (fun hHeld => ?_)
   clear hK K
   refine norm_ (a' := ?_) ?_ ?_
   rotate_left
   ·show Act.put _ (some 3) _ = _
    simp only [Act.put, qA, qB, qC, i64_w, i32_w]
    rfl
   refine one_ (i := 2) (N := some 7) Mk14_0 rfl rfl (one_of HT_.out (by kernel_rfl)) (by decide) (fun K hK => ?_)
   refine Kd.R_lit_step (Kd.int .i64) _ 3 ?hg (N := 7) ?hd (xs := ([] : List Int)) (inner := []) (ok := fun _ => True) (okp := fun _ => True) ?hr ?hp (fun _ hk => hk) trivial (Below.refl _ _) (Nat.le_refl _) (by simp) ?_; (case hd => rfl); (case hg => rfl); (case hr => first | (go_simp; done) | (go_simp; rfl)); (case hp => exact (Reps.none _ _))
   intro v365 w7 ho8 hb hg_ hnew_
   clear hg_ hnew_
   (first | rw [← Ny364.out] at ho8 | (simp only [Int.reduceToNat] at ho8; rw [← Ny364.out] at ho8))
   have HO366 := Asd.mk (Kd.R_lower ho8 (below_size (wZ HB)))
   replace BK362 := bU BK362 hb
   replace BK363 := bU BK363 hb
   replace BK370 := bU BK370 hb
   replace HB := bW HB hb
   clear hb ho8
   refine hK.out _ _ ⟨(bkC BK362.out 0).trans rfl, (bkC BK362.out 1).trans rfl, (bkC BK362.out 2).trans rfl⟩ (fun hHeld => ?_)
   clear hK K
   refine norm_ (a' := ?_) ?_ ?_
   rotate_left
   ·show Act.put _ (some 7) _ = _
    simp only [Act.put, qA, qB, qC, i64_w, i32_w]
    rfl
   refine one_ (i := 5) (N := some 10) Mk14_1 rfl rfl (one_of HT_.out (by kernel_rfl)) (by decide) (fun K hK => ?_)
   refine Kd.R_append_rows_step (Kd.int .i64) (w0 := w) w.heap.size (by rfl) (.tmp 7) (.tmp 9) 55 3 (.int .i64 0) 8 rfl Try.underlying55 info3 rfl (by decide) (by omega) v365 y364 l0_1 _ _ _ (fun _ => True) (fun _ => False) rfl rfl ?aO ?aR (fun _ _ h => h) (fun _ h => h.elim) ?aF ?aB ?aS ?aL ?_
   (case aR => repeat (first | exact (Kd.C_below HR0_1.out HB.out) | (with_reducible refine Kd.C_alloc ?_ _) | (with_reducible refine Kd.C_drewN ?_ _) | (with_reducible refine Kd.C_drew ?_)))
   (case aB => exact (wZ HB))
   (case aF => exact (fun _ _ => trivial))
   (case aO => exact (rS HO366))
   (case aS => exact (below_size (wZ HB)))
   (case aL => have := LMc2.out; omega)
   intro v368 w9 ho hb hg hat
   rw [← Ny367.out] at ho
   replace BK362 := bN BK362 hg (Kd.R_ne HO366.out BK362.out (by decide))
   replace BK363 := bN BK363 hg (Kd.R_ne HO366.out BK363.out (by decide))
   replace BK370 := bN BK370 hg (Kd.R_ne HO366.out BK370.out (by decide))
   replace HB := Asd.mk (hb)
   have HO369 := Asd.mk (ho)
   clear HO366 ho hb hg hat
   obtain ⟨Ao10, co10, eo10⟩ := Kd.R_slice HO369.out
   (first | subst eo10 | (injection eo10 with f1_ f2_ f3_; have f4_ := f1_.symm; have f5_ := f3_.symm; clear f1_ f2_ f3_; subst f4_; subst f5_))
   refine hK.out _ _ ⟨(bkC BK362.out 0).trans rfl, (bkC BK362.out 1).trans rfl, (bkC BK362.out 2).trans rfl⟩ (fun hHeld => ?_)
   clear hK K
   refine norm_ (a' := ?_) ?_ ?_
   rotate_left
   ·show Act.put _ (some 10) _ = _
    simp only [Act.put, qA, qB, qC, i64_w, i32_w]
    rfl
   refine pure_ (i := 6) (N := some 11) (v := ?_) (a' := ?_) Mk14_2 rfl rfl (any_of HT_.out (by kernel_rfl)) (fun _ _ _ h => h) (Or.inl ⟨by rfl, ?_⟩) ?_ ?_
   rotate_left
   ·intro w'
    go_simp
    with_reducible rfl
   rotate_left
   ·simp only [Act.put, qA, qB, qC, i64_w, i32_w]
    rfl
   exact norm_ (by simp only [putAll, Act.put, qA, qB, qC]) (hCont (v365, .slice Ao10 y367.length co10, gb370) _ ⟨hHeld, (rS HO369), (kS BK362), (kS BK363), (kS BK370), GW370.out, GE370.out, NB362_370.out, NB370_362.out, NB363_370.out, NB370_363.out, (wZ HB)⟩)
 rintro ⟨v365, v368, gb370⟩ w11 ⟨hS_, h0_, h1_, h2_, h3_, h4_, h5_, h6_, h7_, h8_, h9_, h10_⟩
 have HO369 : Asd (Kd.R (Kd.int .i64) 3 w11 w.heap.size (fun _ => True) v368 y367) := ⟨h0_⟩
 replace BK362 : Asd (w11.heap[gb362]? = some (.cells #[.int .i64 a0_0, .slice A0_1 l0_1.length c0_1, .slice A0_2 l0_2.length c0_2] 58 (0, 0))) := ⟨h1_⟩
 replace BK363 : Asd (w11.heap[gb363]? = some (.cells #[.int .i64 0, .slice none 0 0, .slice none 0 0] 58 (0, 0))) := ⟨h2_⟩
 have BK370 : Asd (w11.heap[gb370]? = some (.cells #[.int .i64 0, .slice none 0 0, .slice none 0 0] 58 (0, 0))) := ⟨h3_⟩
 have GW370 : Asd (w.heap.size ≤ gb370) := ⟨h4_⟩
 have GE370 : Asd (w.heap.size ≤ gb370) := ⟨h5_⟩
 have NB362_370 : Asd (gb362 ≠ gb370) := ⟨h6_⟩
 have NB370_362 : Asd (gb370 ≠ gb362) := ⟨h7_⟩
 have NB363_370 : Asd (gb363 ≠ gb370) := ⟨h8_⟩
 have NB370_363 : Asd (gb370 ≠ gb363) := ⟨h9_⟩
 replace HB : Asd (Below w.heap.size w w11) := ⟨h10_⟩
 clear h0_ h1_ h2_ h3_ h4_ h5_ h6_ h7_ h8_ h9_ h10_
 have hHeld : w11.cell? ⟨gb362, 0, none⟩ = some (.int .i64 a0_0) ∧ w11.cell? ⟨gb362, 1, none⟩ = some (.slice A0_1 l0_1.length c0_1) ∧ w11.cell? ⟨gb362, 2, none⟩ = some (.slice A0_2 l0_2.length c0_2) := hS_
 obtain ⟨Ao12, co12, eo12⟩ := Kd.R_slice HO369.out
 (first | subst eo12 | (injection eo12 with f1_ f2_ f3_; have f4_ := f1_.symm; have f5_ := f3_.symm; clear f1_ f2_ f3_; subst f4_; subst f5_))
 refine norm_ (a' := ?_) ?_ ?_
 rotate_left
 ·simp only [putAll, Act.put, qA, qB, qC]
  rfl
 refine one_ (i := 8) (N := none) #[true, true, true, true, true, true, true, true, true] rfl rfl (one_of HT_.out (by kernel_rfl)) (by decide) (fun K hK => ?_)
 have hs13 := bC BK370 0
 have hfs13 := bkF BK370.out 0
 have hns13_0 := NB362_370.out
 have hns13_1 := NB363_370.out
 have hms13_0 := NB370_362.out
 have hms13_1 := NB370_363.out
 have hs14 := bC BK370 1
 have hfs14 := bkF BK370.out 1
 have hns14_0 := NB362_370.out
 have hns14_1 := NB363_370.out
 have hms14_0 := NB370_362.out
 have hms14_1 := NB370_363.out
 have hs15 := bC BK370 2
 have hfs15 := bkF BK370.out 2
 have hns15_0 := NB362_370.out
 have hns15_1 := NB363_370.out
 have hms15_0 := NB370_362.out
 have hms15_1 := NB370_363.out
 refine skip_ (w1 := ?_) (by rfl) rfl ?_ ?_
 rotate_left
 ·go_simp
  rfl
 refine hK.out _ _ ⟨((cell_far (p := ⟨gb370, _, none⟩) NB362_370.out _).trans (((cell_far (p := ⟨gb370, _, none⟩) NB362_370.out _).trans (((cell_far (p := ⟨gb370, _, none⟩) NB362_370.out _).trans (hHeld.1)))))), ((cell_far (p := ⟨gb370, _, none⟩) NB362_370.out _).trans (((cell_far (p := ⟨gb370, _, none⟩) NB362_370.out _).trans (((cell_far (p := ⟨gb370, _, none⟩) NB362_370.out _).trans (hHeld.2.1)))))), ((cell_far (p := ⟨gb370, _, none⟩) NB362_370.out _).trans (((cell_far (p := ⟨gb370, _, none⟩) NB362_370.out _).trans (((cell_far (p := ⟨gb370, _, none⟩) NB362_370.out _).trans (hHeld.2.2))))))⟩ (fun hHeld => ?_)
 clear hK K
 refine done_ (done_of HT_.out (by kernel_rfl)) ?_
 try go_wp2
 go_loopg [4] k (fun kq v4 w' => ∃ (x4_1 : Int) (x371002_1 : List (List Int)) (u371002 : Value), v4 = .int .i64 x4_1 ∧ Asd (spec_l10Copy.l0 kq x4_1 a0_0 l0_1 l0_2 a0_0 y367 x371002_1 = some (r1, r2, r3)) ∧ Asd (kq ≤ k) ∧ Asd (Kd.R (Kd.int .i64) 3 w' w.heap.size (fun _ => True) (.slice Ao12 y367.length co12) y367) ∧ Asd (Kd.S (Kd.slice 3 (Kd.int .i64)) 55 w' w.heap.size (fun k_ => some k_ ≠ ((.slice Ao12 y367.length co12) : Value).ownBlock) u371002 x371002_1) ∧ Asd (w'.heap[gb362]? = some (.cells #[.int .i64 a0_0, (.slice A0_1 l0_1.length c0_1), (.slice A0_2 l0_2.length c0_2)] 58 (0, 0))) ∧ Asd (w'.heap[gb363]? = some (.cells #[.int .i64 0, (.slice none 0 0), (.slice none 0 0)] 58 (0, 0))) ∧ Asd (w'.heap[gb370]? = some (.cells #[.int .i64 a0_0, (.slice Ao12 y367.length co12), u371002] 58 (0, 0))) ∧ Asd (Below w.heap.size w w'))
 case atStart => exact ⟨(0), (([] : List (List Int))), (.slice none 0 0), (by first | rfl | (simp; done) | (simp [*]; done)), H', ⟨Nat.le_refl _⟩, ⟨rT HO369⟩, ⟨by first | exact Kd.S_nil _ _ _ _ _ | exact Kd.N_nil _ _ _ _ _ | exact Kd.V_nil _ _ _ _ _ | exact Kd.Q_nil _ _ _ _ _ | exact Kd.R_nil _ _ _ _ _⟩, ⟨kS BK362⟩, ⟨kS BK363⟩, ⟨kP BK370⟩, ⟨wZ HB⟩⟩
 case round =>
  clear H'
  obtain ⟨x4_1, x371002_1, u371002, rfl, HA, HK1, HO_371001, HO_371002, BK362, BK363, BK370, HB⟩ := hrel
  cases gk with
  | zero => exact absurd HA.out (by simp [spec_l10Copy.l0])
  | succ k1 =>
   have H := HA.out
   clear HA
   simp only [spec_l10Copy.l0] at H
   by_cases c16 : x4_1 < (l0_2.length : Int)
   ·rw [if_pos c16] at H
    have c16b0 : decide (x4_1 < (l0_2.length : Int)) = true := decide_eq_true c16
    clear c16
    obtain ⟨y371, hy371⟩ : ∃ y_ : List Int, y_ = (([] : List Int)) := ⟨_, rfl⟩
    replace H : (if 0 ≤ x4_1 then (if y371.length + (rd_L5 l0_2 x4_1).length < 17592186044416 then (if x371002_1.length < 5864062014805 then (spec_l10Copy.l0 k1 (wrap64 (x4_1 + 1)) a0_0 l0_1 l0_2 a0_0 y367 (x371002_1 ++ [(y371 ++ (rd_L5 l0_2 x4_1))])) else (none)) else (none)) else (none)) = some (r1, r2, r3) := by first | (rw [hy371]; with_reducible exact H) | (have H2_ := (Option.bind_some _ _).symm.trans H; rw [hy371]; with_reducible exact H2_) | (have H2_ := (Option.bind_some _ _).symm.trans H; with_reducible exact H2_) | with_reducible exact H | (rw [hy371]; exact H) | exact H
    have Ny371 := Asd.mk hy371
    clear hy371
    by_cases c17 : 0 ≤ x4_1; rotate_left; (rw [if_neg c17] at H; exact absurd H (by simp))
    rw [if_pos c17] at H
    have c17b0 : decide (0 ≤ x4_1) = true := decide_eq_true c17
    clear c17
    by_cases c18 : y371.length + (rd_L5 l0_2 x4_1).length < 17592186044416; rotate_left; (rw [if_neg c18] at H; exact absurd H (by simp))
    rw [if_pos c18] at H
    have LMc18 := Asd.mk c18
    clear c18
    obtain ⟨y375, hy375⟩ : ∃ y_ : List Int, y_ = (y371 ++ (rd_L5 l0_2 x4_1)) := ⟨_, rfl⟩
    replace H : (if x371002_1.length < 5864062014805 then (spec_l10Copy.l0 k1 (wrap64 (x4_1 + 1)) a0_0 l0_1 l0_2 a0_0 y367 (x371002_1 ++ [y375])) else (none)) = some (r1, r2, r3) := by first | (rw [hy375]; with_reducible exact H) | (have H2_ := (Option.bind_some _ _).symm.trans H; rw [hy375]; with_reducible exact H2_) | (have H2_ := (Option.bind_some _ _).symm.trans H; with_reducible exact H2_) | with_reducible exact H | (rw [hy375]; exact H) | exact H
    have Ny375 := Asd.mk hy375
    clear hy375
    by_cases c19 : x371002_1.length < 5864062014805; rotate_left; (rw [if_neg c19] at H; exact absurd H (by simp))
    rw [if_pos c19] at H
    have LMc19 := Asd.mk c19
    clear c19
    obtain ⟨y378, hy378⟩ : ∃ y_ : List (List Int), y_ = (x371002_1 ++ [y375]) := ⟨_, rfl⟩
    replace H : (spec_l10Copy.l0 k1 (wrap64 (x4_1 + 1)) a0_0 l0_1 l0_2 a0_0 y367 y378) = some (r1, r2, r3) := by first | (rw [hy378]; with_reducible exact H) | (have H2_ := (Option.bind_some _ _).symm.trans H; rw [hy378]; with_reducible exact H2_) | (have H2_ := (Option.bind_some _ _).symm.trans H; with_reducible exact H2_) | with_reducible exact H | (rw [hy378]; exact H) | exact H
    have Ny378 := Asd.mk hy378
    clear hy378
    have H' := Asd.mk H
    clear H
    have hnb20 := NB362_363.out
    have hnc20 := NB363_362.out
    have hnb21 := NB362_370.out
    have hnc21 := NB370_362.out
    obtain ⟨hcz22_0, hcz22_1, hcz22_2, hfz22_0, hfz22_1, hfz22_2⟩ := b3 BK362
    try go_wp2
    replace HO_371001 := Asd.mk (Kd.R_drew HO_371001.out)
    replace HO_371002 := Asd.mk (Kd.S_drew HO_371002.out)
    replace BK362 := Asd.mk (bkD BK362.out)
    replace BK363 := Asd.mk (bkD BK363.out)
    replace BK370 := Asd.mk (bkD BK370.out)
    replace HB := Asd.mk (bwD HB.out)
    have p374 : 0 ≤ (x4_1 : Int) := odt
    have q374 : x4_1 < (l0_2.length : Int) := odt
    obtain ⟨ad374, A374_0, c374_0, e374, hx374_0, hl374_0, hi374_0⟩ := at_L5 HR0_2.out x4_1 p374 q374
    have hw374_0 := hx374_0
    cases e374
    replace hx374_0 := (HB.out.cell (World.block_lt_of_cell? w _ hx374_0)).trans hx374_0
    have HR374_0 := Asd.mk hi374_0
    have HC374_0 := Asd.mk hl374_0
    clear hi374_0 hl374_0
    replace p374 := eq_true p374
    replace q374 := eq_true q374
    refine start_ (n := 13) (S := fun w' => w'.cell? ⟨gb370, 0, none⟩ = some (.int .i64 a0_0) ∧ w'.cell? ⟨gb370, 1, none⟩ = some (.slice Ao12 y367.length co12) ∧ w'.cell? ⟨gb370, 2, none⟩ = some (u371002) ∧ w'.cell? ⟨gb362, 0, none⟩ = some (.int .i64 a0_0) ∧ w'.cell? ⟨gb362, 1, none⟩ = some (.slice A0_1 l0_1.length c0_1) ∧ w'.cell? ⟨gb362, 2, none⟩ = some (.slice (some ad374) l0_2.length c0_2) ∧ w'.cell? (ad374.add (x4_1).toNat) = some (.slice A374_0 (rd_L5 l0_2 x4_1).length c374_0)) (ds := [12]) #[false, false, false, false, false, false, false, false, false, false, false, false, false] (by kernel_rfl) rfl rfl ⟨(bkC BK370.out 0).trans rfl, (bkC BK370.out 1).trans rfl, (bkC BK370.out 2).trans rfl, (bkC BK362.out 0).trans rfl, (bkC BK362.out 1).trans rfl, (bkC BK362.out 2).trans rfl, ((HB.out.cell (World.block_lt_of_cell? w _ hw374_0)).trans hw374_0)⟩ (fun hHeld => ?_); refine with_tabW spec_l10Copy.tab5 spec_l10Copy.bits5 (fun HT_ HW_ => ?_)
    generalize wr.drew = w23 at HO_371001 HO_371002 BK362 BK363 BK370 HB HR374_0 hx374_0 hHeld ⊢
    refine pure_ (i := 0) (N := some 19) (v := ?_) (a' := ?_) #[true, false, false, false, false, false, false, false, false, false, false, false, false] rfl rfl (any_of HT_.out (by kernel_rfl)) (fun _ _ _ h => h) (Or.inl ⟨by rfl, ?_⟩) ?_ ?_
    rotate_left
    ·intro w'
     go_simp
     with_reducible rfl
    rotate_left
    ·simp only [Act.put, qA, qB, qC, i64_w, i32_w]
     rfl
    refine pure_ (i := 3) (N := some 22) (v := ?_) (a' := ?_) #[true, false, false, true, false, false, false, false, false, false, false, false, false] rfl rfl (any_of HT_.out (by kernel_rfl)) (fun _ _ _ h => h) (Or.inl ⟨by rfl, ?_⟩) ?_ ?_
    rotate_left
    ·intro w'
     go_simp
     with_reducible rfl
    rotate_left
    ·simp only [Act.put, qA, qB, qC, i64_w, i32_w]
     rfl
    refine pure_ (i := 5) (N := some 24) (v := ?_) (a' := ?_) #[true, false, false, true, false, true, false, false, false, false, false, false, false] rfl rfl (any_of HT_.out (by kernel_rfl)) (fun _ _ _ h => h) (Or.inl ⟨by rfl, ?_⟩) ?_ ?_
    rotate_left
    ·intro w'
     go_simp
     with_reducible rfl
    rotate_left
    ·simp only [Act.put, qA, qB, qC, i64_w, i32_w]
     rfl
    refine take_ (i := 1) (N := some 20) (v := ?_) (a' := ?_) #[true, true, false, true, false, true, false, false, false, false, false, false, false] rfl rfl (take_ofW HT_.out HW_.out (by kernel_rfl)) (fun _ _ _ h => h) (Or.inl ⟨by rfl, ?_⟩) hHeld ?_ ?_
    rotate_left
    ·rintro w' ⟨s0, s1, s2, s3, s4, s5, s6⟩
     go_simp
     with_reducible rfl
    rotate_left
    ·simp only [Act.put, qA, qB, qC, i64_w, i32_w]
     rfl
    refine take_ (i := 4) (N := some 23) (v := ?_) (a' := ?_) #[true, true, false, true, true, true, false, false, false, false, false, false, false] rfl rfl (take_ofW HT_.out HW_.out (by kernel_rfl)) (fun _ _ _ h => h) (Or.inl ⟨by rfl, ?_⟩) hHeld ?_ ?_
    rotate_left
    ·rintro w' ⟨s0, s1, s2, s3, s4, s5, s6⟩
     go_simp
     with_reducible rfl
    rotate_left
    ·simp only [Act.put, qA, qB, qC, i64_w, i32_w]
     rfl
    refine pure_ (i := 6) (N := some 25) (v := ?_) (a' := ?_) #[true, true, false, true, true, true, true, false, false, false, false, false, false] rfl rfl (any_of HT_.out (by kernel_rfl)) (fun _ _ _ h => h) (Or.inl ⟨by rfl, ?_⟩) ?_ ?_
    rotate_left
    ·intro w'
     go_simp
     with_reducible rfl
    rotate_left
    ·simp only [Act.put, qA, qB, qC, i64_w, i32_w]
     rfl
    refine take_ (i := 7) (N := some 26) (v := ?_) (a' := ?_) #[true, true, false, true, true, true, true, true, false, false, false, false, false] rfl rfl (take_ofW HT_.out HW_.out (by kernel_rfl)) (fun _ _ _ h => h) (Or.inl ⟨by rfl, ?_⟩) hHeld ?_ ?_
    rotate_left
    ·rintro w' ⟨s0, s1, s2, s3, s4, s5, s6⟩
     go_simp
     with_reducible rfl
    rotate_left
    ·simp only [Act.put, qA, qB, qC, i64_w, i32_w]
     rfl
    refine one_ (i := 2) (N := some 21) #[true, true, true, true, true, true, true, true, false, false, false, false, false] rfl rfl (one_of HT_.out (by kernel_rfl)) (by decide) (fun K hK => ?_)
    refine Kd.R_lit_step (Kd.int .i64) _ 3 ?hg (N := 21) ?hd (xs := ([] : List Int)) (inner := []) (ok := fun _ => True) (okp := fun _ => True) ?hr ?hp (fun _ hk => hk) trivial (Below.refl _ _) (Nat.le_refl _) (by simp) ?_; (case hd => rfl); (case hg => rfl); (case hr => first | (go_simp; done) | (go_simp; rfl)); (case hp => exact (Reps.none _ _))
    intro v372 w24 ho25 hb hg_ hnew_
    clear hg_ hnew_
    (first | rw [← Ny371.out] at ho25 | (simp only [Int.reduceToNat] at ho25; rw [← Ny371.out] at ho25))
    replace HO_371002 := Asd.mk (Kd.S_elder' (sS HO_371002) (Kd.R_base ho25) hb)
    have HO373 := Asd.mk (Kd.R_lower (Kd.R_new' ho25 (Kd.R_lt (rS HO_371001))) (below_size (wZ HB)))
    replace HO_371001 := Asd.mk (Kd.R_elder' (rS HO_371001) (Kd.R_base ho25) hb)
    replace BK362 := bU BK362 hb
    replace BK363 := bU BK363 hb
    replace BK370 := bU BK370 hb
    replace HB := bW HB hb
    clear hb ho25
    refine hK.out _ _ ⟨(bkC BK370.out 0).trans rfl, (bkC BK370.out 1).trans rfl, (bkC BK370.out 2).trans rfl, (bkC BK362.out 0).trans rfl, (bkC BK362.out 1).trans rfl, (bkC BK362.out 2).trans rfl, ((HB.out.cell (World.block_lt_of_cell? w _ hw374_0)).trans hw374_0)⟩ (fun hHeld => ?_)
    clear hK K
    refine norm_ (a' := ?_) ?_ ?_
    rotate_left
    ·show Act.put _ (some 21) _ = _
     simp only [Act.put, qA, qB, qC, i64_w, i32_w]
     rfl
    refine one_ (i := 8) (N := some 27) #[true, true, true, true, true, true, true, true, true, false, false, false, false] rfl rfl (one_of HT_.out (by kernel_rfl)) (by decide) (fun K hK => ?_)
    refine Kd.R_append_rows_step (Kd.int .i64) (w0 := w) w.heap.size (by rfl) (.tmp 21) (.tmp 26) 55 3 (.int .i64 0) 8 rfl Try.underlying55 info3 rfl (by decide) (by omega) v372 y371 (rd_L5 l0_2 x4_1) _ _ _ (fun k_ => some k_ ≠ (.slice Ao12 y367.length co12 : Value).ownBlock) (fun _ => False) rfl rfl ?aO ?aR (fun _ _ h => h) (fun _ h => h.elim) ?aF ?aB ?aS ?aL ?_
    (case aR => repeat (first | exact (Kd.C_below HR374_0.out HB.out) | (with_reducible refine Kd.C_alloc ?_ _) | (with_reducible refine Kd.C_drewN ?_ _) | (with_reducible refine Kd.C_drew ?_)))
    (case aB => exact (wZ HB))
    (case aF => exact (fun k_ hk => Kd.fresh' (Kd.R_lt (rS HO_371001)) k_ hk))
    (case aO => exact (by (repeat apply Kd.RS); exact Kd.R_mono HO373.out (fun _ hk => hk.2)))
    (case aS => exact (below_size (wZ HB)))
    (case aL => have := LMc18.out; omega)
    intro v376 w26 ho hb hg hat
    rw [← Ny375.out] at ho
    replace HO_371001 := Asd.mk (Kd.R_after (ok := (fun _ => True)) (rS HO_371001) hg hat)
    replace HO_371002 := Asd.mk (Kd.S_after (ok := (fun k_ => some k_ ≠ (.slice Ao12 y367.length co12 : Value).ownBlock)) (sS HO_371002) hg hat)
    replace BK362 := bN BK362 hg (Kd.R_ne HO373.out BK362.out (by decide))
    replace BK363 := bN BK363 hg (Kd.R_ne HO373.out BK363.out (by decide))
    replace BK370 := bN BK370 hg (Kd.R_ne HO373.out BK370.out (by decide))
    replace HB := Asd.mk (hb)
    have HO377 := Asd.mk (ho)
    clear HO373 ho hb hg hat
    obtain ⟨Ao28, co28, eo28⟩ := Kd.R_slice HO377.out
    (first | subst eo28 | (injection eo28 with f1_ f2_ f3_; have f4_ := f1_.symm; have f5_ := f3_.symm; clear f1_ f2_ f3_; subst f4_; subst f5_))
    refine hK.out _ _ ⟨(bkC BK370.out 0).trans rfl, (bkC BK370.out 1).trans rfl, (bkC BK370.out 2).trans rfl, (bkC BK362.out 0).trans rfl, (bkC BK362.out 1).trans rfl, (bkC BK362.out 2).trans rfl, ((HB.out.cell (World.block_lt_of_cell? w _ hw374_0)).trans hw374_0)⟩ (fun hHeld => ?_)
    clear hK K
    refine norm_ (a' := ?_) ?_ ?_
    rotate_left
    ·show Act.put _ (some 27) _ = _
     simp only [Act.put, qA, qB, qC, i64_w, i32_w]
     rfl
    refine one_ (i := 9) (N := some 28) #[true, true, true, true, true, true, true, true, true, true, false, false, false] rfl rfl (one_of HT_.out (by kernel_rfl)) (by decide) (fun K hK => ?_)
    refine value_ (w1 := ?_) (v := ?_) (by rfl) rfl ?_ ?_
    rotate_left 2
    ·go_simp
     constructor
     ·rfl
     ·rfl
    refine hK.out _ _ ⟨(bkC (bkA BK370.out _) 0).trans rfl, (bkC (bkA BK370.out _) 1).trans rfl, (bkC (bkA BK370.out _) 2).trans rfl, (bkC (bkA BK362.out _) 0).trans rfl, (bkC (bkA BK362.out _) 1).trans rfl, (bkC (bkA BK362.out _) 2).trans rfl, (World.cell?_alloc_lt _ _ _ (World.block_lt_of_cell? _ _ (((HB.out.cell (World.block_lt_of_cell? w _ hw374_0)).trans hw374_0)))).trans (((HB.out.cell (World.block_lt_of_cell? w _ hw374_0)).trans hw374_0))⟩ (fun hHeld => ?_)
    clear hK K
    refine norm_ (a' := ?_) ?_ ?_
    rotate_left
    ·show Act.put _ (some 28) _ = _
     simp only [Act.put, qA, qB, qC, i64_w, i32_w]
     rfl
    refine one_ (i := 10) (N := some 29) #[true, true, true, true, true, true, true, true, true, true, true, false, false] rfl rfl (one_of HT_.out (by kernel_rfl)) (by decide) (fun K hK => ?_)
    refine Kd.S_append_step (Kd.slice 3 (Kd.int .i64)) (w0 := w) w.heap.size (by rfl) (.tmp 20) (.tmp 28) 56 55 (.slice none 0 0) 24 rfl Try.underlying56 info55 rfl (by decide) (by omega) u371002 x371002_1 y375 [.slice Ao28 y375.length co28] (fun k_ => some k_ ≠ (.slice Ao12 y367.length co12 : Value).ownBlock) (fun k_ => some k_ = (.slice Ao28 y375.length co28 : Value).ownBlock) rfl rfl ?aP (fun k_ hk_ => ((Kd.R_mono (ok' := fun k_ => ((fun k_ => some k_ ≠ (.slice Ao12 y367.length co12 : Value).ownBlock)) k_ ∧ some k_ ≠ (u371002 : Value).ownBlock) (Kd.R_apart' (HO377.out) (Kd.S_typed HO_371002.out) (by decide)) (fun k_ hk => ⟨hk.1, hk.2⟩))).1 k_ hk_.symm) ?aF ?aO ?aB ?aS ?aL ?_
    (case aP => exact Kd.M_row (Kd.R_mono (Kd.R_tight rfl (Kd.R_mono (ok' := fun k_ => ((fun k_ => some k_ ≠ (.slice Ao12 y367.length co12 : Value).ownBlock)) k_ ∧ some k_ ≠ (u371002 : Value).ownBlock) (Kd.R_apart' (HO377.out) (Kd.S_typed HO_371002.out) (by decide)) (fun k_ hk => ⟨hk.1, hk.2⟩))) (fun _ h_ => h_)))
    (case aB => exact (wZ HB))
    (case aF => exact (fun k_ hk => Kd.fresh' (Kd.R_lt (rS HO_371001)) k_ hk))
    (case aO => exact (by (repeat apply Kd.SS); exact Kd.S_mono HO_371002.out (fun k_ hk => ⟨hk.1, fun e_ => hk.2 e_⟩)))
    (case aS => exact (below_size (wZ HB)))
    (case aL => have := LMc19.out; omega)
    intro v379 w27 ho hb hg hat
    rw [← Ny378.out] at ho
    replace HO_371001 := Asd.mk (Kd.R_over' (rS HO_371001) (Kd.S_typed (sS HO_371002)) (by decide) hg)
    replace BK362 := bN BK362 hg (Kd.S_ne HO_371002.out BK362.out (by decide))
    replace BK363 := bN BK363 hg (Kd.S_ne HO_371002.out BK363.out (by decide))
    replace BK370 := bN BK370 hg (Kd.S_ne HO_371002.out BK370.out (by decide))
    replace HB := Asd.mk (hb)
    have HO380 := Asd.mk (ho)
    clear HO_371002 HO377 ho hb hg hat
    obtain ⟨Ao29, co29, eo29⟩ := Kd.S_slice HO380.out
    (first | subst eo29 | (injection eo29 with f1_ f2_ f3_; have f4_ := f1_.symm; have f5_ := f3_.symm; clear f1_ f2_ f3_; subst f4_; subst f5_))
    refine hK.out _ _ ⟨(bkC BK370.out 0).trans rfl, (bkC BK370.out 1).trans rfl, (bkC BK370.out 2).trans rfl, (bkC BK362.out 0).trans rfl, (bkC BK362.out 1).trans rfl, (bkC BK362.out 2).trans rfl, ((HB.out.cell (World.block_lt_of_cell? w _ hw374_0)).trans hw374_0)⟩ (fun hHeld => ?_)
    clear hK K
    refine norm_ (a' := ?_) ?_ ?_
    rotate_left
    ·show Act.put _ (some 29) _ = _
     simp only [Act.put, qA, qB, qC, i64_w, i32_w]
     rfl
    refine pure_ (i := 11) (N := some 30) (v := ?_) (a' := ?_) #[true, true, true, true, true, true, true, true, true, true, true, true, false] rfl rfl (any_of HT_.out (by kernel_rfl)) (fun _ _ _ h => h) (Or.inl ⟨by rfl, ?_⟩) ?_ ?_
    rotate_left
    ·intro w'
     go_simp
     with_reducible rfl
    rotate_left
    ·simp only [Act.put, qA, qB, qC, i64_w, i32_w]
     rfl
    refine last_ (i := 12) (N := none) #[true, true, true, true, true, true, true, true, true, true, true, true, true] rfl rfl (one_of HT_.out (by kernel_rfl)) (by decide) (fun K hK => ?_)
    have hs30 := bC BK370 2
    have hfs30 := bkF BK370.out 2
    have hns30_0 := NB362_370.out
    have hns30_1 := NB363_370.out
    have hms30_0 := NB370_362.out
    have hms30_1 := NB370_363.out
    refine skip_ (w1 := ?_) (by rfl) rfl ?_ ?_
    rotate_left
    ·go_simp
     rfl
    refine hK.out _ _ ?_
    clear hK K
    refine done_ (done_of HT_.out (by kernel_rfl)) ?_
    try go_wp2
    go_roundg k1
    case measure => have := HK1.out; omega
    case rel => exact ⟨(wrap64 (x4_1 + 1)), (y378), (.slice Ao29 y378.length co29), (by first | rfl | (simp; done) | (simp [*]; done)), H', ⟨by have := HK1.out; omega⟩, ⟨rT HO_371001⟩, ⟨sT HO380⟩, ⟨kS BK362⟩, ⟨kS BK363⟩, ⟨kP BK370⟩, ⟨wZ HB⟩⟩
   ·rw [if_neg c16] at H
    have c16b0 : decide (x4_1 < (l0_2.length : Int)) = false := decide_eq_false c16
    clear c16
    simp only [Option.some.injEq, Prod.mk.injEq] at H
    obtain ⟨rfl, rfl, rfl⟩ := H
    have hnb31 := NB362_363.out
    have hnc31 := NB363_362.out
    have hnb32 := NB362_370.out
    have hnc32 := NB370_362.out
    obtain ⟨hcz33_0, hcz33_1, hcz33_2, hfz33_0, hfz33_1, hfz33_2⟩ := b3 BK362
    have hnb34 := NB370_363.out
    have hnc34 := NB363_370.out
    obtain ⟨hcz35_0, hcz35_1, hcz35_2, hfz35_0, hfz35_1, hfz35_2⟩ := b3 BK370
    obtain ⟨hcz36_0, hcz36_1, hcz36_2, hfz36_0, hfz36_1, hfz36_2⟩ := b3 BK363
    obtain ⟨Ao37, co37, eo37⟩ := Kd.S_slice HO_371002.out
    subst eo37
    go_wp2
    refine bodyPost_ret (results_cell_row rfl _ _ gb363 58 #[.int .i64 a0_0, .slice Ao12 y367.length co12, .slice Ao37 x371002_1.length co37] (0, 0) _ rfl (kP BK363) Try.underlying58 rfl (by kernel_rfl)) rfl ?_
    exact ⟨_, _, by first | rfl | (simp [*, errW_none, errW_some] <;> rfl), rT HO_371001, sT HO_371002, wZ HB⟩

/-! ### spec_SetOk: function 132 -/
def spec_SetOk.f (a0 : Int) (a1 : Int) : Option (Bool) := (spec_l1In.f a0 1 3).bind fun t381 => (if t381 = true then ((spec_l1All.f a0).bind fun t382 => ((spec_l1In.f a1 0 t382).bind fun t383 => (some t383))) else (some false))
set_option maxHeartbeats 8000000 in
set_option maxRecDepth 100000 in
theorem spec_SetOk.calls (a0 : Int) (a1 : Int) (r : Bool) (w : World) (h : spec_SetOk.f a0 a1 = some r) :
  Calls Try.prog 132 #[.int .i64 a0, .int .i64 a1] w fun e w' => e = .returned (.bool r) ∧ Drawn0 w w' := by
 have H : ((spec_l1In.f a0 1 3).bind fun t381 => (if t381 = true then ((spec_l1All.f a0).bind fun t382 => ((spec_l1In.f a1 0 t382).bind fun t383 => (some t383))) else (some false))) = some r := h
 clear h
 replace H := Option.bind_eq_some_iff.mp H
 obtain ⟨t381, A30, H⟩ := H
 try dsimp only at H
 have A3 := Asd.mk A30
 clear A30
 by_cases c4 : t381 = true
 ·subst c4
  rw [if_pos rfl] at H
  replace H := Option.bind_eq_some_iff.mp H
  obtain ⟨t382, A50, H⟩ := H
  try dsimp only at H
  have A5 := Asd.mk A50
  clear A50
  replace H := Option.bind_eq_some_iff.mp H
  obtain ⟨t383, A60, H⟩ := H
  try dsimp only at H
  have A6 := Asd.mk A60
  clear A60
  obtain rfl := Option.some.inj H
  go_enter Try.func132, Try.ntmps132
  go_wp2_with (first | ((with_reducible refine gate_callee (f := 72) rfl ?_); refine gsM (some 6) rfl rfl Try.func72 (by kernel_rfl) rfl #[.int .i64 a0, .int .i64 1, .int .i64 3] rfl ?_; (with_reducible refine (spec_l1In.calls a0 1 3 true _ A3.out).mono ?_); rintro e w' ⟨rfl, ⟨nd, rfl⟩⟩; refine ⟨_, rfl, ?_⟩) | (go_at_call 140; (with_reducible refine (spec_l1All.calls a0 t382 _ A5.out).mono ?_); rintro e w' ⟨rfl, ⟨nd, rfl⟩⟩) | (go_at_call 72; (with_reducible refine (spec_l1In.calls a1 0 t382 t383 _ A6.out).mono ?_); rintro e w' ⟨rfl, ⟨nd, rfl⟩⟩))
  go_ret
  exact ⟨by first | rfl | (simp; done) | (simp [*]; done), by repeat (first | exact Drawn0.refl _ | apply Drawn0.step)⟩
 ·replace c4 := Bool.eq_false_iff.mpr c4
  subst c4
  rw [if_neg (show ¬ (false = true) by decide)] at H
  obtain rfl := Option.some.inj H
  go_enter Try.func132, Try.ntmps132
  go_wp2_with (first | ((with_reducible refine gate_callee (f := 72) rfl ?_); refine gsM (some 6) rfl rfl Try.func72 (by kernel_rfl) rfl #[.int .i64 a0, .int .i64 1, .int .i64 3] rfl ?_; (with_reducible refine (spec_l1In.calls a0 1 3 false _ A3.out).mono ?_); rintro e w' ⟨rfl, ⟨nd, rfl⟩⟩; refine ⟨_, rfl, ?_⟩))
  go_ret
  exact ⟨by first | rfl | (simp; done) | (simp [*]; done), by repeat (first | exact Drawn0.refl _ | apply Drawn0.step)⟩

end Go.Proofs.Ytihgpkohglcijaa.P
