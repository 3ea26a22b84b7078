-- Written by a program of this session (wip/hook.py), which runs the kit's printer; Lean checks it.
import Derived.Test.YtihgpkohglcijaaPx0
import Derived.Test.YtihgpkohglcijaaPx4
import Derived.Test.YtihgpkohglcijaaPx10
namespace Go.Proofs.Ytihgpkohglcijaa.P
open Go.RowKit Go.Proofs.YtihgpkohglcijaaW.PrintWords Go.Proofs.YtihgpkohglcijaaW.PrintLast Go.Proofs.YtihgpkohglcijaaW.PrintMore
attribute [local go_sem] max2_int min2_int max_two min_two max_three min_three max_four min_four   -- for this text's walks alone
set_option linter.unusedVariables false
set_option linter.unusedSimpArgs false

/-! ### spec_l20Deed: function 87 -/
def spec_l20Deed.f (k : Nat) (s0_0 : List Int) (s0_1 : Int) (a1_0 : Int) (l1_1 : List Int) (l1_2 : List (List Int)) : Option (Int × ByteArray × Int) := (some (([0, 0, 0, 1, 1, 1, 2] : List Int) : List Int)).bind fun y345 => ((spec_l20Rd_pick.f k s0_0 s0_1 7).bind fun bt348 => (if 0 ≤ bt348.1 then (if bt348.1 < (y345.length : Int) then ((spec_l20Rd_pick.f k s0_0 bt348.2 60).bind fun bt351 => (if (wrap64 ((rd y345 bt348.1) + (wrap64 ((wrap64 (Int.tdiv bt351.1 59)) * 3)))) = 2 then ((spec_l20Rd_odd.f k s0_0 bt351.2 40).bind fun bt354 => (if bt354.1 = true then (if 0 + 1 ≤ 9223372036854775807 then (some (wrap64 ((rd y345 bt348.1) + (wrap64 ((wrap64 (Int.tdiv bt351.1 59)) * 3))), (⟨#[]⟩ : ByteArray) ++ (⟨#[41]⟩ : ByteArray), bt354.2)) else (none)) else (some (wrap64 ((rd y345 bt348.1) + (wrap64 ((wrap64 (Int.tdiv bt351.1 59)) * 3))), (⟨#[]⟩ : ByteArray), bt354.2)))) else ((spec_l20Sentence.f k s0_0 bt351.2 a1_0 2).bind fun bt356 => ((spec_l20Rd_odd.f k s0_0 bt356.2 40).bind fun bt358 => (if bt358.1 = true then (if bt356.1.size + 1 ≤ 9223372036854775807 then (some (wrap64 ((rd y345 bt348.1) + (wrap64 ((wrap64 (Int.tdiv bt351.1 59)) * 3))), bt356.1 ++ (⟨#[41]⟩ : ByteArray), bt358.2)) else (none)) else (some (wrap64 ((rd y345 bt348.1) + (wrap64 ((wrap64 (Int.tdiv bt351.1 59)) * 3))), bt356.1, bt358.2))))))) else (none)) else (none)))
theorem spec_l20Deed.mono : ∀ a0 a1 a2 a3 a4 k, LeO (spec_l20Deed.f k a0 a1 a2 a3 a4) (spec_l20Deed.f (k + 1) a0 a1 a2 a3 a4) := by
 intro a0 a1 a2 a3 a4 k
 unfold spec_l20Deed.f
 repeat' first
   | (with_reducible exact spec_l20Rd_odd.mono _ _ _ _)
   | (with_reducible exact spec_l20Rd_pick.mono _ _ _ _)
   | (with_reducible exact spec_l20Sentence.mono _ _ _ _ _)
   | (with_reducible exact LeO.refl _)
   | (with_reducible exact LeO.none _)
   | (with_reducible refine LeO.ite ?_ ?_)
   | (with_reducible refine LeO.bind ?_ (fun _ => ?_))
   | refine LeO.ite ?_ ?_
   | refine LeO.bind ?_ (fun _ => ?_)
def spec_l20Deed.T1 : Bool × List (List Nat × List Nat) := (true, [([], []), ([], []), ([1], [1]), ([0, 2], [0, 2]), ([3], [3]), ([], []), ([5, 2], [5]), ([6], [6]), ([7], [7]), ([4, 8], [4, 8]), ([9], [9]), ([], []), ([11, 10, 6, 0, 1, 2, 3, 4, 5, 6, 7, 8, 9, 10, 11], [10, 11])])
def spec_l20Deed.B1 : List Nat := [0, 0, 2, 7, 15, 0, 38, 102, 230, 511, 1023, 0, 4095]
theorem spec_l20Deed.tab1 : rtab .any (opsOf Try.f87 1) = spec_l20Deed.T1 := by kernel_rfl
theorem spec_l20Deed.bits1 : waitsOk spec_l20Deed.T1.2 spec_l20Deed.B1 = true := by kernel_rfl
set_option maxHeartbeats 8000000 in
set_option maxRecDepth 100000 in
theorem spec_l20Deed.calls (k : Nat) (g : Nat) (s0_0 : List Int) (s0_1 : Int) (a1_0 : Int) (A1_1 : Option Addr) (c1_1 : Nat) (l1_1 : List Int) (A1_2 : Option Addr) (c1_2 : Nat) (l1_2 : List (List Int)) (r1 : Int) (r2 : ByteArray) (r3 : Int) (w0 w : World) (hI : Iz w0 w g s0_0 s0_1) (hB : Below w0.heap.size w0 w) (hr1_1 : Kd.C (Kd.int .i64) w A1_1 l1_1.length l1_1) (hc1_1 : l1_1.length ≤ c1_1) (hf1_1 : ∀ ad, A1_1 = some ad → 0 < l1_1.length → ad.block ≠ g) (hr1_2 : ∀ W_, Kbt w W_ g none → Kd.C (Kd.slice 3 (Kd.int .i64)) W_ A1_2 l1_2.length l1_2) (hc1_2 : l1_2.length ≤ c1_2) (h : spec_l20Deed.f k s0_0 s0_1 a1_0 l1_1 l1_2 = some (r1, r2, r3)) :
  Calls Try.prog 87 #[.pointer (some ⟨g, 0, none⟩), .agg #[.int .i64 a1_0, .slice A1_1 l1_1.length c1_1, .slice A1_2 l1_2.length c1_2]] w fun e w' => e = .returned (.agg #[.int .i64 r1, .string r2]) ∧ Iz w0 w' g s0_0 r3 ∧ Below w0.heap.size w0 w' ∧ Kbt w w' g none := by
 have hu58 := Try.underlying58
 have hu26 := Try.underlying26
 have HR1_1 := Asd.mk hr1_1
 have HC1_1 := Asd.mk hc1_1
 clear hr1_1 hc1_1
 have HR1_2 := Asd.mk hr1_2
 have HC1_2 := Asd.mk hc1_2
 clear hr1_2 hc1_2
 have HI0 := Asd.mk hI
 have HK := Asd.mk (Kbt.refl w g none)
 have HL := Asd.mk hB.size
 clear hI
 have HW0 := Asd.mk hB.size
 have HB := Asd.mk hB
 clear hB
 have H : ((some (([0, 0, 0, 1, 1, 1, 2] : List Int) : List Int)).bind fun y345 => ((spec_l20Rd_pick.f k s0_0 s0_1 7).bind fun bt348 => (if 0 ≤ bt348.1 then (if bt348.1 < (y345.length : Int) then ((spec_l20Rd_pick.f k s0_0 bt348.2 60).bind fun bt351 => (if (wrap64 ((rd y345 bt348.1) + (wrap64 ((wrap64 (Int.tdiv bt351.1 59)) * 3)))) = 2 then ((spec_l20Rd_odd.f k s0_0 bt351.2 40).bind fun bt354 => (if bt354.1 = true then (if 0 + 1 ≤ 9223372036854775807 then (some (wrap64 ((rd y345 bt348.1) + (wrap64 ((wrap64 (Int.tdiv bt351.1 59)) * 3))), (⟨#[]⟩ : ByteArray) ++ (⟨#[41]⟩ : ByteArray), bt354.2)) else (none)) else (some (wrap64 ((rd y345 bt348.1) + (wrap64 ((wrap64 (Int.tdiv bt351.1 59)) * 3))), (⟨#[]⟩ : ByteArray), bt354.2)))) else ((spec_l20Sentence.f k s0_0 bt351.2 a1_0 2).bind fun bt356 => ((spec_l20Rd_odd.f k s0_0 bt356.2 40).bind fun bt358 => (if bt358.1 = true then (if bt356.1.size + 1 ≤ 9223372036854775807 then (some (wrap64 ((rd y345 bt348.1) + (wrap64 ((wrap64 (Int.tdiv bt351.1 59)) * 3))), bt356.1 ++ (⟨#[41]⟩ : ByteArray), bt358.2)) else (none)) else (some (wrap64 ((rd y345 bt348.1) + (wrap64 ((wrap64 (Int.tdiv bt351.1 59)) * 3))), bt356.1, bt358.2))))))) else (none)) else (none)))) = some (r1, r2, r3) := h
 clear h
 obtain ⟨y345, hy345⟩ : ∃ y_ : List Int, y_ = (([0, 0, 0, 1, 1, 1, 2] : List Int)) := ⟨_, rfl⟩
 replace H : ((spec_l20Rd_pick.f k s0_0 s0_1 7).bind fun bt348 => (if 0 ≤ bt348.1 then (if bt348.1 < (y345.length : Int) then ((spec_l20Rd_pick.f k s0_0 bt348.2 60).bind fun bt351 => (if (wrap64 ((rd y345 bt348.1) + (wrap64 ((wrap64 (Int.tdiv bt351.1 59)) * 3)))) = 2 then ((spec_l20Rd_odd.f k s0_0 bt351.2 40).bind fun bt354 => (if bt354.1 = true then (if 0 + 1 ≤ 9223372036854775807 then (some (wrap64 ((rd y345 bt348.1) + (wrap64 ((wrap64 (Int.tdiv bt351.1 59)) * 3))), (⟨#[]⟩ : ByteArray) ++ (⟨#[41]⟩ : ByteArray), bt354.2)) else (none)) else (some (wrap64 ((rd y345 bt348.1) + (wrap64 ((wrap64 (Int.tdiv bt351.1 59)) * 3))), (⟨#[]⟩ : ByteArray), bt354.2)))) else ((spec_l20Sentence.f k s0_0 bt351.2 a1_0 2).bind fun bt356 => ((spec_l20Rd_odd.f k s0_0 bt356.2 40).bind fun bt358 => (if bt358.1 = true then (if bt356.1.size + 1 ≤ 9223372036854775807 then (some (wrap64 ((rd y345 bt348.1) + (wrap64 ((wrap64 (Int.tdiv bt351.1 59)) * 3))), bt356.1 ++ (⟨#[41]⟩ : ByteArray), bt358.2)) else (none)) else (some (wrap64 ((rd y345 bt348.1) + (wrap64 ((wrap64 (Int.tdiv bt351.1 59)) * 3))), bt356.1, bt358.2))))))) else (none)) else (none))) = some (r1, r2, r3) := by first | (rw [hy345]; with_reducible exact H) | (have H2_ := (Option.bind_some _ _).symm.trans H; rw [hy345]; with_reducible exact H2_) | (have H2_ := (Option.bind_some _ _).symm.trans H; with_reducible exact H2_) | with_reducible exact H | (rw [hy345]; exact H) | exact H
 have Ny345 := Asd.mk hy345
 clear hy345
 replace H := Option.bind_eq_some_iff.mp H
 obtain ⟨⟨t348, t349⟩, A30, H⟩ := H
 try dsimp only at H
 have A3 := Asd.mk A30
 clear A30
 by_cases c4 : 0 ≤ t348; rotate_left; (rw [if_neg c4] at H; exact absurd H (by simp))
 rw [if_pos c4] at H
 have c4b0 : decide (0 ≤ t348) = true := decide_eq_true c4
 clear c4
 by_cases c5 : t348 < (y345.length : Int); rotate_left; (rw [if_neg c5] at H; exact absurd H (by simp))
 rw [if_pos c5] at H
 have c5b0 : decide (t348 < (y345.length : Int)) = true := decide_eq_true c5
 clear c5
 replace H := Option.bind_eq_some_iff.mp H
 obtain ⟨⟨t351, t352⟩, A60, H⟩ := H
 try dsimp only at H
 have A6 := Asd.mk A60
 clear A60
 go_enter Try.func87, Try.ntmps87
 try go_wp2_with (first | ((with_reducible refine gate_dst (N := 3) rfl ?_); refine bxE ?hg (N := 3) ?hd (cs := #[.int .i64 a1_0, .slice A1_1 l1_1.length c1_1, .slice A1_2 l1_2.length c1_2]) (t := 58) ?hr ?_; (case hd => rfl); (case hg => rfl); (case hr => first | (go_simp; done) | (go_simp; rfl)); intro gb343 hg w11 hbox hb; have n0_ := Asd.mk (Iz.below (by repeat (with_reducible first | exact HI0.out | refine Iz.below ?_ StB.b | apply Iz.set_1)) hb); have n1_ := Asd.mk (Kbt.trans (by repeat (with_reducible first | exact HK.out | apply Kbt.set_ | apply kpX)) (Kbt.of_below hb g none) (.inl rfl)); have n2_ := Asd.mk (bwP (by repeat (with_reducible first | exact HB.out | apply bwX | refine bwS ?_ (Iz.ge HI0.out))) hb); have n3_ := Asd.mk (hbox); have n4_ := Asd.mk ((by rw [hg]; exact (kpZ (w := w) (g := g) (row := none) (by repeat (with_reducible first | exact HK.out | apply Kbt.set_ | apply kpX))) : w.heap.size ≤ gb343)); have n5_ := Asd.mk ((Nat.le_trans HW0.out (by rw [hg]; exact (kpZ (w := w) (g := g) (row := none) (by repeat (with_reducible first | exact HK.out | apply Kbt.set_ | apply kpX))) : w.heap.size ≤ gb343) : w0.heap.size ≤ gb343)); have n6_ := Asd.mk ((by rw [hg]; exact Nat.ne_of_lt (Iz.lt (show Iz w0 _ g s0_0 s0_1 from by repeat (with_reducible first | exact HI0.out | refine Iz.below ?_ StB.b | apply Iz.set_1))) : g ≠ gb343)); have n7_ := Asd.mk ((by rw [hg]; exact Nat.ne_of_gt (Iz.lt (show Iz w0 _ g s0_0 s0_1 from by repeat (with_reducible first | exact HI0.out | refine Iz.below ?_ StB.b | apply Iz.set_1))) : gb343 ≠ g)); clear HI0; clear HK; clear HB; have HI0 := n0_; have HK := n1_; have HB := n2_; have BK343 := n3_; have GW343 := n4_; have GE343 := n5_; have NB0_343 := n6_; have NB343_0 := n7_; clear n0_ n1_ n2_ n3_ n4_ n5_ n6_ n7_; clear hb hbox hg) | ((with_reducible refine gate_dst (N := 4) rfl ?_); refine bxE ?hg (N := 4) ?hd (cs := #[.int .i64 0, .string (⟨#[]⟩ : ByteArray)]) (t := 26) ?hr ?_; (case hd => rfl); (case hg => rfl); (case hr => first | (go_simp; done) | (go_simp; rfl)); intro gb344 hg w12 hbox hb; have n0_ := Asd.mk (Iz.below (by repeat (with_reducible first | exact HI0.out | refine Iz.below ?_ StB.b | apply Iz.set_1 | refine Iz.far ?_ aX _)) hb); have n1_ := Asd.mk (bkB (g := gb343) (o := .cells #[.int .i64 a1_0, .slice A1_1 l1_1.length c1_1, .slice A1_2 l1_2.length c1_2] 58 (0, 0)) (by (repeat apply bkS); exact BK343.out) hb); have n2_ := Asd.mk (Kbt.trans (by repeat (with_reducible first | exact HK.out | apply Kbt.set_ | apply kpX | refine kpF ?_ GW343.out _)) (Kbt.of_below hb g none) (.inl rfl)); have n3_ := Asd.mk (bwP (by repeat (with_reducible first | exact HB.out | apply bwX | refine bwS ?_ (Iz.ge HI0.out) | refine bwS ?_ GE343.out)) hb); have n4_ := Asd.mk (hbox); have n5_ := Asd.mk ((by rw [hg]; exact (kpZ (w := w) (g := g) (row := none) (by repeat (with_reducible first | exact HK.out | apply Kbt.set_ | apply kpX | refine kpF ?_ GW343.out _))) : w.heap.size ≤ gb344)); have n6_ := Asd.mk ((Nat.le_trans HW0.out (by rw [hg]; exact (kpZ (w := w) (g := g) (row := none) (by repeat (with_reducible first | exact HK.out | apply Kbt.set_ | apply kpX | refine kpF ?_ GW343.out _))) : w.heap.size ≤ gb344) : w0.heap.size ≤ gb344)); have n7_ := Asd.mk ((by rw [hg]; exact Nat.ne_of_lt (bkL (g := gb343) (o := .cells #[.int .i64 a1_0, .slice A1_1 l1_1.length c1_1, .slice A1_2 l1_2.length c1_2] 58 (0, 0)) (by (repeat apply bkS); exact BK343.out)) : gb343 ≠ gb344)); have n8_ := Asd.mk ((by rw [hg]; exact Nat.ne_of_gt (bkL (g := gb343) (o := .cells #[.int .i64 a1_0, .slice A1_1 l1_1.length c1_1, .slice A1_2 l1_2.length c1_2] 58 (0, 0)) (by (repeat apply bkS); exact BK343.out)) : gb344 ≠ gb343)); have n9_ := Asd.mk ((by rw [hg]; exact Nat.ne_of_lt (Iz.lt (show Iz w0 _ g s0_0 s0_1 from by repeat (with_reducible first | exact HI0.out | refine Iz.below ?_ StB.b | apply Iz.set_1 | refine Iz.far ?_ aX _))) : g ≠ gb344)); have n10_ := Asd.mk ((by rw [hg]; exact Nat.ne_of_gt (Iz.lt (show Iz w0 _ g s0_0 s0_1 from by repeat (with_reducible first | exact HI0.out | refine Iz.below ?_ StB.b | apply Iz.set_1 | refine Iz.far ?_ aX _))) : gb344 ≠ g)); clear HI0; clear BK343; clear HK; clear HB; have HI0 := n0_; have BK343 := n1_; have HK := n2_; have HB := n3_; have BK344 := n4_; have GW344 := n5_; have GE344 := n6_; have NB343_344 := n7_; have NB344_343 := n8_; have NB0_344 := n9_; have NB344_0 := n10_; clear n0_ n1_ n2_ n3_ n4_ n5_ n6_ n7_ n8_ n9_ n10_; clear hb hbox hg))
 have pi350 : (0 ≤ (t348 : Int)) = True := eq_true (odt)
 have qi350 : (t348 < (y345.length : Int)) = True := eq_true (odt)
 have n0_ := Asd.mk (bkD BK343.out)
 have n1_ := Asd.mk (bkD BK344.out)
 have n2_ := Asd.mk (Iz.drew HI0.out)
 have n3_ := Asd.mk (kpD HK.out)
 have n4_ := Asd.mk (bwD HB.out)
 clear BK343
 clear BK344
 clear HI0
 clear HK
 clear HB
 have BK343 := n0_
 have BK344 := n1_
 have HI0 := n2_
 have HK := n3_
 have HB := n4_
 clear n0_ n1_ n2_ n3_ n4_
 refine start_ (n := 13) (S := fun w' => True) (ds := []) #[false, false, false, false, false, false, false, false, false, false, false, false, false] (by kernel_rfl) rfl rfl trivial (fun hHeld => ?_); refine with_tabW spec_l20Deed.tab1 spec_l20Deed.bits1 (fun HT_ HW_ => ?_)
 generalize w12.drew = w13 at BK343 BK344 HI0 HK HB hHeld ⊢
 refine pure_ (i := 1) (N := some 7) (v := ?_) (a' := ?_) #[false, true, false, false, false, false, false, false, false, false, false, false, false] rfl rfl (any_of HT_.out (by kernel_rfl)) (fun _ _ _ h => h) (Or.inl ⟨by rfl, ?_⟩) ?_ ?_
 rotate_left
 ·intro w'
  go_simp
  with_reducible rfl
 rotate_left
 ·simp only [Act.put, qA, qB, qC, i64_w, i32_w]
  rfl
 refine pure_ (i := 5) (N := some 11) (v := ?_) (a' := ?_) #[false, true, false, false, false, true, false, false, false, false, false, false, false] rfl rfl (any_of HT_.out (by kernel_rfl)) (fun _ _ _ h => h) (Or.inl ⟨by rfl, ?_⟩) ?_ ?_
 rotate_left
 ·intro w'
  go_simp
  with_reducible rfl
 rotate_left
 ·simp only [Act.put, qA, qB, qC, i64_w, i32_w]
  rfl
 refine join_ (σ := Value × Addr × Nat) 1 #[true, true, true, true, true, true, true, true, true, true, true, true, false] (fun s_ => [(6, s_.1), (8, .int .i64 t348), (10, .int .i64 (rd y345 t348)), (12, .int .i64 t351), (5, .pointer (some ⟨s_.2.2, 0, none⟩)), (9, .pointer (some (s_.2.1.add (t348).toNat))), (13, .int .i64 (wrap64 (Int.tdiv t351 59))), (14, .int .i64 (wrap64 ((wrap64 (Int.tdiv t351 59)) * 3))), (15, .int .i64 (wrap64 ((rd y345 t348) + (wrap64 ((wrap64 (Int.tdiv t351 59)) * 3))))), (16, .agg #[.int .i64 (wrap64 ((rd y345 t348) + (wrap64 ((wrap64 (Int.tdiv t351 59)) * 3)))), .string (⟨#[]⟩ : ByteArray)])]) (fun s_ w' => (Kd.R (Kd.int .i64) 3 w' w.heap.size (fun _ => True) s_.1 y345) ∧ (∃ c_, (s_.1 : Value) = .slice (some s_.2.1) y345.length c_) ∧ (w'.heap[gb343]? = some (.cells #[.int .i64 a1_0, .slice A1_1 l1_1.length c1_1, .slice A1_2 l1_2.length c1_2] 58 (0, 0))) ∧ (w'.heap[gb344]? = some (.cells #[.int .i64 0, .string (⟨#[]⟩ : ByteArray)] 26 (0, 0))) ∧ (w'.heap[s_.2.2]? = some (.cells #[.int .i64 0, .string (⟨#[]⟩ : ByteArray)] 26 (0, 0))) ∧ (w.heap.size ≤ s_.2.2) ∧ (w0.heap.size ≤ s_.2.2) ∧ (g ≠ s_.2.2) ∧ (s_.2.2 ≠ g) ∧ (gb343 ≠ s_.2.2) ∧ (s_.2.2 ≠ gb343) ∧ (gb344 ≠ s_.2.2) ∧ (s_.2.2 ≠ gb344) ∧ (Iz w0 w' g s0_0 t352) ∧ (Kbt w w' g none) ∧ (Below w0.heap.size w0 w')) ?_ ?_
 rotate_left
 ·intro hJ0_2_4_6_11
  refine join_ (σ := Value × Addr) 2 #[true, true, true, true, true, true, true, true, true, true, true, false, false] (fun s_ => [(6, s_.1), (8, .int .i64 t348), (10, .int .i64 (rd y345 t348)), (12, .int .i64 t351), (9, .pointer (some (s_.2.add (t348).toNat))), (13, .int .i64 (wrap64 (Int.tdiv t351 59))), (14, .int .i64 (wrap64 ((wrap64 (Int.tdiv t351 59)) * 3))), (15, .int .i64 (wrap64 ((rd y345 t348) + (wrap64 ((wrap64 (Int.tdiv t351 59)) * 3))))), (16, .agg #[.int .i64 (wrap64 ((rd y345 t348) + (wrap64 ((wrap64 (Int.tdiv t351 59)) * 3)))), .string (⟨#[]⟩ : ByteArray)])]) (fun s_ w' => (Kd.R (Kd.int .i64) 3 w' w.heap.size (fun _ => True) s_.1 y345) ∧ (∃ c_, (s_.1 : Value) = .slice (some s_.2) y345.length c_) ∧ (w'.heap[gb343]? = some (.cells #[.int .i64 a1_0, .slice A1_1 l1_1.length c1_1, .slice A1_2 l1_2.length c1_2] 58 (0, 0))) ∧ (w'.heap[gb344]? = some (.cells #[.int .i64 0, .string (⟨#[]⟩ : ByteArray)] 26 (0, 0))) ∧ (Iz w0 w' g s0_0 t352) ∧ (Kbt w w' g none) ∧ (Below w0.heap.size w0 w')) ?_ ?_
  rotate_left
  ·intro hJ0_2_4_6
   refine join_ (σ := Value × Addr × Nat) 6 #[true, true, true, true, true, true, false, false, false, false, false, true, false] (fun s_ => [(6, s_.1), (8, .int .i64 t348), (10, .int .i64 (rd y345 t348)), (5, .pointer (some ⟨s_.2.2, 0, none⟩)), (9, .pointer (some (s_.2.1.add (t348).toNat)))]) (fun s_ w' => (Kd.R (Kd.int .i64) 3 w' w.heap.size (fun _ => True) s_.1 y345) ∧ (∃ c_, (s_.1 : Value) = .slice (some s_.2.1) y345.length c_) ∧ (w'.heap[gb343]? = some (.cells #[.int .i64 a1_0, .slice A1_1 l1_1.length c1_1, .slice A1_2 l1_2.length c1_2] 58 (0, 0))) ∧ (w'.heap[gb344]? = some (.cells #[.int .i64 0, .string (⟨#[]⟩ : ByteArray)] 26 (0, 0))) ∧ (w'.heap[s_.2.2]? = some (.cells #[.int .i64 0, .string (⟨#[]⟩ : ByteArray)] 26 (0, 0))) ∧ (w.heap.size ≤ s_.2.2) ∧ (w0.heap.size ≤ s_.2.2) ∧ (g ≠ s_.2.2) ∧ (s_.2.2 ≠ g) ∧ (gb343 ≠ s_.2.2) ∧ (s_.2.2 ≠ gb343) ∧ (gb344 ≠ s_.2.2) ∧ (s_.2.2 ≠ gb344) ∧ (Iz w0 w' g s0_0 t349) ∧ (Kbt w w' g none) ∧ (Below w0.heap.size w0 w')) ?_ ?_
   rotate_left
   ·intro hJ0_2_4_11
    refine join_ (σ := Value × Addr × Nat) 4 #[true, true, true, true, false, true, true, true, true, false, false, true, false] (fun s_ => [(6, s_.1), (8, .int .i64 t348), (12, .int .i64 t351), (5, .pointer (some ⟨s_.2.2, 0, none⟩)), (9, .pointer (some (s_.2.1.add (t348).toNat))), (13, .int .i64 (wrap64 (Int.tdiv t351 59))), (14, .int .i64 (wrap64 ((wrap64 (Int.tdiv t351 59)) * 3)))]) (fun s_ w' => (Kd.R (Kd.int .i64) 3 w' w.heap.size (fun _ => True) s_.1 y345) ∧ (∃ c_, (s_.1 : Value) = .slice (some s_.2.1) y345.length c_) ∧ (w'.heap[gb343]? = some (.cells #[.int .i64 a1_0, .slice A1_1 l1_1.length c1_1, .slice A1_2 l1_2.length c1_2] 58 (0, 0))) ∧ (w'.heap[gb344]? = some (.cells #[.int .i64 0, .string (⟨#[]⟩ : ByteArray)] 26 (0, 0))) ∧ (w'.heap[s_.2.2]? = some (.cells #[.int .i64 0, .string (⟨#[]⟩ : ByteArray)] 26 (0, 0))) ∧ (w.heap.size ≤ s_.2.2) ∧ (w0.heap.size ≤ s_.2.2) ∧ (g ≠ s_.2.2) ∧ (s_.2.2 ≠ g) ∧ (gb343 ≠ s_.2.2) ∧ (s_.2.2 ≠ gb343) ∧ (gb344 ≠ s_.2.2) ∧ (s_.2.2 ≠ gb344) ∧ (Iz w0 w' g s0_0 t352) ∧ (Kbt w w' g none) ∧ (Below w0.heap.size w0 w')) ?_ ?_
    rotate_left
    ·intro hJ0_2_6_11
     refine join_ (σ := Value × Addr) 7 #[true, true, true, true, true, true, false, false, false, false, false, false, false] (fun s_ => [(6, s_.1), (8, .int .i64 t348), (10, .int .i64 (rd y345 t348)), (9, .pointer (some (s_.2.add (t348).toNat)))]) (fun s_ w' => (Kd.R (Kd.int .i64) 3 w' w.heap.size (fun _ => True) s_.1 y345) ∧ (∃ c_, (s_.1 : Value) = .slice (some s_.2) y345.length c_) ∧ (w'.heap[gb343]? = some (.cells #[.int .i64 a1_0, .slice A1_1 l1_1.length c1_1, .slice A1_2 l1_2.length c1_2] 58 (0, 0))) ∧ (w'.heap[gb344]? = some (.cells #[.int .i64 0, .string (⟨#[]⟩ : ByteArray)] 26 (0, 0))) ∧ (Iz w0 w' g s0_0 t349) ∧ (Kbt w w' g none) ∧ (Below w0.heap.size w0 w')) ?_ ?_
     rotate_left
     ·intro hJ0_2_4
      refine join_ (σ := Value × Addr) 5 #[true, true, true, true, false, true, true, true, true, false, false, false, false] (fun s_ => [(6, s_.1), (8, .int .i64 t348), (12, .int .i64 t351), (9, .pointer (some (s_.2.add (t348).toNat))), (13, .int .i64 (wrap64 (Int.tdiv t351 59))), (14, .int .i64 (wrap64 ((wrap64 (Int.tdiv t351 59)) * 3)))]) (fun s_ w' => (Kd.R (Kd.int .i64) 3 w' w.heap.size (fun _ => True) s_.1 y345) ∧ (∃ c_, (s_.1 : Value) = .slice (some s_.2) y345.length c_) ∧ (w'.heap[gb343]? = some (.cells #[.int .i64 a1_0, .slice A1_1 l1_1.length c1_1, .slice A1_2 l1_2.length c1_2] 58 (0, 0))) ∧ (w'.heap[gb344]? = some (.cells #[.int .i64 0, .string (⟨#[]⟩ : ByteArray)] 26 (0, 0))) ∧ (Iz w0 w' g s0_0 t352) ∧ (Kbt w w' g none) ∧ (Below w0.heap.size w0 w')) ?_ ?_
      rotate_left
      ·intro hJ0_2_6
       refine join_ (σ := Value × Addr × Nat) 7 #[true, true, true, true, false, true, false, false, false, false, false, true, false] (fun s_ => [(6, s_.1), (8, .int .i64 t348), (5, .pointer (some ⟨s_.2.2, 0, none⟩)), (9, .pointer (some (s_.2.1.add (t348).toNat)))]) (fun s_ w' => (Kd.R (Kd.int .i64) 3 w' w.heap.size (fun _ => True) s_.1 y345) ∧ (∃ c_, (s_.1 : Value) = .slice (some s_.2.1) y345.length c_) ∧ (w'.heap[gb343]? = some (.cells #[.int .i64 a1_0, .slice A1_1 l1_1.length c1_1, .slice A1_2 l1_2.length c1_2] 58 (0, 0))) ∧ (w'.heap[gb344]? = some (.cells #[.int .i64 0, .string (⟨#[]⟩ : ByteArray)] 26 (0, 0))) ∧ (w'.heap[s_.2.2]? = some (.cells #[.int .i64 0, .string (⟨#[]⟩ : ByteArray)] 26 (0, 0))) ∧ (w.heap.size ≤ s_.2.2) ∧ (w0.heap.size ≤ s_.2.2) ∧ (g ≠ s_.2.2) ∧ (s_.2.2 ≠ g) ∧ (gb343 ≠ s_.2.2) ∧ (s_.2.2 ≠ gb343) ∧ (gb344 ≠ s_.2.2) ∧ (s_.2.2 ≠ gb344) ∧ (Iz w0 w' g s0_0 t349) ∧ (Kbt w w' g none) ∧ (Below w0.heap.size w0 w')) ?_ ?_
       rotate_left
       ·intro hJ0_2_11
        refine join_ (σ := Nat) 6 #[false, true, true, false, false, true, true, true, true, false, false, true, false] (fun s_ => [(8, .int .i64 t348), (12, .int .i64 t351), (5, .pointer (some ⟨s_, 0, none⟩)), (13, .int .i64 (wrap64 (Int.tdiv t351 59))), (14, .int .i64 (wrap64 ((wrap64 (Int.tdiv t351 59)) * 3)))]) (fun s_ w' => (w'.heap[gb343]? = some (.cells #[.int .i64 a1_0, .slice A1_1 l1_1.length c1_1, .slice A1_2 l1_2.length c1_2] 58 (0, 0))) ∧ (w'.heap[gb344]? = some (.cells #[.int .i64 0, .string (⟨#[]⟩ : ByteArray)] 26 (0, 0))) ∧ (w'.heap[s_]? = some (.cells #[.int .i64 0, .string (⟨#[]⟩ : ByteArray)] 26 (0, 0))) ∧ (w.heap.size ≤ s_) ∧ (w0.heap.size ≤ s_) ∧ (g ≠ s_) ∧ (s_ ≠ g) ∧ (gb343 ≠ s_) ∧ (s_ ≠ gb343) ∧ (gb344 ≠ s_) ∧ (s_ ≠ gb344) ∧ (Iz w0 w' g s0_0 t352) ∧ (Kbt w w' g none) ∧ (Below w0.heap.size w0 w')) ?_ ?_
        rotate_left
        ·intro hJ2_6_11
         refine join_ (σ := Value × Addr) 8 #[true, true, true, true, false, true, false, false, false, false, false, false, false] (fun s_ => [(6, s_.1), (8, .int .i64 t348), (9, .pointer (some (s_.2.add (t348).toNat)))]) (fun s_ w' => (Kd.R (Kd.int .i64) 3 w' w.heap.size (fun _ => True) s_.1 y345) ∧ (∃ c_, (s_.1 : Value) = .slice (some s_.2) y345.length c_) ∧ (w'.heap[gb343]? = some (.cells #[.int .i64 a1_0, .slice A1_1 l1_1.length c1_1, .slice A1_2 l1_2.length c1_2] 58 (0, 0))) ∧ (w'.heap[gb344]? = some (.cells #[.int .i64 0, .string (⟨#[]⟩ : ByteArray)] 26 (0, 0))) ∧ (Iz w0 w' g s0_0 t349) ∧ (Kbt w w' g none) ∧ (Below w0.heap.size w0 w')) ?_ ?_
         rotate_left
         ·intro hJ0_2
          refine join_ (σ := Value × Addr × Nat) 9 #[true, true, false, false, false, true, false, false, false, false, false, true, false] (fun s_ => [(6, s_.1), (5, .pointer (some ⟨s_.2.2, 0, none⟩))]) (fun s_ w' => (Kd.R (Kd.int .i64) 3 w' w.heap.size (fun _ => True) s_.1 y345) ∧ (∃ c_, (s_.1 : Value) = .slice (some s_.2.1) y345.length c_) ∧ (w'.heap[gb343]? = some (.cells #[.int .i64 a1_0, .slice A1_1 l1_1.length c1_1, .slice A1_2 l1_2.length c1_2] 58 (0, 0))) ∧ (w'.heap[gb344]? = some (.cells #[.int .i64 0, .string (⟨#[]⟩ : ByteArray)] 26 (0, 0))) ∧ (w'.heap[s_.2.2]? = some (.cells #[.int .i64 0, .string (⟨#[]⟩ : ByteArray)] 26 (0, 0))) ∧ (w.heap.size ≤ s_.2.2) ∧ (w0.heap.size ≤ s_.2.2) ∧ (g ≠ s_.2.2) ∧ (s_.2.2 ≠ g) ∧ (gb343 ≠ s_.2.2) ∧ (s_.2.2 ≠ gb343) ∧ (gb344 ≠ s_.2.2) ∧ (s_.2.2 ≠ gb344) ∧ (Iz w0 w' g s0_0 s0_1) ∧ (Kbt w w' g none) ∧ (Below w0.heap.size w0 w')) ?_ ?_
          rotate_left
          ·intro hJ0_11
           refine join_ (σ := Unit) 7 #[false, true, true, false, false, true, true, true, true, false, false, false, false] (fun s_ => [(8, .int .i64 t348), (12, .int .i64 t351), (13, .int .i64 (wrap64 (Int.tdiv t351 59))), (14, .int .i64 (wrap64 ((wrap64 (Int.tdiv t351 59)) * 3)))]) (fun s_ w' => (w'.heap[gb343]? = some (.cells #[.int .i64 a1_0, .slice A1_1 l1_1.length c1_1, .slice A1_2 l1_2.length c1_2] 58 (0, 0))) ∧ (w'.heap[gb344]? = some (.cells #[.int .i64 0, .string (⟨#[]⟩ : ByteArray)] 26 (0, 0))) ∧ (Iz w0 w' g s0_0 t352) ∧ (Kbt w w' g none) ∧ (Below w0.heap.size w0 w')) ?_ ?_
           rotate_left
           ·intro hJ2_6
            refine join_ (σ := Nat) 9 #[false, true, true, false, false, true, false, false, false, false, false, true, false] (fun s_ => [(8, .int .i64 t348), (5, .pointer (some ⟨s_, 0, none⟩))]) (fun s_ w' => (w'.heap[gb343]? = some (.cells #[.int .i64 a1_0, .slice A1_1 l1_1.length c1_1, .slice A1_2 l1_2.length c1_2] 58 (0, 0))) ∧ (w'.heap[gb344]? = some (.cells #[.int .i64 0, .string (⟨#[]⟩ : ByteArray)] 26 (0, 0))) ∧ (w'.heap[s_]? = some (.cells #[.int .i64 0, .string (⟨#[]⟩ : ByteArray)] 26 (0, 0))) ∧ (w.heap.size ≤ s_) ∧ (w0.heap.size ≤ s_) ∧ (g ≠ s_) ∧ (s_ ≠ g) ∧ (gb343 ≠ s_) ∧ (s_ ≠ gb343) ∧ (gb344 ≠ s_) ∧ (s_ ≠ gb344) ∧ (Iz w0 w' g s0_0 t349) ∧ (Kbt w w' g none) ∧ (Below w0.heap.size w0 w')) ?_ ?_
            rotate_left
            ·intro hJ2_11
             refine join_ (σ := Value × Addr) 10 #[true, true, false, false, false, true, false, false, false, false, false, false, false] (fun s_ => [(6, s_.1)]) (fun s_ w' => (Kd.R (Kd.int .i64) 3 w' w.heap.size (fun _ => True) s_.1 y345) ∧ (∃ c_, (s_.1 : Value) = .slice (some s_.2) y345.length c_) ∧ (w'.heap[gb343]? = some (.cells #[.int .i64 a1_0, .slice A1_1 l1_1.length c1_1, .slice A1_2 l1_2.length c1_2] 58 (0, 0))) ∧ (w'.heap[gb344]? = some (.cells #[.int .i64 0, .string (⟨#[]⟩ : ByteArray)] 26 (0, 0))) ∧ (Iz w0 w' g s0_0 s0_1) ∧ (Kbt w w' g none) ∧ (Below w0.heap.size w0 w')) ?_ ?_
             rotate_left
             ·intro hJ0
              refine join_ (σ := Unit) 10 #[false, true, true, false, false, true, false, false, false, false, false, false, false] (fun s_ => [(8, .int .i64 t348)]) (fun s_ w' => (w'.heap[gb343]? = some (.cells #[.int .i64 a1_0, .slice A1_1 l1_1.length c1_1, .slice A1_2 l1_2.length c1_2] 58 (0, 0))) ∧ (w'.heap[gb344]? = some (.cells #[.int .i64 0, .string (⟨#[]⟩ : ByteArray)] 26 (0, 0))) ∧ (Iz w0 w' g s0_0 t349) ∧ (Kbt w w' g none) ∧ (Below w0.heap.size w0 w')) ?_ ?_
              rotate_left
              ·intro hJ2
               refine join_ (σ := Nat) 10 #[false, true, false, false, false, true, false, false, false, false, false, true, false] (fun s_ => [(5, .pointer (some ⟨s_, 0, none⟩))]) (fun s_ w' => (w'.heap[gb343]? = some (.cells #[.int .i64 a1_0, .slice A1_1 l1_1.length c1_1, .slice A1_2 l1_2.length c1_2] 58 (0, 0))) ∧ (w'.heap[gb344]? = some (.cells #[.int .i64 0, .string (⟨#[]⟩ : ByteArray)] 26 (0, 0))) ∧ (w'.heap[s_]? = some (.cells #[.int .i64 0, .string (⟨#[]⟩ : ByteArray)] 26 (0, 0))) ∧ (w.heap.size ≤ s_) ∧ (w0.heap.size ≤ s_) ∧ (g ≠ s_) ∧ (s_ ≠ g) ∧ (gb343 ≠ s_) ∧ (s_ ≠ gb343) ∧ (gb344 ≠ s_) ∧ (s_ ≠ gb344) ∧ (Iz w0 w' g s0_0 s0_1) ∧ (Kbt w w' g none) ∧ (Below w0.heap.size w0 w')) ?_ ?_
               rotate_left
               ·intro hJ11
                refine three_ (i := 0) (j := 2) (k := 11) (Ni := some 6) (Nj := some 8) (Nk := some 5) #[true, true, false, false, false, true, false, false, false, false, false, false, false] #[false, true, true, false, false, true, false, false, false, false, false, false, false] #[false, true, false, false, false, true, false, false, false, false, false, true, false] rfl rfl rfl rfl rfl rfl (three_of HT_.out (by kernel_rfl)) (by decide) (by decide) (by decide) (fun K hK => ?_) (fun K hK => ?_) (fun K hK => ?_)
                ·skip
                 refine Kd.R_lit_step (Kd.int .i64) _ 3 ?hg (N := 6) ?hd (xs := ([0, 0, 0, 1, 1, 1, 2] : List Int)) (inner := [.int .i64 0, .int .i64 0, .int .i64 0, .int .i64 1, .int .i64 1, .int .i64 1, .int .i64 2]) (ok := fun _ => True) (okp := fun _ => True) ?hr ?hp (fun _ hk => hk) trivial (Below.refl _ _) (Nat.le_refl _) (by simp) ?_; (case hd => rfl); (case hg => rfl); (case hr => first | (go_simp; done) | (go_simp; rfl)); (case hp => exact (Reps.one (show Kd.M (Kd.int .i64) _ _ _ 0 [.int .i64 0] from rfl) (Reps.one (show Kd.M (Kd.int .i64) _ _ _ 0 [.int .i64 0] from rfl) (Reps.one (show Kd.M (Kd.int .i64) _ _ _ 0 [.int .i64 0] from rfl) (Reps.one (show Kd.M (Kd.int .i64) _ _ _ 1 [.int .i64 1] from rfl) (Reps.one (show Kd.M (Kd.int .i64) _ _ _ 1 [.int .i64 1] from rfl) (Reps.one (show Kd.M (Kd.int .i64) _ _ _ 1 [.int .i64 1] from rfl) (Reps.one (show Kd.M (Kd.int .i64) _ _ _ 2 [.int .i64 2] from rfl) (Reps.none _ _)))))))))
                 intro v346 w14 ho15 hb hg_ hnew_
                 clear hg_ hnew_
                 (first | rw [← Ny345.out] at ho15 | (simp only [Int.reduceToNat] at ho15; rw [← Ny345.out] at ho15))
                 have n0_ := Asd.mk (Kd.R_lower ho15 (kpZ (w := w) (g := g) (row := none) (by repeat (with_reducible first | exact HK.out | apply Kbt.set_ | apply kpX | refine kpF ?_ GW343.out _ | refine kpF ?_ GW344.out _))))
                 have n1_ := Asd.mk (Iz.below (by repeat (with_reducible first | exact HI0.out | refine Iz.below ?_ StB.b | apply Iz.set_1 | refine Iz.far ?_ aX _)) hb)
                 have n2_ := Asd.mk (bkB (g := gb343) (o := .cells #[.int .i64 a1_0, .slice A1_1 l1_1.length c1_1, .slice A1_2 l1_2.length c1_2] 58 (0, 0)) (by (repeat apply bkS); exact BK343.out) hb)
                 have n3_ := Asd.mk (bkB (g := gb344) (o := .cells #[.int .i64 0, .string (⟨#[]⟩ : ByteArray)] 26 (0, 0)) (by (repeat apply bkS); exact BK344.out) hb)
                 have n4_ := Asd.mk (Kbt.trans (by repeat (with_reducible first | exact HK.out | apply Kbt.set_ | apply kpX | refine kpF ?_ GW343.out _ | refine kpF ?_ GW344.out _)) (Kbt.of_below hb g none) (.inl rfl))
                 have n5_ := Asd.mk (bwP (by repeat (with_reducible first | exact HB.out | apply bwX | refine bwS ?_ (Iz.ge HI0.out) | refine bwS ?_ GE343.out | refine bwS ?_ GE344.out)) hb)
                 clear HI0
                 clear BK343
                 clear BK344
                 clear HK
                 clear HB
                 have HO347 := n0_
                 have HI0 := n1_
                 have BK343 := n2_
                 have BK344 := n3_
                 have HK := n4_
                 have HB := n5_
                 clear n0_ n1_ n2_ n3_ n4_ n5_
                 clear hb ho15
                 obtain ⟨Ao16, co16, eo16⟩ := Kd.R_slice HO347.out
                 subst eo16
                 obtain ⟨ado16, fo16, _⟩ := Kd.at_int (Kd.R_reads' HO347.out).2.2 0 (by decide) (by rw [Ny345.out]; simp)
                 cases fo16
                 refine hK.out _ _ trivial (fun hHeld => ?_)
                 clear hK K
                 refine norm_ (a' := ?_) ?_ ?_
                 rotate_left
                 ·show Act.put _ (some 6) _ = _
                  simp only [Act.put, qA, qB, qC, i64_w, i32_w]
                  rfl
                 exact norm_ (by simp only [putAll, Act.put, qA, qB, qC]; first | done | rfl) (hJ0 (.slice (some ado16) y345.length co16, ado16) _ ⟨(by (repeat apply Kd.RS); exact HO347.out), ⟨_, rfl⟩, (by (repeat apply bkS); exact BK343.out), (by (repeat apply bkS); exact BK344.out), (by repeat (with_reducible first | exact HI0.out | refine Iz.below ?_ StB.b | apply Iz.set_1 | refine Iz.far ?_ aX _)), (by repeat (with_reducible first | exact HK.out | apply Kbt.set_ | apply kpX | refine kpF ?_ GW343.out _ | refine kpF ?_ GW344.out _)), (by repeat (with_reducible first | exact HB.out | apply bwX | refine bwS ?_ (Iz.ge HI0.out) | refine bwS ?_ GE343.out | refine bwS ?_ GE344.out))⟩)
                ·skip
                 refine goes_ Try.func82 (by kernel_rfl) rfl #[.pointer (some ⟨g, 0, none⟩), .int .i64 7] (by rfl) rfl rfl (by (try simp only [List.map_toArray, List.map_cons, List.map_nil]); first | done | rfl | (simp only [List.length_drop, List.length_take]; rfl)) ?_
                 with_reducible refine (spec_l20Rd_pick.calls k g s0_0 s0_1 7 t348 t349 w0 _ ?side1 ?side2 A3.out).mono ?_
                 (case side1 => repeat (with_reducible first | exact HI0.out | refine Iz.below ?_ StB.b | apply Iz.set_1 | refine Iz.far ?_ aX _))
                 (case side2 => repeat (with_reducible first | exact HB.out | apply bwX | refine bwS ?_ (Iz.ge HI0.out) | refine bwS ?_ GE343.out | refine bwS ?_ GE344.out))
                 rintro e w14 ⟨rfl, hi, hb, hk⟩
                 refine ⟨_, rfl, ?_⟩
                 have n0_ := Asd.mk (Kbt.blk hk (g' := gb343) (o := .cells #[.int .i64 a1_0, .slice A1_1 l1_1.length c1_1, .slice A1_2 l1_2.length c1_2] 58 (0, 0)) (by (repeat apply bkS); exact BK343.out) NB343_0.out (by simp))
                 have n1_ := Asd.mk (Kbt.blk hk (g' := gb344) (o := .cells #[.int .i64 0, .string (⟨#[]⟩ : ByteArray)] 26 (0, 0)) (by (repeat apply bkS); exact BK344.out) NB344_0.out (by simp))
                 have n2_ := Asd.mk (Kbt.trans (by repeat (with_reducible first | exact HK.out | apply Kbt.set_ | apply kpX | refine kpF ?_ GW343.out _ | refine kpF ?_ GW344.out _)) hk (.inl rfl))
                 have n3_ := Asd.mk (hb)
                 have n4_ := Asd.mk (hi)
                 clear BK343
                 clear BK344
                 clear HK
                 clear HB
                 clear HI0
                 have BK343 := n0_
                 have BK344 := n1_
                 have HK := n2_
                 have HB := n3_
                 have HI0 := n4_
                 clear n0_ n1_ n2_ n3_ n4_
                 (try clear hb)
                 (try clear hb2)
                 (try clear hk)
                 (try clear hi)
                 refine hK.out _ _ trivial (fun hHeld => ?_)
                 clear hK K
                 refine norm_ (a' := ?_) ?_ ?_
                 rotate_left
                 ·show Act.put _ (some 8) _ = _
                  simp only [Act.put, qA, qB, qC, i64_w, i32_w]
                  rfl
                 exact norm_ (by simp only [putAll, Act.put, qA, qB, qC]; first | done | rfl) (hJ2 () _ ⟨(by (repeat apply bkS); exact BK343.out), (by (repeat apply bkS); exact BK344.out), (by repeat (with_reducible first | exact HI0.out | refine Iz.below ?_ StB.b | apply Iz.set_1 | refine Iz.far ?_ aX _)), (by repeat (with_reducible first | exact HK.out | apply Kbt.set_ | apply kpX | refine kpF ?_ GW343.out _ | refine kpF ?_ GW344.out _)), (by repeat (with_reducible first | exact HB.out | apply bwX | refine bwS ?_ (Iz.ge HI0.out) | refine bwS ?_ GE343.out | refine bwS ?_ GE344.out))⟩)
                ·skip
                 refine box_step ?hg (N := 5) ?hd (cs := #[.int .i64 0, .string (⟨#[]⟩ : ByteArray)]) (t := 26) ?hr ?_; (case hd => rfl); (case hg => rfl); (case hr => first | (go_simp; done) | (go_simp; rfl))
                 intro gb353 hg w14 hbox hb
                 have n0_ := Asd.mk (Iz.below (by repeat (with_reducible first | exact HI0.out | refine Iz.below ?_ StB.b | apply Iz.set_1 | refine Iz.far ?_ aX _)) hb)
                 have n1_ := Asd.mk (bkB (g := gb343) (o := .cells #[.int .i64 a1_0, .slice A1_1 l1_1.length c1_1, .slice A1_2 l1_2.length c1_2] 58 (0, 0)) (by (repeat apply bkS); exact BK343.out) hb)
                 have n2_ := Asd.mk (bkB (g := gb344) (o := .cells #[.int .i64 0, .string (⟨#[]⟩ : ByteArray)] 26 (0, 0)) (by (repeat apply bkS); exact BK344.out) hb)
                 have n3_ := Asd.mk (Kbt.trans (by repeat (with_reducible first | exact HK.out | apply Kbt.set_ | apply kpX | refine kpF ?_ GW343.out _ | refine kpF ?_ GW344.out _)) (Kbt.of_below hb g none) (.inl rfl))
                 have n4_ := Asd.mk (bwP (by repeat (with_reducible first | exact HB.out | apply bwX | refine bwS ?_ (Iz.ge HI0.out) | refine bwS ?_ GE343.out | refine bwS ?_ GE344.out)) hb)
                 have n5_ := Asd.mk (hbox)
                 have n6_ := Asd.mk ((by rw [hg]; exact (kpZ (w := w) (g := g) (row := none) (by repeat (with_reducible first | exact HK.out | apply Kbt.set_ | apply kpX | refine kpF ?_ GW343.out _ | refine kpF ?_ GW344.out _))) : w.heap.size ≤ gb353))
                 have n7_ := Asd.mk ((Nat.le_trans HW0.out (by rw [hg]; exact (kpZ (w := w) (g := g) (row := none) (by repeat (with_reducible first | exact HK.out | apply Kbt.set_ | apply kpX | refine kpF ?_ GW343.out _ | refine kpF ?_ GW344.out _))) : w.heap.size ≤ gb353) : w0.heap.size ≤ gb353))
                 have n8_ := Asd.mk ((by rw [hg]; exact Nat.ne_of_lt (bkL (g := gb343) (o := .cells #[.int .i64 a1_0, .slice A1_1 l1_1.length c1_1, .slice A1_2 l1_2.length c1_2] 58 (0, 0)) (by (repeat apply bkS); exact BK343.out)) : gb343 ≠ gb353))
                 have n9_ := Asd.mk ((by rw [hg]; exact Nat.ne_of_gt (bkL (g := gb343) (o := .cells #[.int .i64 a1_0, .slice A1_1 l1_1.length c1_1, .slice A1_2 l1_2.length c1_2] 58 (0, 0)) (by (repeat apply bkS); exact BK343.out)) : gb353 ≠ gb343))
                 have n10_ := Asd.mk ((by rw [hg]; exact Nat.ne_of_lt (bkL (g := gb344) (o := .cells #[.int .i64 0, .string (⟨#[]⟩ : ByteArray)] 26 (0, 0)) (by (repeat apply bkS); exact BK344.out)) : gb344 ≠ gb353))
                 have n11_ := Asd.mk ((by rw [hg]; exact Nat.ne_of_gt (bkL (g := gb344) (o := .cells #[.int .i64 0, .string (⟨#[]⟩ : ByteArray)] 26 (0, 0)) (by (repeat apply bkS); exact BK344.out)) : gb353 ≠ gb344))
                 have n12_ := Asd.mk ((by rw [hg]; exact Nat.ne_of_lt (Iz.lt (show Iz w0 _ g s0_0 s0_1 from by repeat (with_reducible first | exact HI0.out | refine Iz.below ?_ StB.b | apply Iz.set_1 | refine Iz.far ?_ aX _))) : g ≠ gb353))
                 have n13_ := Asd.mk ((by rw [hg]; exact Nat.ne_of_gt (Iz.lt (show Iz w0 _ g s0_0 s0_1 from by repeat (with_reducible first | exact HI0.out | refine Iz.below ?_ StB.b | apply Iz.set_1 | refine Iz.far ?_ aX _))) : gb353 ≠ g))
                 clear HI0
                 clear BK343
                 clear BK344
                 clear HK
                 clear HB
                 have HI0 := n0_
                 have BK343 := n1_
                 have BK344 := n2_
                 have HK := n3_
                 have HB := n4_
                 have BK353 := n5_
                 have GW353 := n6_
                 have GE353 := n7_
                 have NB343_353 := n8_
                 have NB353_343 := n9_
                 have NB344_353 := n10_
                 have NB353_344 := n11_
                 have NB0_353 := n12_
                 have NB353_0 := n13_
                 clear n0_ n1_ n2_ n3_ n4_ n5_ n6_ n7_ n8_ n9_ n10_ n11_ n12_ n13_
                 clear hb hbox hg
                 refine hK.out _ _ trivial (fun hHeld => ?_)
                 clear hK K
                 refine norm_ (a' := ?_) ?_ ?_
                 rotate_left
                 ·show Act.put _ (some 5) _ = _
                  simp only [Act.put, qA, qB, qC, i64_w, i32_w]
                  rfl
                 exact norm_ (by simp only [putAll, Act.put, qA, qB, qC]; first | done | rfl) (hJ11 (gb353) _ ⟨(by (repeat apply bkS); exact BK343.out), (by (repeat apply bkS); exact BK344.out), (by (repeat apply bkS); exact BK353.out), GW353.out, GE353.out, NB0_353.out, NB353_0.out, NB343_353.out, NB353_343.out, NB344_353.out, NB353_344.out, (by repeat (with_reducible first | exact HI0.out | refine Iz.below ?_ StB.b | apply Iz.set_1 | refine Iz.far ?_ aX _)), (by repeat (with_reducible first | exact HK.out | apply Kbt.set_ | apply kpX | refine kpF ?_ GW343.out _ | refine kpF ?_ GW344.out _ | refine kpF ?_ GW353.out _)), (by repeat (with_reducible first | exact HB.out | apply bwX | refine bwS ?_ (Iz.ge HI0.out) | refine bwS ?_ GE343.out | refine bwS ?_ GE344.out | refine bwS ?_ GE353.out))⟩)
               ·skip
                rintro gb353 w15 ⟨h0_, h1_, h2_, h3_, h4_, h5_, h6_, h7_, h8_, h9_, h10_, h11_, h12_, h13_⟩
                have n0_ : Asd (w15.heap[gb343]? = some (.cells #[.int .i64 a1_0, .slice A1_1 l1_1.length c1_1, .slice A1_2 l1_2.length c1_2] 58 (0, 0))) := ⟨h0_⟩
                have n1_ : Asd (w15.heap[gb344]? = some (.cells #[.int .i64 0, .string (⟨#[]⟩ : ByteArray)] 26 (0, 0))) := ⟨h1_⟩
                have n2_ : Asd (w15.heap[gb353]? = some (.cells #[.int .i64 0, .string (⟨#[]⟩ : ByteArray)] 26 (0, 0))) := ⟨h2_⟩
                have n3_ : Asd (w.heap.size ≤ gb353) := ⟨h3_⟩
                have n4_ : Asd (w0.heap.size ≤ gb353) := ⟨h4_⟩
                have n5_ : Asd (g ≠ gb353) := ⟨h5_⟩
                have n6_ : Asd (gb353 ≠ g) := ⟨h6_⟩
                have n7_ : Asd (gb343 ≠ gb353) := ⟨h7_⟩
                have n8_ : Asd (gb353 ≠ gb343) := ⟨h8_⟩
                have n9_ : Asd (gb344 ≠ gb353) := ⟨h9_⟩
                have n10_ : Asd (gb353 ≠ gb344) := ⟨h10_⟩
                have n11_ : Asd (Iz w0 w15 g s0_0 s0_1) := ⟨h11_⟩
                have n12_ : Asd (Kbt w w15 g none) := ⟨h12_⟩
                have n13_ : Asd (Below w0.heap.size w0 w15) := ⟨h13_⟩
                clear BK343
                clear BK344
                clear HI0
                clear HK
                clear HB
                clear h0_ h1_ h2_ h3_ h4_ h5_ h6_ h7_ h8_ h9_ h10_ h11_ h12_ h13_
                have BK343 := n0_
                have BK344 := n1_
                have BK353 := n2_
                have GW353 := n3_
                have GE353 := n4_
                have NB0_353 := n5_
                have NB353_0 := n6_
                have NB343_353 := n7_
                have NB353_343 := n8_
                have NB344_353 := n9_
                have NB353_344 := n10_
                have HI0 := n11_
                have HK := n12_
                have HB := n13_
                clear n0_ n1_ n2_ n3_ n4_ n5_ n6_ n7_ n8_ n9_ n10_ n11_ n12_ n13_
                have hHeld := trivial
                refine norm_ (a' := ?_) ?_ ?_
                rotate_left
                ·simp only [putAll, Act.put, qA, qB, qC]
                 rfl
                refine two_ (i := 0) (j := 2) (Ni := some 6) (Nj := some 8) #[true, true, false, false, false, true, false, false, false, false, false, true, false] #[false, true, true, false, false, true, false, false, false, false, false, true, false] rfl rfl rfl rfl (two_of HT_.out (by kernel_rfl)) (by decide) (by decide) (fun K hK => ?_) (fun K hK => ?_)
                ·skip
                 refine Kd.R_lit_step (Kd.int .i64) _ 3 ?hg (N := 6) ?hd (xs := ([0, 0, 0, 1, 1, 1, 2] : List Int)) (inner := [.int .i64 0, .int .i64 0, .int .i64 0, .int .i64 1, .int .i64 1, .int .i64 1, .int .i64 2]) (ok := fun _ => True) (okp := fun _ => True) ?hr ?hp (fun _ hk => hk) trivial (Below.refl _ _) (Nat.le_refl _) (by simp) ?_; (case hd => rfl); (case hg => rfl); (case hr => first | (go_simp; done) | (go_simp; rfl)); (case hp => exact (Reps.one (show Kd.M (Kd.int .i64) _ _ _ 0 [.int .i64 0] from rfl) (Reps.one (show Kd.M (Kd.int .i64) _ _ _ 0 [.int .i64 0] from rfl) (Reps.one (show Kd.M (Kd.int .i64) _ _ _ 0 [.int .i64 0] from rfl) (Reps.one (show Kd.M (Kd.int .i64) _ _ _ 1 [.int .i64 1] from rfl) (Reps.one (show Kd.M (Kd.int .i64) _ _ _ 1 [.int .i64 1] from rfl) (Reps.one (show Kd.M (Kd.int .i64) _ _ _ 1 [.int .i64 1] from rfl) (Reps.one (show Kd.M (Kd.int .i64) _ _ _ 2 [.int .i64 2] from rfl) (Reps.none _ _)))))))))
                 intro v346 w16 ho17 hb hg_ hnew_
                 clear hg_ hnew_
                 (first | rw [← Ny345.out] at ho17 | (simp only [Int.reduceToNat] at ho17; rw [← Ny345.out] at ho17))
                 have n0_ := Asd.mk (Kd.R_lower ho17 (kpZ (w := w) (g := g) (row := none) (by repeat (with_reducible first | exact HK.out | apply Kbt.set_ | apply kpX | refine kpF ?_ GW343.out _ | refine kpF ?_ GW344.out _ | refine kpF ?_ GW353.out _))))
                 have n1_ := Asd.mk (Iz.below (by repeat (with_reducible first | exact HI0.out | refine Iz.below ?_ StB.b | apply Iz.set_1 | refine Iz.far ?_ aX _)) hb)
                 have n2_ := Asd.mk (bkB (g := gb343) (o := .cells #[.int .i64 a1_0, .slice A1_1 l1_1.length c1_1, .slice A1_2 l1_2.length c1_2] 58 (0, 0)) (by (repeat apply bkS); exact BK343.out) hb)
                 have n3_ := Asd.mk (bkB (g := gb344) (o := .cells #[.int .i64 0, .string (⟨#[]⟩ : ByteArray)] 26 (0, 0)) (by (repeat apply bkS); exact BK344.out) hb)
                 have n4_ := Asd.mk (bkB (g := gb353) (o := .cells #[.int .i64 0, .string (⟨#[]⟩ : ByteArray)] 26 (0, 0)) (by (repeat apply bkS); exact BK353.out) hb)
                 have n5_ := Asd.mk (Kbt.trans (by repeat (with_reducible first | exact HK.out | apply Kbt.set_ | apply kpX | refine kpF ?_ GW343.out _ | refine kpF ?_ GW344.out _ | refine kpF ?_ GW353.out _)) (Kbt.of_below hb g none) (.inl rfl))
                 have n6_ := Asd.mk (bwP (by repeat (with_reducible first | exact HB.out | apply bwX | refine bwS ?_ (Iz.ge HI0.out) | refine bwS ?_ GE343.out | refine bwS ?_ GE344.out | refine bwS ?_ GE353.out)) hb)
                 clear HI0
                 clear BK343
                 clear BK344
                 clear BK353
                 clear HK
                 clear HB
                 have HO347 := n0_
                 have HI0 := n1_
                 have BK343 := n2_
                 have BK344 := n3_
                 have BK353 := n4_
                 have HK := n5_
                 have HB := n6_
                 clear n0_ n1_ n2_ n3_ n4_ n5_ n6_
                 clear hb ho17
                 obtain ⟨Ao18, co18, eo18⟩ := Kd.R_slice HO347.out
                 subst eo18
                 obtain ⟨ado18, fo18, _⟩ := Kd.at_int (Kd.R_reads' HO347.out).2.2 0 (by decide) (by rw [Ny345.out]; simp)
                 cases fo18
                 refine hK.out _ _ trivial (fun hHeld => ?_)
                 clear hK K
                 refine norm_ (a' := ?_) ?_ ?_
                 rotate_left
                 ·show Act.put _ (some 6) _ = _
                  simp only [Act.put, qA, qB, qC, i64_w, i32_w]
                  rfl
                 exact norm_ (by simp only [putAll, Act.put, qA, qB, qC]; first | done | rfl) (hJ0_11 (.slice (some ado18) y345.length co18, ado18, gb353) _ ⟨(by (repeat apply Kd.RS); exact HO347.out), ⟨_, rfl⟩, (by (repeat apply bkS); exact BK343.out), (by (repeat apply bkS); exact BK344.out), (by (repeat apply bkS); exact BK353.out), GW353.out, GE353.out, NB0_353.out, NB353_0.out, NB343_353.out, NB353_343.out, NB344_353.out, NB353_344.out, (by repeat (with_reducible first | exact HI0.out | refine Iz.below ?_ StB.b | apply Iz.set_1 | refine Iz.far ?_ aX _)), (by repeat (with_reducible first | exact HK.out | apply Kbt.set_ | apply kpX | refine kpF ?_ GW343.out _ | refine kpF ?_ GW344.out _ | refine kpF ?_ GW353.out _)), (by repeat (with_reducible first | exact HB.out | apply bwX | refine bwS ?_ (Iz.ge HI0.out) | refine bwS ?_ GE343.out | refine bwS ?_ GE344.out | refine bwS ?_ GE353.out))⟩)
                ·skip
                 refine goes_ Try.func82 (by kernel_rfl) rfl #[.pointer (some ⟨g, 0, none⟩), .int .i64 7] (by rfl) rfl rfl (by (try simp only [List.map_toArray, List.map_cons, List.map_nil]); first | done | rfl | (simp only [List.length_drop, List.length_take]; rfl)) ?_
                 with_reducible refine (spec_l20Rd_pick.calls k g s0_0 s0_1 7 t348 t349 w0 _ ?side1 ?side2 A3.out).mono ?_
                 (case side1 => repeat (with_reducible first | exact HI0.out | refine Iz.below ?_ StB.b | apply Iz.set_1 | refine Iz.far ?_ aX _))
                 (case side2 => repeat (with_reducible first | exact HB.out | apply bwX | refine bwS ?_ (Iz.ge HI0.out) | refine bwS ?_ GE343.out | refine bwS ?_ GE344.out | refine bwS ?_ GE353.out))
                 rintro e w16 ⟨rfl, hi, hb, hk⟩
                 refine ⟨_, rfl, ?_⟩
                 have n0_ := Asd.mk (Kbt.blk hk (g' := gb343) (o := .cells #[.int .i64 a1_0, .slice A1_1 l1_1.length c1_1, .slice A1_2 l1_2.length c1_2] 58 (0, 0)) (by (repeat apply bkS); exact BK343.out) NB343_0.out (by simp))
                 have n1_ := Asd.mk (Kbt.blk hk (g' := gb344) (o := .cells #[.int .i64 0, .string (⟨#[]⟩ : ByteArray)] 26 (0, 0)) (by (repeat apply bkS); exact BK344.out) NB344_0.out (by simp))
                 have n2_ := Asd.mk (Kbt.blk hk (g' := gb353) (o := .cells #[.int .i64 0, .string (⟨#[]⟩ : ByteArray)] 26 (0, 0)) (by (repeat apply bkS); exact BK353.out) NB353_0.out (by simp))
                 have n3_ := Asd.mk (Kbt.trans (by repeat (with_reducible first | exact HK.out | apply Kbt.set_ | apply kpX | refine kpF ?_ GW343.out _ | refine kpF ?_ GW344.out _ | refine kpF ?_ GW353.out _)) hk (.inl rfl))
                 have n4_ := Asd.mk (hb)
                 have n5_ := Asd.mk (hi)
                 clear BK343
                 clear BK344
                 clear BK353
                 clear HK
                 clear HB
                 clear HI0
                 have BK343 := n0_
                 have BK344 := n1_
                 have BK353 := n2_
                 have HK := n3_
                 have HB := n4_
                 have HI0 := n5_
                 clear n0_ n1_ n2_ n3_ n4_ n5_
                 (try clear hb)
                 (try clear hb2)
                 (try clear hk)
                 (try clear hi)
                 refine hK.out _ _ trivial (fun hHeld => ?_)
                 clear hK K
                 refine norm_ (a' := ?_) ?_ ?_
                 rotate_left
                 ·show Act.put _ (some 8) _ = _
                  simp only [Act.put, qA, qB, qC, i64_w, i32_w]
                  rfl
                 exact norm_ (by simp only [putAll, Act.put, qA, qB, qC]; first | done | rfl) (hJ2_11 (gb353) _ ⟨(by (repeat apply bkS); exact BK343.out), (by (repeat apply bkS); exact BK344.out), (by (repeat apply bkS); exact BK353.out), GW353.out, GE353.out, NB0_353.out, NB353_0.out, NB343_353.out, NB353_343.out, NB344_353.out, NB353_344.out, (by repeat (with_reducible first | exact HI0.out | refine Iz.below ?_ StB.b | apply Iz.set_1 | refine Iz.far ?_ aX _)), (by repeat (with_reducible first | exact HK.out | apply Kbt.set_ | apply kpX | refine kpF ?_ GW343.out _ | refine kpF ?_ GW344.out _ | refine kpF ?_ GW353.out _)), (by repeat (with_reducible first | exact HB.out | apply bwX | refine bwS ?_ (Iz.ge HI0.out) | refine bwS ?_ GE343.out | refine bwS ?_ GE344.out | refine bwS ?_ GE353.out))⟩)
              ·skip
               rintro _ w15 ⟨h0_, h1_, h2_, h3_, h4_⟩
               have n0_ : Asd (w15.heap[gb343]? = some (.cells #[.int .i64 a1_0, .slice A1_1 l1_1.length c1_1, .slice A1_2 l1_2.length c1_2] 58 (0, 0))) := ⟨h0_⟩
               have n1_ : Asd (w15.heap[gb344]? = some (.cells #[.int .i64 0, .string (⟨#[]⟩ : ByteArray)] 26 (0, 0))) := ⟨h1_⟩
               have n2_ : Asd (Iz w0 w15 g s0_0 t349) := ⟨h2_⟩
               have n3_ : Asd (Kbt w w15 g none) := ⟨h3_⟩
               have n4_ : Asd (Below w0.heap.size w0 w15) := ⟨h4_⟩
               clear BK343
               clear BK344
               clear HI0
               clear HK
               clear HB
               clear h0_ h1_ h2_ h3_ h4_
               have BK343 := n0_
               have BK344 := n1_
               have HI0 := n2_
               have HK := n3_
               have HB := n4_
               clear n0_ n1_ n2_ n3_ n4_
               have hHeld := trivial
               refine norm_ (a' := ?_) ?_ ?_
               rotate_left
               ·simp only [putAll, Act.put, qA, qB, qC]
                rfl
               refine three_ (i := 0) (j := 6) (k := 11) (Ni := some 6) (Nj := some 12) (Nk := some 5) #[true, true, true, false, false, true, false, false, false, false, false, false, false] #[false, true, true, false, false, true, true, false, false, false, false, false, false] #[false, true, true, false, false, true, false, false, false, false, false, true, false] rfl rfl rfl rfl rfl rfl (three_of HT_.out (by kernel_rfl)) (by decide) (by decide) (by decide) (fun K hK => ?_) (fun K hK => ?_) (fun K hK => ?_)
               ·skip
                refine Kd.R_lit_step (Kd.int .i64) _ 3 ?hg (N := 6) ?hd (xs := ([0, 0, 0, 1, 1, 1, 2] : List Int)) (inner := [.int .i64 0, .int .i64 0, .int .i64 0, .int .i64 1, .int .i64 1, .int .i64 1, .int .i64 2]) (ok := fun _ => True) (okp := fun _ => True) ?hr ?hp (fun _ hk => hk) trivial (Below.refl _ _) (Nat.le_refl _) (by simp) ?_; (case hd => rfl); (case hg => rfl); (case hr => first | (go_simp; done) | (go_simp; rfl)); (case hp => exact (Reps.one (show Kd.M (Kd.int .i64) _ _ _ 0 [.int .i64 0] from rfl) (Reps.one (show Kd.M (Kd.int .i64) _ _ _ 0 [.int .i64 0] from rfl) (Reps.one (show Kd.M (Kd.int .i64) _ _ _ 0 [.int .i64 0] from rfl) (Reps.one (show Kd.M (Kd.int .i64) _ _ _ 1 [.int .i64 1] from rfl) (Reps.one (show Kd.M (Kd.int .i64) _ _ _ 1 [.int .i64 1] from rfl) (Reps.one (show Kd.M (Kd.int .i64) _ _ _ 1 [.int .i64 1] from rfl) (Reps.one (show Kd.M (Kd.int .i64) _ _ _ 2 [.int .i64 2] from rfl) (Reps.none _ _)))))))))
                intro v346 w16 ho17 hb hg_ hnew_
                clear hg_ hnew_
                (first | rw [← Ny345.out] at ho17 | (simp only [Int.reduceToNat] at ho17; rw [← Ny345.out] at ho17))
                have n0_ := Asd.mk (Kd.R_lower ho17 (kpZ (w := w) (g := g) (row := none) (by repeat (with_reducible first | exact HK.out | apply Kbt.set_ | apply kpX | refine kpF ?_ GW343.out _ | refine kpF ?_ GW344.out _))))
                have n1_ := Asd.mk (Iz.below (by repeat (with_reducible first | exact HI0.out | refine Iz.below ?_ StB.b | apply Iz.set_1 | refine Iz.far ?_ aX _)) hb)
                have n2_ := Asd.mk (bkB (g := gb343) (o := .cells #[.int .i64 a1_0, .slice A1_1 l1_1.length c1_1, .slice A1_2 l1_2.length c1_2] 58 (0, 0)) (by (repeat apply bkS); exact BK343.out) hb)
                have n3_ := Asd.mk (bkB (g := gb344) (o := .cells #[.int .i64 0, .string (⟨#[]⟩ : ByteArray)] 26 (0, 0)) (by (repeat apply bkS); exact BK344.out) hb)
                have n4_ := Asd.mk (Kbt.trans (by repeat (with_reducible first | exact HK.out | apply Kbt.set_ | apply kpX | refine kpF ?_ GW343.out _ | refine kpF ?_ GW344.out _)) (Kbt.of_below hb g none) (.inl rfl))
                have n5_ := Asd.mk (bwP (by repeat (with_reducible first | exact HB.out | apply bwX | refine bwS ?_ (Iz.ge HI0.out) | refine bwS ?_ GE343.out | refine bwS ?_ GE344.out)) hb)
                clear HI0
                clear BK343
                clear BK344
                clear HK
                clear HB
                have HO347 := n0_
                have HI0 := n1_
                have BK343 := n2_
                have BK344 := n3_
                have HK := n4_
                have HB := n5_
                clear n0_ n1_ n2_ n3_ n4_ n5_
                clear hb ho17
                obtain ⟨Ao18, co18, eo18⟩ := Kd.R_slice HO347.out
                subst eo18
                obtain ⟨ado18, fo18, _⟩ := Kd.at_int (Kd.R_reads' HO347.out).2.2 0 (by decide) (by rw [Ny345.out]; simp)
                cases fo18
                refine hK.out _ _ trivial (fun hHeld => ?_)
                clear hK K
                refine norm_ (a' := ?_) ?_ ?_
                rotate_left
                ·show Act.put _ (some 6) _ = _
                 simp only [Act.put, qA, qB, qC, i64_w, i32_w]
                 rfl
                refine pure_ (i := 3) (N := some 9) (v := ?_) (a' := ?_) #[true, true, true, true, false, true, false, false, false, false, false, false, false] rfl rfl (any_of HT_.out (by kernel_rfl)) (fun _ _ _ h => h) (Or.inl ⟨by rfl, ?_⟩) ?_ ?_
                rotate_left
                ·intro w'
                 go_simp
                 with_reducible rfl
                rotate_left
                ·simp only [Act.put, qA, qB, qC, i64_w, i32_w]
                 rfl
                exact norm_ (by simp only [putAll, Act.put, qA, qB, qC]; first | done | rfl) (hJ0_2 (.slice (some ado18) y345.length co18, ado18) _ ⟨(by (repeat apply Kd.RS); exact HO347.out), ⟨_, rfl⟩, (by (repeat apply bkS); exact BK343.out), (by (repeat apply bkS); exact BK344.out), (by repeat (with_reducible first | exact HI0.out | refine Iz.below ?_ StB.b | apply Iz.set_1 | refine Iz.far ?_ aX _)), (by repeat (with_reducible first | exact HK.out | apply Kbt.set_ | apply kpX | refine kpF ?_ GW343.out _ | refine kpF ?_ GW344.out _)), (by repeat (with_reducible first | exact HB.out | apply bwX | refine bwS ?_ (Iz.ge HI0.out) | refine bwS ?_ GE343.out | refine bwS ?_ GE344.out))⟩)
               ·skip
                refine goes_ Try.func82 (by kernel_rfl) rfl #[.pointer (some ⟨g, 0, none⟩), .int .i64 60] (by rfl) rfl rfl (by (try simp only [List.map_toArray, List.map_cons, List.map_nil]); first | done | rfl | (simp only [List.length_drop, List.length_take]; rfl)) ?_
                with_reducible refine (spec_l20Rd_pick.calls k g s0_0 t349 60 t351 t352 w0 _ ?side1 ?side2 A6.out).mono ?_
                (case side1 => repeat (with_reducible first | exact HI0.out | refine Iz.below ?_ StB.b | apply Iz.set_1 | refine Iz.far ?_ aX _))
                (case side2 => repeat (with_reducible first | exact HB.out | apply bwX | refine bwS ?_ (Iz.ge HI0.out) | refine bwS ?_ GE343.out | refine bwS ?_ GE344.out))
                rintro e w16 ⟨rfl, hi, hb, hk⟩
                refine ⟨_, rfl, ?_⟩
                have n0_ := Asd.mk (Kbt.blk hk (g' := gb343) (o := .cells #[.int .i64 a1_0, .slice A1_1 l1_1.length c1_1, .slice A1_2 l1_2.length c1_2] 58 (0, 0)) (by (repeat apply bkS); exact BK343.out) NB343_0.out (by simp))
                have n1_ := Asd.mk (Kbt.blk hk (g' := gb344) (o := .cells #[.int .i64 0, .string (⟨#[]⟩ : ByteArray)] 26 (0, 0)) (by (repeat apply bkS); exact BK344.out) NB344_0.out (by simp))
                have n2_ := Asd.mk (Kbt.trans (by repeat (with_reducible first | exact HK.out | apply Kbt.set_ | apply kpX | refine kpF ?_ GW343.out _ | refine kpF ?_ GW344.out _)) hk (.inl rfl))
                have n3_ := Asd.mk (hb)
                have n4_ := Asd.mk (hi)
                clear BK343
                clear BK344
                clear HK
                clear HB
                clear HI0
                have BK343 := n0_
                have BK344 := n1_
                have HK := n2_
                have HB := n3_
                have HI0 := n4_
                clear n0_ n1_ n2_ n3_ n4_
                (try clear hb)
                (try clear hb2)
                (try clear hk)
                (try clear hi)
                refine hK.out _ _ trivial (fun hHeld => ?_)
                clear hK K
                refine norm_ (a' := ?_) ?_ ?_
                rotate_left
                ·show Act.put _ (some 12) _ = _
                 simp only [Act.put, qA, qB, qC, i64_w, i32_w]
                 rfl
                refine pure_ (i := 7) (N := some 13) (v := ?_) (a' := ?_) #[false, true, true, false, false, true, true, true, false, false, false, false, false] rfl rfl (any_of HT_.out (by kernel_rfl)) (fun _ _ _ h => h) (Or.inl ⟨by rfl, ?_⟩) ?_ ?_
                rotate_left
                ·intro w'
                 go_simp
                 with_reducible rfl
                rotate_left
                ·simp only [Act.put, qA, qB, qC, i64_w, i32_w]
                 rfl
                refine pure_ (i := 8) (N := some 14) (v := ?_) (a' := ?_) #[false, true, true, false, false, true, true, true, true, false, false, false, false] rfl rfl (any_of HT_.out (by kernel_rfl)) (fun _ _ _ h => h) (Or.inl ⟨by rfl, ?_⟩) ?_ ?_
                rotate_left
                ·intro w'
                 go_simp
                 with_reducible rfl
                rotate_left
                ·simp only [Act.put, qA, qB, qC, i64_w, i32_w]
                 rfl
                exact norm_ (by simp only [putAll, Act.put, qA, qB, qC]; first | done | rfl) (hJ2_6 () _ ⟨(by (repeat apply bkS); exact BK343.out), (by (repeat apply bkS); exact BK344.out), (by repeat (with_reducible first | exact HI0.out | refine Iz.below ?_ StB.b | apply Iz.set_1 | refine Iz.far ?_ aX _)), (by repeat (with_reducible first | exact HK.out | apply Kbt.set_ | apply kpX | refine kpF ?_ GW343.out _ | refine kpF ?_ GW344.out _)), (by repeat (with_reducible first | exact HB.out | apply bwX | refine bwS ?_ (Iz.ge HI0.out) | refine bwS ?_ GE343.out | refine bwS ?_ GE344.out))⟩)
               ·skip
                refine box_step ?hg (N := 5) ?hd (cs := #[.int .i64 0, .string (⟨#[]⟩ : ByteArray)]) (t := 26) ?hr ?_; (case hd => rfl); (case hg => rfl); (case hr => first | (go_simp; done) | (go_simp; rfl))
                intro gb353 hg w16 hbox hb
                have n0_ := Asd.mk (Iz.below (by repeat (with_reducible first | exact HI0.out | refine Iz.below ?_ StB.b | apply Iz.set_1 | refine Iz.far ?_ aX _)) hb)
                have n1_ := Asd.mk (bkB (g := gb343) (o := .cells #[.int .i64 a1_0, .slice A1_1 l1_1.length c1_1, .slice A1_2 l1_2.length c1_2] 58 (0, 0)) (by (repeat apply bkS); exact BK343.out) hb)
                have n2_ := Asd.mk (bkB (g := gb344) (o := .cells #[.int .i64 0, .string (⟨#[]⟩ : ByteArray)] 26 (0, 0)) (by (repeat apply bkS); exact BK344.out) hb)
                have n3_ := Asd.mk (Kbt.trans (by repeat (with_reducible first | exact HK.out | apply Kbt.set_ | apply kpX | refine kpF ?_ GW343.out _ | refine kpF ?_ GW344.out _)) (Kbt.of_below hb g none) (.inl rfl))
                have n4_ := Asd.mk (bwP (by repeat (with_reducible first | exact HB.out | apply bwX | refine bwS ?_ (Iz.ge HI0.out) | refine bwS ?_ GE343.out | refine bwS ?_ GE344.out)) hb)
                have n5_ := Asd.mk (hbox)
                have n6_ := Asd.mk ((by rw [hg]; exact (kpZ (w := w) (g := g) (row := none) (by repeat (with_reducible first | exact HK.out | apply Kbt.set_ | apply kpX | refine kpF ?_ GW343.out _ | refine kpF ?_ GW344.out _))) : w.heap.size ≤ gb353))
                have n7_ := Asd.mk ((Nat.le_trans HW0.out (by rw [hg]; exact (kpZ (w := w) (g := g) (row := none) (by repeat (with_reducible first | exact HK.out | apply Kbt.set_ | apply kpX | refine kpF ?_ GW343.out _ | refine kpF ?_ GW344.out _))) : w.heap.size ≤ gb353) : w0.heap.size ≤ gb353))
                have n8_ := Asd.mk ((by rw [hg]; exact Nat.ne_of_lt (bkL (g := gb343) (o := .cells #[.int .i64 a1_0, .slice A1_1 l1_1.length c1_1, .slice A1_2 l1_2.length c1_2] 58 (0, 0)) (by (repeat apply bkS); exact BK343.out)) : gb343 ≠ gb353))
                have n9_ := Asd.mk ((by rw [hg]; exact Nat.ne_of_gt (bkL (g := gb343) (o := .cells #[.int .i64 a1_0, .slice A1_1 l1_1.length c1_1, .slice A1_2 l1_2.length c1_2] 58 (0, 0)) (by (repeat apply bkS); exact BK343.out)) : gb353 ≠ gb343))
                have n10_ := Asd.mk ((by rw [hg]; exact Nat.ne_of_lt (bkL (g := gb344) (o := .cells #[.int .i64 0, .string (⟨#[]⟩ : ByteArray)] 26 (0, 0)) (by (repeat apply bkS); exact BK344.out)) : gb344 ≠ gb353))
                have n11_ := Asd.mk ((by rw [hg]; exact Nat.ne_of_gt (bkL (g := gb344) (o := .cells #[.int .i64 0, .string (⟨#[]⟩ : ByteArray)] 26 (0, 0)) (by (repeat apply bkS); exact BK344.out)) : gb353 ≠ gb344))
                have n12_ := Asd.mk ((by rw [hg]; exact Nat.ne_of_lt (Iz.lt (show Iz w0 _ g s0_0 t349 from by repeat (with_reducible first | exact HI0.out | refine Iz.below ?_ StB.b | apply Iz.set_1 | refine Iz.far ?_ aX _))) : g ≠ gb353))
                have n13_ := Asd.mk ((by rw [hg]; exact Nat.ne_of_gt (Iz.lt (show Iz w0 _ g s0_0 t349 from by repeat (with_reducible first | exact HI0.out | refine Iz.below ?_ StB.b | apply Iz.set_1 | refine Iz.far ?_ aX _))) : gb353 ≠ g))
                clear HI0
                clear BK343
                clear BK344
                clear HK
                clear HB
                have HI0 := n0_
                have BK343 := n1_
                have BK344 := n2_
                have HK := n3_
                have HB := n4_
                have BK353 := n5_
                have GW353 := n6_
                have GE353 := n7_
                have NB343_353 := n8_
                have NB353_343 := n9_
                have NB344_353 := n10_
                have NB353_344 := n11_
                have NB0_353 := n12_
                have NB353_0 := n13_
                clear n0_ n1_ n2_ n3_ n4_ n5_ n6_ n7_ n8_ n9_ n10_ n11_ n12_ n13_
                clear hb hbox hg
                refine hK.out _ _ trivial (fun hHeld => ?_)
                clear hK K
                refine norm_ (a' := ?_) ?_ ?_
                rotate_left
                ·show Act.put _ (some 5) _ = _
                 simp only [Act.put, qA, qB, qC, i64_w, i32_w]
                 rfl
                exact norm_ (by simp only [putAll, Act.put, qA, qB, qC]; first | done | rfl) (hJ2_11 (gb353) _ ⟨(by (repeat apply bkS); exact BK343.out), (by (repeat apply bkS); exact BK344.out), (by (repeat apply bkS); exact BK353.out), GW353.out, GE353.out, NB0_353.out, NB353_0.out, NB343_353.out, NB353_343.out, NB344_353.out, NB353_344.out, (by repeat (with_reducible first | exact HI0.out | refine Iz.below ?_ StB.b | apply Iz.set_1 | refine Iz.far ?_ aX _)), (by repeat (with_reducible first | exact HK.out | apply Kbt.set_ | apply kpX | refine kpF ?_ GW343.out _ | refine kpF ?_ GW344.out _ | refine kpF ?_ GW353.out _)), (by repeat (with_reducible first | exact HB.out | apply bwX | refine bwS ?_ (Iz.ge HI0.out) | refine bwS ?_ GE343.out | refine bwS ?_ GE344.out | refine bwS ?_ GE353.out))⟩)
             ·skip
              rintro ⟨v346, adz_v346⟩ w17 ⟨h0_, h1_, h2_, h3_, h4_, h5_, h6_⟩
              have n0_ : Asd (Kd.R (Kd.int .i64) 3 w17 w.heap.size (fun _ => True) v346 y345) := ⟨h0_⟩
              have n1_ : Asd (∃ c_, (v346 : Value) = .slice (some adz_v346) y345.length c_) := ⟨h1_⟩
              have n2_ : Asd (w17.heap[gb343]? = some (.cells #[.int .i64 a1_0, .slice A1_1 l1_1.length c1_1, .slice A1_2 l1_2.length c1_2] 58 (0, 0))) := ⟨h2_⟩
              have n3_ : Asd (w17.heap[gb344]? = some (.cells #[.int .i64 0, .string (⟨#[]⟩ : ByteArray)] 26 (0, 0))) := ⟨h3_⟩
              have n4_ : Asd (Iz w0 w17 g s0_0 s0_1) := ⟨h4_⟩
              have n5_ : Asd (Kbt w w17 g none) := ⟨h5_⟩
              have n6_ : Asd (Below w0.heap.size w0 w17) := ⟨h6_⟩
              clear BK343
              clear BK344
              clear HI0
              clear HK
              clear HB
              clear h0_ h1_ h2_ h3_ h4_ h5_ h6_
              have HO347 := n0_
              have HA_HO347 := n1_
              have BK343 := n2_
              have BK344 := n3_
              have HI0 := n4_
              have HK := n5_
              have HB := n6_
              clear n0_ n1_ n2_ n3_ n4_ n5_ n6_
              have hHeld := trivial
              obtain ⟨co18, eo18⟩ := HA_HO347.out
              clear HA_HO347
              subst eo18
              refine norm_ (a' := ?_) ?_ ?_
              rotate_left
              ·simp only [putAll, Act.put, qA, qB, qC]
               rfl
              refine two_ (i := 2) (j := 11) (Ni := some 8) (Nj := some 5) #[true, true, true, false, false, true, false, false, false, false, false, false, false] #[true, true, false, false, false, true, false, false, false, false, false, true, false] rfl rfl rfl rfl (two_of HT_.out (by kernel_rfl)) (by decide) (by decide) (fun K hK => ?_) (fun K hK => ?_)
              ·skip
               refine goes_ Try.func82 (by kernel_rfl) rfl #[.pointer (some ⟨g, 0, none⟩), .int .i64 7] (by rfl) rfl rfl (by (try simp only [List.map_toArray, List.map_cons, List.map_nil]); first | done | rfl | (simp only [List.length_drop, List.length_take]; rfl)) ?_
               with_reducible refine (spec_l20Rd_pick.calls k g s0_0 s0_1 7 t348 t349 w0 _ ?side1 ?side2 A3.out).mono ?_
               (case side1 => repeat (with_reducible first | exact HI0.out | refine Iz.below ?_ StB.b | apply Iz.set_1 | refine Iz.far ?_ aX _))
               (case side2 => repeat (with_reducible first | exact HB.out | apply bwX | refine bwS ?_ (Iz.ge HI0.out) | refine bwS ?_ GE343.out | refine bwS ?_ GE344.out))
               rintro e w19 ⟨rfl, hi, hb, hk⟩
               refine ⟨_, rfl, ?_⟩
               have n0_ := Asd.mk (Kbt.blk hk (g' := gb343) (o := .cells #[.int .i64 a1_0, .slice A1_1 l1_1.length c1_1, .slice A1_2 l1_2.length c1_2] 58 (0, 0)) (by (repeat apply bkS); exact BK343.out) NB343_0.out (by simp))
               have n1_ := Asd.mk (Kbt.blk hk (g' := gb344) (o := .cells #[.int .i64 0, .string (⟨#[]⟩ : ByteArray)] 26 (0, 0)) (by (repeat apply bkS); exact BK344.out) NB344_0.out (by simp))
               have n2_ := Asd.mk (Kd.R_mono (Kd.R_keep (Iz.apart (show Iz w0 _ g s0_0 s0_1 from by repeat (with_reducible first | exact HI0.out | refine Iz.below ?_ StB.b | apply Iz.set_1 | refine Iz.far ?_ aX _)) (by (repeat apply Kd.RS); exact HO347.out) (by decide)) hk (fun _ h => h.2)) (fun _ h => h.1))
               have n3_ := Asd.mk (Kbt.trans (by repeat (with_reducible first | exact HK.out | apply Kbt.set_ | apply kpX | refine kpF ?_ GW343.out _ | refine kpF ?_ GW344.out _)) hk (.inl rfl))
               have n4_ := Asd.mk (hb)
               have n5_ := Asd.mk (hi)
               clear BK343
               clear BK344
               clear HO347
               clear HK
               clear HB
               clear HI0
               have BK343 := n0_
               have BK344 := n1_
               have HO347 := n2_
               have HK := n3_
               have HB := n4_
               have HI0 := n5_
               clear n0_ n1_ n2_ n3_ n4_ n5_
               (try clear hb)
               (try clear hb2)
               (try clear hk)
               (try clear hi)
               refine hK.out _ _ trivial (fun hHeld => ?_)
               clear hK K
               refine norm_ (a' := ?_) ?_ ?_
               rotate_left
               ·show Act.put _ (some 8) _ = _
                simp only [Act.put, qA, qB, qC, i64_w, i32_w]
                rfl
               refine pure_ (i := 3) (N := some 9) (v := ?_) (a' := ?_) #[true, true, true, true, false, true, false, false, false, false, false, false, false] rfl rfl (any_of HT_.out (by kernel_rfl)) (fun _ _ _ h => h) (Or.inl ⟨by rfl, ?_⟩) ?_ ?_
               rotate_left
               ·intro w'
                go_simp
                with_reducible rfl
               rotate_left
               ·simp only [Act.put, qA, qB, qC, i64_w, i32_w]
                rfl
               exact norm_ (by simp only [putAll, Act.put, qA, qB, qC]; first | done | rfl) (hJ0_2 (.slice (some adz_v346) y345.length co18, adz_v346) _ ⟨(by (repeat apply Kd.RS); exact HO347.out), ⟨_, rfl⟩, (by (repeat apply bkS); exact BK343.out), (by (repeat apply bkS); exact BK344.out), (by repeat (with_reducible first | exact HI0.out | refine Iz.below ?_ StB.b | apply Iz.set_1 | refine Iz.far ?_ aX _)), (by repeat (with_reducible first | exact HK.out | apply Kbt.set_ | apply kpX | refine kpF ?_ GW343.out _ | refine kpF ?_ GW344.out _)), (by repeat (with_reducible first | exact HB.out | apply bwX | refine bwS ?_ (Iz.ge HI0.out) | refine bwS ?_ GE343.out | refine bwS ?_ GE344.out))⟩)
              ·skip
               refine box_step ?hg (N := 5) ?hd (cs := #[.int .i64 0, .string (⟨#[]⟩ : ByteArray)]) (t := 26) ?hr ?_; (case hd => rfl); (case hg => rfl); (case hr => first | (go_simp; done) | (go_simp; rfl))
               intro gb353 hg w19 hbox hb
               have n0_ := Asd.mk (Kd.R_below (by (repeat apply Kd.RS); exact HO347.out) hb)
               have n1_ := Asd.mk (Iz.below (by repeat (with_reducible first | exact HI0.out | refine Iz.below ?_ StB.b | apply Iz.set_1 | refine Iz.far ?_ aX _)) hb)
               have n2_ := Asd.mk (bkB (g := gb343) (o := .cells #[.int .i64 a1_0, .slice A1_1 l1_1.length c1_1, .slice A1_2 l1_2.length c1_2] 58 (0, 0)) (by (repeat apply bkS); exact BK343.out) hb)
               have n3_ := Asd.mk (bkB (g := gb344) (o := .cells #[.int .i64 0, .string (⟨#[]⟩ : ByteArray)] 26 (0, 0)) (by (repeat apply bkS); exact BK344.out) hb)
               have n4_ := Asd.mk (Kbt.trans (by repeat (with_reducible first | exact HK.out | apply Kbt.set_ | apply kpX | refine kpF ?_ GW343.out _ | refine kpF ?_ GW344.out _)) (Kbt.of_below hb g none) (.inl rfl))
               have n5_ := Asd.mk (bwP (by repeat (with_reducible first | exact HB.out | apply bwX | refine bwS ?_ (Iz.ge HI0.out) | refine bwS ?_ GE343.out | refine bwS ?_ GE344.out)) hb)
               have n6_ := Asd.mk (hbox)
               have n7_ := Asd.mk ((by rw [hg]; exact (kpZ (w := w) (g := g) (row := none) (by repeat (with_reducible first | exact HK.out | apply Kbt.set_ | apply kpX | refine kpF ?_ GW343.out _ | refine kpF ?_ GW344.out _))) : w.heap.size ≤ gb353))
               have n8_ := Asd.mk ((Nat.le_trans HW0.out (by rw [hg]; exact (kpZ (w := w) (g := g) (row := none) (by repeat (with_reducible first | exact HK.out | apply Kbt.set_ | apply kpX | refine kpF ?_ GW343.out _ | refine kpF ?_ GW344.out _))) : w.heap.size ≤ gb353) : w0.heap.size ≤ gb353))
               have n9_ := Asd.mk ((by rw [hg]; exact Nat.ne_of_lt (bkL (g := gb343) (o := .cells #[.int .i64 a1_0, .slice A1_1 l1_1.length c1_1, .slice A1_2 l1_2.length c1_2] 58 (0, 0)) (by (repeat apply bkS); exact BK343.out)) : gb343 ≠ gb353))
               have n10_ := Asd.mk ((by rw [hg]; exact Nat.ne_of_gt (bkL (g := gb343) (o := .cells #[.int .i64 a1_0, .slice A1_1 l1_1.length c1_1, .slice A1_2 l1_2.length c1_2] 58 (0, 0)) (by (repeat apply bkS); exact BK343.out)) : gb353 ≠ gb343))
               have n11_ := Asd.mk ((by rw [hg]; exact Nat.ne_of_lt (bkL (g := gb344) (o := .cells #[.int .i64 0, .string (⟨#[]⟩ : ByteArray)] 26 (0, 0)) (by (repeat apply bkS); exact BK344.out)) : gb344 ≠ gb353))
               have n12_ := Asd.mk ((by rw [hg]; exact Nat.ne_of_gt (bkL (g := gb344) (o := .cells #[.int .i64 0, .string (⟨#[]⟩ : ByteArray)] 26 (0, 0)) (by (repeat apply bkS); exact BK344.out)) : gb353 ≠ gb344))
               have n13_ := Asd.mk ((by rw [hg]; exact Nat.ne_of_lt (Iz.lt (show Iz w0 _ g s0_0 s0_1 from by repeat (with_reducible first | exact HI0.out | refine Iz.below ?_ StB.b | apply Iz.set_1 | refine Iz.far ?_ aX _))) : g ≠ gb353))
               have n14_ := Asd.mk ((by rw [hg]; exact Nat.ne_of_gt (Iz.lt (show Iz w0 _ g s0_0 s0_1 from by repeat (with_reducible first | exact HI0.out | refine Iz.below ?_ StB.b | apply Iz.set_1 | refine Iz.far ?_ aX _))) : gb353 ≠ g))
               clear HO347
               clear HI0
               clear BK343
               clear BK344
               clear HK
               clear HB
               have HO347 := n0_
               have HI0 := n1_
               have BK343 := n2_
               have BK344 := n3_
               have HK := n4_
               have HB := n5_
               have BK353 := n6_
               have GW353 := n7_
               have GE353 := n8_
               have NB343_353 := n9_
               have NB353_343 := n10_
               have NB344_353 := n11_
               have NB353_344 := n12_
               have NB0_353 := n13_
               have NB353_0 := n14_
               clear n0_ n1_ n2_ n3_ n4_ n5_ n6_ n7_ n8_ n9_ n10_ n11_ n12_ n13_ n14_
               clear hb hbox hg
               refine hK.out _ _ trivial (fun hHeld => ?_)
               clear hK K
               refine norm_ (a' := ?_) ?_ ?_
               rotate_left
               ·show Act.put _ (some 5) _ = _
                simp only [Act.put, qA, qB, qC, i64_w, i32_w]
                rfl
               exact norm_ (by simp only [putAll, Act.put, qA, qB, qC]; first | done | rfl) (hJ0_11 (.slice (some adz_v346) y345.length co18, adz_v346, gb353) _ ⟨(by (repeat apply Kd.RS); exact HO347.out), ⟨_, rfl⟩, (by (repeat apply bkS); exact BK343.out), (by (repeat apply bkS); exact BK344.out), (by (repeat apply bkS); exact BK353.out), GW353.out, GE353.out, NB0_353.out, NB353_0.out, NB343_353.out, NB353_343.out, NB344_353.out, NB353_344.out, (by repeat (with_reducible first | exact HI0.out | refine Iz.below ?_ StB.b | apply Iz.set_1 | refine Iz.far ?_ aX _)), (by repeat (with_reducible first | exact HK.out | apply Kbt.set_ | apply kpX | refine kpF ?_ GW343.out _ | refine kpF ?_ GW344.out _ | refine kpF ?_ GW353.out _)), (by repeat (with_reducible first | exact HB.out | apply bwX | refine bwS ?_ (Iz.ge HI0.out) | refine bwS ?_ GE343.out | refine bwS ?_ GE344.out | refine bwS ?_ GE353.out))⟩)
            ·skip
             rintro gb353 w16 ⟨h0_, h1_, h2_, h3_, h4_, h5_, h6_, h7_, h8_, h9_, h10_, h11_, h12_, h13_⟩
             have n0_ : Asd (w16.heap[gb343]? = some (.cells #[.int .i64 a1_0, .slice A1_1 l1_1.length c1_1, .slice A1_2 l1_2.length c1_2] 58 (0, 0))) := ⟨h0_⟩
             have n1_ : Asd (w16.heap[gb344]? = some (.cells #[.int .i64 0, .string (⟨#[]⟩ : ByteArray)] 26 (0, 0))) := ⟨h1_⟩
             have n2_ : Asd (w16.heap[gb353]? = some (.cells #[.int .i64 0, .string (⟨#[]⟩ : ByteArray)] 26 (0, 0))) := ⟨h2_⟩
             have n3_ : Asd (w.heap.size ≤ gb353) := ⟨h3_⟩
             have n4_ : Asd (w0.heap.size ≤ gb353) := ⟨h4_⟩
             have n5_ : Asd (g ≠ gb353) := ⟨h5_⟩
             have n6_ : Asd (gb353 ≠ g) := ⟨h6_⟩
             have n7_ : Asd (gb343 ≠ gb353) := ⟨h7_⟩
             have n8_ : Asd (gb353 ≠ gb343) := ⟨h8_⟩
             have n9_ : Asd (gb344 ≠ gb353) := ⟨h9_⟩
             have n10_ : Asd (gb353 ≠ gb344) := ⟨h10_⟩
             have n11_ : Asd (Iz w0 w16 g s0_0 t349) := ⟨h11_⟩
             have n12_ : Asd (Kbt w w16 g none) := ⟨h12_⟩
             have n13_ : Asd (Below w0.heap.size w0 w16) := ⟨h13_⟩
             clear BK343
             clear BK344
             clear HI0
             clear HK
             clear HB
             clear h0_ h1_ h2_ h3_ h4_ h5_ h6_ h7_ h8_ h9_ h10_ h11_ h12_ h13_
             have BK343 := n0_
             have BK344 := n1_
             have BK353 := n2_
             have GW353 := n3_
             have GE353 := n4_
             have NB0_353 := n5_
             have NB353_0 := n6_
             have NB343_353 := n7_
             have NB353_343 := n8_
             have NB344_353 := n9_
             have NB353_344 := n10_
             have HI0 := n11_
             have HK := n12_
             have HB := n13_
             clear n0_ n1_ n2_ n3_ n4_ n5_ n6_ n7_ n8_ n9_ n10_ n11_ n12_ n13_
             have hHeld := trivial
             refine norm_ (a' := ?_) ?_ ?_
             rotate_left
             ·simp only [putAll, Act.put, qA, qB, qC]
              rfl
             refine two_ (i := 0) (j := 6) (Ni := some 6) (Nj := some 12) #[true, true, true, false, false, true, false, false, false, false, false, true, false] #[false, true, true, false, false, true, true, false, false, false, false, true, false] rfl rfl rfl rfl (two_of HT_.out (by kernel_rfl)) (by decide) (by decide) (fun K hK => ?_) (fun K hK => ?_)
             ·skip
              refine Kd.R_lit_step (Kd.int .i64) _ 3 ?hg (N := 6) ?hd (xs := ([0, 0, 0, 1, 1, 1, 2] : List Int)) (inner := [.int .i64 0, .int .i64 0, .int .i64 0, .int .i64 1, .int .i64 1, .int .i64 1, .int .i64 2]) (ok := fun _ => True) (okp := fun _ => True) ?hr ?hp (fun _ hk => hk) trivial (Below.refl _ _) (Nat.le_refl _) (by simp) ?_; (case hd => rfl); (case hg => rfl); (case hr => first | (go_simp; done) | (go_simp; rfl)); (case hp => exact (Reps.one (show Kd.M (Kd.int .i64) _ _ _ 0 [.int .i64 0] from rfl) (Reps.one (show Kd.M (Kd.int .i64) _ _ _ 0 [.int .i64 0] from rfl) (Reps.one (show Kd.M (Kd.int .i64) _ _ _ 0 [.int .i64 0] from rfl) (Reps.one (show Kd.M (Kd.int .i64) _ _ _ 1 [.int .i64 1] from rfl) (Reps.one (show Kd.M (Kd.int .i64) _ _ _ 1 [.int .i64 1] from rfl) (Reps.one (show Kd.M (Kd.int .i64) _ _ _ 1 [.int .i64 1] from rfl) (Reps.one (show Kd.M (Kd.int .i64) _ _ _ 2 [.int .i64 2] from rfl) (Reps.none _ _)))))))))
              intro v346 w17 ho18 hb hg_ hnew_
              clear hg_ hnew_
              (first | rw [← Ny345.out] at ho18 | (simp only [Int.reduceToNat] at ho18; rw [← Ny345.out] at ho18))
              have n0_ := Asd.mk (Kd.R_lower ho18 (kpZ (w := w) (g := g) (row := none) (by repeat (with_reducible first | exact HK.out | apply Kbt.set_ | apply kpX | refine kpF ?_ GW343.out _ | refine kpF ?_ GW344.out _ | refine kpF ?_ GW353.out _))))
              have n1_ := Asd.mk (Iz.below (by repeat (with_reducible first | exact HI0.out | refine Iz.below ?_ StB.b | apply Iz.set_1 | refine Iz.far ?_ aX _)) hb)
              have n2_ := Asd.mk (bkB (g := gb343) (o := .cells #[.int .i64 a1_0, .slice A1_1 l1_1.length c1_1, .slice A1_2 l1_2.length c1_2] 58 (0, 0)) (by (repeat apply bkS); exact BK343.out) hb)
              have n3_ := Asd.mk (bkB (g := gb344) (o := .cells #[.int .i64 0, .string (⟨#[]⟩ : ByteArray)] 26 (0, 0)) (by (repeat apply bkS); exact BK344.out) hb)
              have n4_ := Asd.mk (bkB (g := gb353) (o := .cells #[.int .i64 0, .string (⟨#[]⟩ : ByteArray)] 26 (0, 0)) (by (repeat apply bkS); exact BK353.out) hb)
              have n5_ := Asd.mk (Kbt.trans (by repeat (with_reducible first | exact HK.out | apply Kbt.set_ | apply kpX | refine kpF ?_ GW343.out _ | refine kpF ?_ GW344.out _ | refine kpF ?_ GW353.out _)) (Kbt.of_below hb g none) (.inl rfl))
              have n6_ := Asd.mk (bwP (by repeat (with_reducible first | exact HB.out | apply bwX | refine bwS ?_ (Iz.ge HI0.out) | refine bwS ?_ GE343.out | refine bwS ?_ GE344.out | refine bwS ?_ GE353.out)) hb)
              clear HI0
              clear BK343
              clear BK344
              clear BK353
              clear HK
              clear HB
              have HO347 := n0_
              have HI0 := n1_
              have BK343 := n2_
              have BK344 := n3_
              have BK353 := n4_
              have HK := n5_
              have HB := n6_
              clear n0_ n1_ n2_ n3_ n4_ n5_ n6_
              clear hb ho18
              obtain ⟨Ao19, co19, eo19⟩ := Kd.R_slice HO347.out
              subst eo19
              obtain ⟨ado19, fo19, _⟩ := Kd.at_int (Kd.R_reads' HO347.out).2.2 0 (by decide) (by rw [Ny345.out]; simp)
              cases fo19
              refine hK.out _ _ trivial (fun hHeld => ?_)
              clear hK K
              refine norm_ (a' := ?_) ?_ ?_
              rotate_left
              ·show Act.put _ (some 6) _ = _
               simp only [Act.put, qA, qB, qC, i64_w, i32_w]
               rfl
              refine pure_ (i := 3) (N := some 9) (v := ?_) (a' := ?_) #[true, true, true, true, false, true, false, false, false, false, false, true, false] rfl rfl (any_of HT_.out (by kernel_rfl)) (fun _ _ _ h => h) (Or.inl ⟨by rfl, ?_⟩) ?_ ?_
              rotate_left
              ·intro w'
               go_simp
               with_reducible rfl
              rotate_left
              ·simp only [Act.put, qA, qB, qC, i64_w, i32_w]
               rfl
              exact norm_ (by simp only [putAll, Act.put, qA, qB, qC]; first | done | rfl) (hJ0_2_11 (.slice (some ado19) y345.length co19, ado19, gb353) _ ⟨(by (repeat apply Kd.RS); exact HO347.out), ⟨_, rfl⟩, (by (repeat apply bkS); exact BK343.out), (by (repeat apply bkS); exact BK344.out), (by (repeat apply bkS); exact BK353.out), GW353.out, GE353.out, NB0_353.out, NB353_0.out, NB343_353.out, NB353_343.out, NB344_353.out, NB353_344.out, (by repeat (with_reducible first | exact HI0.out | refine Iz.below ?_ StB.b | apply Iz.set_1 | refine Iz.far ?_ aX _)), (by repeat (with_reducible first | exact HK.out | apply Kbt.set_ | apply kpX | refine kpF ?_ GW343.out _ | refine kpF ?_ GW344.out _ | refine kpF ?_ GW353.out _)), (by repeat (with_reducible first | exact HB.out | apply bwX | refine bwS ?_ (Iz.ge HI0.out) | refine bwS ?_ GE343.out | refine bwS ?_ GE344.out | refine bwS ?_ GE353.out))⟩)
             ·skip
              refine goes_ Try.func82 (by kernel_rfl) rfl #[.pointer (some ⟨g, 0, none⟩), .int .i64 60] (by rfl) rfl rfl (by (try simp only [List.map_toArray, List.map_cons, List.map_nil]); first | done | rfl | (simp only [List.length_drop, List.length_take]; rfl)) ?_
              with_reducible refine (spec_l20Rd_pick.calls k g s0_0 t349 60 t351 t352 w0 _ ?side1 ?side2 A6.out).mono ?_
              (case side1 => repeat (with_reducible first | exact HI0.out | refine Iz.below ?_ StB.b | apply Iz.set_1 | refine Iz.far ?_ aX _))
              (case side2 => repeat (with_reducible first | exact HB.out | apply bwX | refine bwS ?_ (Iz.ge HI0.out) | refine bwS ?_ GE343.out | refine bwS ?_ GE344.out | refine bwS ?_ GE353.out))
              rintro e w17 ⟨rfl, hi, hb, hk⟩
              refine ⟨_, rfl, ?_⟩
              have n0_ := Asd.mk (Kbt.blk hk (g' := gb343) (o := .cells #[.int .i64 a1_0, .slice A1_1 l1_1.length c1_1, .slice A1_2 l1_2.length c1_2] 58 (0, 0)) (by (repeat apply bkS); exact BK343.out) NB343_0.out (by simp))
              have n1_ := Asd.mk (Kbt.blk hk (g' := gb344) (o := .cells #[.int .i64 0, .string (⟨#[]⟩ : ByteArray)] 26 (0, 0)) (by (repeat apply bkS); exact BK344.out) NB344_0.out (by simp))
              have n2_ := Asd.mk (Kbt.blk hk (g' := gb353) (o := .cells #[.int .i64 0, .string (⟨#[]⟩ : ByteArray)] 26 (0, 0)) (by (repeat apply bkS); exact BK353.out) NB353_0.out (by simp))
              have n3_ := Asd.mk (Kbt.trans (by repeat (with_reducible first | exact HK.out | apply Kbt.set_ | apply kpX | refine kpF ?_ GW343.out _ | refine kpF ?_ GW344.out _ | refine kpF ?_ GW353.out _)) hk (.inl rfl))
              have n4_ := Asd.mk (hb)
              have n5_ := Asd.mk (hi)
              clear BK343
              clear BK344
              clear BK353
              clear HK
              clear HB
              clear HI0
              have BK343 := n0_
              have BK344 := n1_
              have BK353 := n2_
              have HK := n3_
              have HB := n4_
              have HI0 := n5_
              clear n0_ n1_ n2_ n3_ n4_ n5_
              (try clear hb)
              (try clear hb2)
              (try clear hk)
              (try clear hi)
              refine hK.out _ _ trivial (fun hHeld => ?_)
              clear hK K
              refine norm_ (a' := ?_) ?_ ?_
              rotate_left
              ·show Act.put _ (some 12) _ = _
               simp only [Act.put, qA, qB, qC, i64_w, i32_w]
               rfl
              refine pure_ (i := 7) (N := some 13) (v := ?_) (a' := ?_) #[false, true, true, false, false, true, true, true, false, false, false, true, false] rfl rfl (any_of HT_.out (by kernel_rfl)) (fun _ _ _ h => h) (Or.inl ⟨by rfl, ?_⟩) ?_ ?_
              rotate_left
              ·intro w'
               go_simp
               with_reducible rfl
              rotate_left
              ·simp only [Act.put, qA, qB, qC, i64_w, i32_w]
               rfl
              refine pure_ (i := 8) (N := some 14) (v := ?_) (a' := ?_) #[false, true, true, false, false, true, true, true, true, false, false, true, false] rfl rfl (any_of HT_.out (by kernel_rfl)) (fun _ _ _ h => h) (Or.inl ⟨by rfl, ?_⟩) ?_ ?_
              rotate_left
              ·intro w'
               go_simp
               with_reducible rfl
              rotate_left
              ·simp only [Act.put, qA, qB, qC, i64_w, i32_w]
               rfl
              exact norm_ (by simp only [putAll, Act.put, qA, qB, qC]; first | done | rfl) (hJ2_6_11 (gb353) _ ⟨(by (repeat apply bkS); exact BK343.out), (by (repeat apply bkS); exact BK344.out), (by (repeat apply bkS); exact BK353.out), GW353.out, GE353.out, NB0_353.out, NB353_0.out, NB343_353.out, NB353_343.out, NB344_353.out, NB353_344.out, (by repeat (with_reducible first | exact HI0.out | refine Iz.below ?_ StB.b | apply Iz.set_1 | refine Iz.far ?_ aX _)), (by repeat (with_reducible first | exact HK.out | apply Kbt.set_ | apply kpX | refine kpF ?_ GW343.out _ | refine kpF ?_ GW344.out _ | refine kpF ?_ GW353.out _)), (by repeat (with_reducible first | exact HB.out | apply bwX | refine bwS ?_ (Iz.ge HI0.out) | refine bwS ?_ GE343.out | refine bwS ?_ GE344.out | refine bwS ?_ GE353.out))⟩)
           ·skip
            rintro _ w16 ⟨h0_, h1_, h2_, h3_, h4_⟩
            have n0_ : Asd (w16.heap[gb343]? = some (.cells #[.int .i64 a1_0, .slice A1_1 l1_1.length c1_1, .slice A1_2 l1_2.length c1_2] 58 (0, 0))) := ⟨h0_⟩
            have n1_ : Asd (w16.heap[gb344]? = some (.cells #[.int .i64 0, .string (⟨#[]⟩ : ByteArray)] 26 (0, 0))) := ⟨h1_⟩
            have n2_ : Asd (Iz w0 w16 g s0_0 t352) := ⟨h2_⟩
            have n3_ : Asd (Kbt w w16 g none) := ⟨h3_⟩
            have n4_ : Asd (Below w0.heap.size w0 w16) := ⟨h4_⟩
            clear BK343
            clear BK344
            clear HI0
            clear HK
            clear HB
            clear h0_ h1_ h2_ h3_ h4_
            have BK343 := n0_
            have BK344 := n1_
            have HI0 := n2_
            have HK := n3_
            have HB := n4_
            clear n0_ n1_ n2_ n3_ n4_
            have hHeld := trivial
            refine norm_ (a' := ?_) ?_ ?_
            rotate_left
            ·simp only [putAll, Act.put, qA, qB, qC]
             rfl
            refine two_ (i := 0) (j := 11) (Ni := some 6) (Nj := some 5) #[true, true, true, false, false, true, true, true, true, false, false, false, false] #[false, true, true, false, false, true, true, true, true, false, false, true, false] rfl rfl rfl rfl (two_of HT_.out (by kernel_rfl)) (by decide) (by decide) (fun K hK => ?_) (fun K hK => ?_)
            ·skip
             refine Kd.R_lit_step (Kd.int .i64) _ 3 ?hg (N := 6) ?hd (xs := ([0, 0, 0, 1, 1, 1, 2] : List Int)) (inner := [.int .i64 0, .int .i64 0, .int .i64 0, .int .i64 1, .int .i64 1, .int .i64 1, .int .i64 2]) (ok := fun _ => True) (okp := fun _ => True) ?hr ?hp (fun _ hk => hk) trivial (Below.refl _ _) (Nat.le_refl _) (by simp) ?_; (case hd => rfl); (case hg => rfl); (case hr => first | (go_simp; done) | (go_simp; rfl)); (case hp => exact (Reps.one (show Kd.M (Kd.int .i64) _ _ _ 0 [.int .i64 0] from rfl) (Reps.one (show Kd.M (Kd.int .i64) _ _ _ 0 [.int .i64 0] from rfl) (Reps.one (show Kd.M (Kd.int .i64) _ _ _ 0 [.int .i64 0] from rfl) (Reps.one (show Kd.M (Kd.int .i64) _ _ _ 1 [.int .i64 1] from rfl) (Reps.one (show Kd.M (Kd.int .i64) _ _ _ 1 [.int .i64 1] from rfl) (Reps.one (show Kd.M (Kd.int .i64) _ _ _ 1 [.int .i64 1] from rfl) (Reps.one (show Kd.M (Kd.int .i64) _ _ _ 2 [.int .i64 2] from rfl) (Reps.none _ _)))))))))
             intro v346 w17 ho18 hb hg_ hnew_
             clear hg_ hnew_
             (first | rw [← Ny345.out] at ho18 | (simp only [Int.reduceToNat] at ho18; rw [← Ny345.out] at ho18))
             have n0_ := Asd.mk (Kd.R_lower ho18 (kpZ (w := w) (g := g) (row := none) (by repeat (with_reducible first | exact HK.out | apply Kbt.set_ | apply kpX | refine kpF ?_ GW343.out _ | refine kpF ?_ GW344.out _))))
             have n1_ := Asd.mk (Iz.below (by repeat (with_reducible first | exact HI0.out | refine Iz.below ?_ StB.b | apply Iz.set_1 | refine Iz.far ?_ aX _)) hb)
             have n2_ := Asd.mk (bkB (g := gb343) (o := .cells #[.int .i64 a1_0, .slice A1_1 l1_1.length c1_1, .slice A1_2 l1_2.length c1_2] 58 (0, 0)) (by (repeat apply bkS); exact BK343.out) hb)
             have n3_ := Asd.mk (bkB (g := gb344) (o := .cells #[.int .i64 0, .string (⟨#[]⟩ : ByteArray)] 26 (0, 0)) (by (repeat apply bkS); exact BK344.out) hb)
             have n4_ := Asd.mk (Kbt.trans (by repeat (with_reducible first | exact HK.out | apply Kbt.set_ | apply kpX | refine kpF ?_ GW343.out _ | refine kpF ?_ GW344.out _)) (Kbt.of_below hb g none) (.inl rfl))
             have n5_ := Asd.mk (bwP (by repeat (with_reducible first | exact HB.out | apply bwX | refine bwS ?_ (Iz.ge HI0.out) | refine bwS ?_ GE343.out | refine bwS ?_ GE344.out)) hb)
             clear HI0
             clear BK343
             clear BK344
             clear HK
             clear HB
             have HO347 := n0_
             have HI0 := n1_
             have BK343 := n2_
             have BK344 := n3_
             have HK := n4_
             have HB := n5_
             clear n0_ n1_ n2_ n3_ n4_ n5_
             clear hb ho18
             obtain ⟨Ao19, co19, eo19⟩ := Kd.R_slice HO347.out
             subst eo19
             obtain ⟨ado19, fo19, _⟩ := Kd.at_int (Kd.R_reads' HO347.out).2.2 0 (by decide) (by rw [Ny345.out]; simp)
             cases fo19
             refine hK.out _ _ trivial (fun hHeld => ?_)
             clear hK K
             refine norm_ (a' := ?_) ?_ ?_
             rotate_left
             ·show Act.put _ (some 6) _ = _
              simp only [Act.put, qA, qB, qC, i64_w, i32_w]
              rfl
             refine pure_ (i := 3) (N := some 9) (v := ?_) (a' := ?_) #[true, true, true, true, false, true, true, true, true, false, false, false, false] rfl rfl (any_of HT_.out (by kernel_rfl)) (fun _ _ _ h => h) (Or.inl ⟨by rfl, ?_⟩) ?_ ?_
             rotate_left
             ·intro w'
              go_simp
              with_reducible rfl
             rotate_left
             ·simp only [Act.put, qA, qB, qC, i64_w, i32_w]
              rfl
             exact norm_ (by simp only [putAll, Act.put, qA, qB, qC]; first | done | rfl) (hJ0_2_6 (.slice (some ado19) y345.length co19, ado19) _ ⟨(by (repeat apply Kd.RS); exact HO347.out), ⟨_, rfl⟩, (by (repeat apply bkS); exact BK343.out), (by (repeat apply bkS); exact BK344.out), (by repeat (with_reducible first | exact HI0.out | refine Iz.below ?_ StB.b | apply Iz.set_1 | refine Iz.far ?_ aX _)), (by repeat (with_reducible first | exact HK.out | apply Kbt.set_ | apply kpX | refine kpF ?_ GW343.out _ | refine kpF ?_ GW344.out _)), (by repeat (with_reducible first | exact HB.out | apply bwX | refine bwS ?_ (Iz.ge HI0.out) | refine bwS ?_ GE343.out | refine bwS ?_ GE344.out))⟩)
            ·skip
             refine box_step ?hg (N := 5) ?hd (cs := #[.int .i64 0, .string (⟨#[]⟩ : ByteArray)]) (t := 26) ?hr ?_; (case hd => rfl); (case hg => rfl); (case hr => first | (go_simp; done) | (go_simp; rfl))
             intro gb353 hg w17 hbox hb
             have n0_ := Asd.mk (Iz.below (by repeat (with_reducible first | exact HI0.out | refine Iz.below ?_ StB.b | apply Iz.set_1 | refine Iz.far ?_ aX _)) hb)
             have n1_ := Asd.mk (bkB (g := gb343) (o := .cells #[.int .i64 a1_0, .slice A1_1 l1_1.length c1_1, .slice A1_2 l1_2.length c1_2] 58 (0, 0)) (by (repeat apply bkS); exact BK343.out) hb)
             have n2_ := Asd.mk (bkB (g := gb344) (o := .cells #[.int .i64 0, .string (⟨#[]⟩ : ByteArray)] 26 (0, 0)) (by (repeat apply bkS); exact BK344.out) hb)
             have n3_ := Asd.mk (Kbt.trans (by repeat (with_reducible first | exact HK.out | apply Kbt.set_ | apply kpX | refine kpF ?_ GW343.out _ | refine kpF ?_ GW344.out _)) (Kbt.of_below hb g none) (.inl rfl))
             have n4_ := Asd.mk (bwP (by repeat (with_reducible first | exact HB.out | apply bwX | refine bwS ?_ (Iz.ge HI0.out) | refine bwS ?_ GE343.out | refine bwS ?_ GE344.out)) hb)
             have n5_ := Asd.mk (hbox)
             have n6_ := Asd.mk ((by rw [hg]; exact (kpZ (w := w) (g := g) (row := none) (by repeat (with_reducible first | exact HK.out | apply Kbt.set_ | apply kpX | refine kpF ?_ GW343.out _ | refine kpF ?_ GW344.out _))) : w.heap.size ≤ gb353))
             have n7_ := Asd.mk ((Nat.le_trans HW0.out (by rw [hg]; exact (kpZ (w := w) (g := g) (row := none) (by repeat (with_reducible first | exact HK.out | apply Kbt.set_ | apply kpX | refine kpF ?_ GW343.out _ | refine kpF ?_ GW344.out _))) : w.heap.size ≤ gb353) : w0.heap.size ≤ gb353))
             have n8_ := Asd.mk ((by rw [hg]; exact Nat.ne_of_lt (bkL (g := gb343) (o := .cells #[.int .i64 a1_0, .slice A1_1 l1_1.length c1_1, .slice A1_2 l1_2.length c1_2] 58 (0, 0)) (by (repeat apply bkS); exact BK343.out)) : gb343 ≠ gb353))
             have n9_ := Asd.mk ((by rw [hg]; exact Nat.ne_of_gt (bkL (g := gb343) (o := .cells #[.int .i64 a1_0, .slice A1_1 l1_1.length c1_1, .slice A1_2 l1_2.length c1_2] 58 (0, 0)) (by (repeat apply bkS); exact BK343.out)) : gb353 ≠ gb343))
             have n10_ := Asd.mk ((by rw [hg]; exact Nat.ne_of_lt (bkL (g := gb344) (o := .cells #[.int .i64 0, .string (⟨#[]⟩ : ByteArray)] 26 (0, 0)) (by (repeat apply bkS); exact BK344.out)) : gb344 ≠ gb353))
             have n11_ := Asd.mk ((by rw [hg]; exact Nat.ne_of_gt (bkL (g := gb344) (o := .cells #[.int .i64 0, .string (⟨#[]⟩ : ByteArray)] 26 (0, 0)) (by (repeat apply bkS); exact BK344.out)) : gb353 ≠ gb344))
             have n12_ := Asd.mk ((by rw [hg]; exact Nat.ne_of_lt (Iz.lt (show Iz w0 _ g s0_0 t352 from by repeat (with_reducible first | exact HI0.out | refine Iz.below ?_ StB.b | apply Iz.set_1 | refine Iz.far ?_ aX _))) : g ≠ gb353))
             have n13_ := Asd.mk ((by rw [hg]; exact Nat.ne_of_gt (Iz.lt (show Iz w0 _ g s0_0 t352 from by repeat (with_reducible first | exact HI0.out | refine Iz.below ?_ StB.b | apply Iz.set_1 | refine Iz.far ?_ aX _))) : gb353 ≠ g))
             clear HI0
             clear BK343
             clear BK344
             clear HK
             clear HB
             have HI0 := n0_
             have BK343 := n1_
             have BK344 := n2_
             have HK := n3_
             have HB := n4_
             have BK353 := n5_
             have GW353 := n6_
             have GE353 := n7_
             have NB343_353 := n8_
             have NB353_343 := n9_
             have NB344_353 := n10_
             have NB353_344 := n11_
             have NB0_353 := n12_
             have NB353_0 := n13_
             clear n0_ n1_ n2_ n3_ n4_ n5_ n6_ n7_ n8_ n9_ n10_ n11_ n12_ n13_
             clear hb hbox hg
             refine hK.out _ _ trivial (fun hHeld => ?_)
             clear hK K
             refine norm_ (a' := ?_) ?_ ?_
             rotate_left
             ·show Act.put _ (some 5) _ = _
              simp only [Act.put, qA, qB, qC, i64_w, i32_w]
              rfl
             exact norm_ (by simp only [putAll, Act.put, qA, qB, qC]; first | done | rfl) (hJ2_6_11 (gb353) _ ⟨(by (repeat apply bkS); exact BK343.out), (by (repeat apply bkS); exact BK344.out), (by (repeat apply bkS); exact BK353.out), GW353.out, GE353.out, NB0_353.out, NB353_0.out, NB343_353.out, NB353_343.out, NB344_353.out, NB353_344.out, (by repeat (with_reducible first | exact HI0.out | refine Iz.below ?_ StB.b | apply Iz.set_1 | refine Iz.far ?_ aX _)), (by repeat (with_reducible first | exact HK.out | apply Kbt.set_ | apply kpX | refine kpF ?_ GW343.out _ | refine kpF ?_ GW344.out _ | refine kpF ?_ GW353.out _)), (by repeat (with_reducible first | exact HB.out | apply bwX | refine bwS ?_ (Iz.ge HI0.out) | refine bwS ?_ GE343.out | refine bwS ?_ GE344.out | refine bwS ?_ GE353.out))⟩)
          ·skip
           rintro ⟨v346, adz_v346, gb353⟩ w18 ⟨h0_, h1_, h2_, h3_, h4_, h5_, h6_, h7_, h8_, h9_, h10_, h11_, h12_, h13_, h14_, h15_⟩
           have n0_ : Asd (Kd.R (Kd.int .i64) 3 w18 w.heap.size (fun _ => True) v346 y345) := ⟨h0_⟩
           have n1_ : Asd (∃ c_, (v346 : Value) = .slice (some adz_v346) y345.length c_) := ⟨h1_⟩
           have n2_ : Asd (w18.heap[gb343]? = some (.cells #[.int .i64 a1_0, .slice A1_1 l1_1.length c1_1, .slice A1_2 l1_2.length c1_2] 58 (0, 0))) := ⟨h2_⟩
           have n3_ : Asd (w18.heap[gb344]? = some (.cells #[.int .i64 0, .string (⟨#[]⟩ : ByteArray)] 26 (0, 0))) := ⟨h3_⟩
           have n4_ : Asd (w18.heap[gb353]? = some (.cells #[.int .i64 0, .string (⟨#[]⟩ : ByteArray)] 26 (0, 0))) := ⟨h4_⟩
           have n5_ : Asd (w.heap.size ≤ gb353) := ⟨h5_⟩
           have n6_ : Asd (w0.heap.size ≤ gb353) := ⟨h6_⟩
           have n7_ : Asd (g ≠ gb353) := ⟨h7_⟩
           have n8_ : Asd (gb353 ≠ g) := ⟨h8_⟩
           have n9_ : Asd (gb343 ≠ gb353) := ⟨h9_⟩
           have n10_ : Asd (gb353 ≠ gb343) := ⟨h10_⟩
           have n11_ : Asd (gb344 ≠ gb353) := ⟨h11_⟩
           have n12_ : Asd (gb353 ≠ gb344) := ⟨h12_⟩
           have n13_ : Asd (Iz w0 w18 g s0_0 s0_1) := ⟨h13_⟩
           have n14_ : Asd (Kbt w w18 g none) := ⟨h14_⟩
           have n15_ : Asd (Below w0.heap.size w0 w18) := ⟨h15_⟩
           clear BK343
           clear BK344
           clear HI0
           clear HK
           clear HB
           clear h0_ h1_ h2_ h3_ h4_ h5_ h6_ h7_ h8_ h9_ h10_ h11_ h12_ h13_ h14_ h15_
           have HO347 := n0_
           have HA_HO347 := n1_
           have BK343 := n2_
           have BK344 := n3_
           have BK353 := n4_
           have GW353 := n5_
           have GE353 := n6_
           have NB0_353 := n7_
           have NB353_0 := n8_
           have NB343_353 := n9_
           have NB353_343 := n10_
           have NB344_353 := n11_
           have NB353_344 := n12_
           have HI0 := n13_
           have HK := n14_
           have HB := n15_
           clear n0_ n1_ n2_ n3_ n4_ n5_ n6_ n7_ n8_ n9_ n10_ n11_ n12_ n13_ n14_ n15_
           have hHeld := trivial
           obtain ⟨co19, eo19⟩ := HA_HO347.out
           clear HA_HO347
           subst eo19
           refine norm_ (a' := ?_) ?_ ?_
           rotate_left
           ·simp only [putAll, Act.put, qA, qB, qC]
            rfl
           refine one_ (i := 2) (N := some 8) #[true, true, true, false, false, true, false, false, false, false, false, true, false] rfl rfl (one_of HT_.out (by kernel_rfl)) (by decide) (fun K hK => ?_)
           refine goes_ Try.func82 (by kernel_rfl) rfl #[.pointer (some ⟨g, 0, none⟩), .int .i64 7] (by rfl) rfl rfl (by (try simp only [List.map_toArray, List.map_cons, List.map_nil]); first | done | rfl | (simp only [List.length_drop, List.length_take]; rfl)) ?_
           with_reducible refine (spec_l20Rd_pick.calls k g s0_0 s0_1 7 t348 t349 w0 _ ?side1 ?side2 A3.out).mono ?_
           (case side1 => repeat (with_reducible first | exact HI0.out | refine Iz.below ?_ StB.b | apply Iz.set_1 | refine Iz.far ?_ aX _))
           (case side2 => repeat (with_reducible first | exact HB.out | apply bwX | refine bwS ?_ (Iz.ge HI0.out) | refine bwS ?_ GE343.out | refine bwS ?_ GE344.out | refine bwS ?_ GE353.out))
           rintro e w20 ⟨rfl, hi, hb, hk⟩
           refine ⟨_, rfl, ?_⟩
           have n0_ := Asd.mk (Kbt.blk hk (g' := gb343) (o := .cells #[.int .i64 a1_0, .slice A1_1 l1_1.length c1_1, .slice A1_2 l1_2.length c1_2] 58 (0, 0)) (by (repeat apply bkS); exact BK343.out) NB343_0.out (by simp))
           have n1_ := Asd.mk (Kbt.blk hk (g' := gb344) (o := .cells #[.int .i64 0, .string (⟨#[]⟩ : ByteArray)] 26 (0, 0)) (by (repeat apply bkS); exact BK344.out) NB344_0.out (by simp))
           have n2_ := Asd.mk (Kd.R_mono (Kd.R_keep (Iz.apart (show Iz w0 _ g s0_0 s0_1 from by repeat (with_reducible first | exact HI0.out | refine Iz.below ?_ StB.b | apply Iz.set_1 | refine Iz.far ?_ aX _)) (by (repeat apply Kd.RS); exact HO347.out) (by decide)) hk (fun _ h => h.2)) (fun _ h => h.1))
           have n3_ := Asd.mk (Kbt.blk hk (g' := gb353) (o := .cells #[.int .i64 0, .string (⟨#[]⟩ : ByteArray)] 26 (0, 0)) (by (repeat apply bkS); exact BK353.out) NB353_0.out (by simp))
           have n4_ := Asd.mk (Kbt.trans (by repeat (with_reducible first | exact HK.out | apply Kbt.set_ | apply kpX | refine kpF ?_ GW343.out _ | refine kpF ?_ GW344.out _ | refine kpF ?_ GW353.out _)) hk (.inl rfl))
           have n5_ := Asd.mk (hb)
           have n6_ := Asd.mk (hi)
           clear BK343
           clear BK344
           clear HO347
           clear BK353
           clear HK
           clear HB
           clear HI0
           have BK343 := n0_
           have BK344 := n1_
           have HO347 := n2_
           have BK353 := n3_
           have HK := n4_
           have HB := n5_
           have HI0 := n6_
           clear n0_ n1_ n2_ n3_ n4_ n5_ n6_
           (try clear hb)
           (try clear hb2)
           (try clear hk)
           (try clear hi)
           refine hK.out _ _ trivial (fun hHeld => ?_)
           clear hK K
           refine norm_ (a' := ?_) ?_ ?_
           rotate_left
           ·show Act.put _ (some 8) _ = _
            simp only [Act.put, qA, qB, qC, i64_w, i32_w]
            rfl
           refine pure_ (i := 3) (N := some 9) (v := ?_) (a' := ?_) #[true, true, true, true, false, true, false, false, false, false, false, true, false] rfl rfl (any_of HT_.out (by kernel_rfl)) (fun _ _ _ h => h) (Or.inl ⟨by rfl, ?_⟩) ?_ ?_
           rotate_left
           ·intro w'
            go_simp
            with_reducible rfl
           rotate_left
           ·simp only [Act.put, qA, qB, qC, i64_w, i32_w]
            rfl
           exact norm_ (by simp only [putAll, Act.put, qA, qB, qC]; first | done | rfl) (hJ0_2_11 (.slice (some adz_v346) y345.length co19, adz_v346, gb353) _ ⟨(by (repeat apply Kd.RS); exact HO347.out), ⟨_, rfl⟩, (by (repeat apply bkS); exact BK343.out), (by (repeat apply bkS); exact BK344.out), (by (repeat apply bkS); exact BK353.out), GW353.out, GE353.out, NB0_353.out, NB353_0.out, NB343_353.out, NB353_343.out, NB344_353.out, NB353_344.out, (by repeat (with_reducible first | exact HI0.out | refine Iz.below ?_ StB.b | apply Iz.set_1 | refine Iz.far ?_ aX _)), (by repeat (with_reducible first | exact HK.out | apply Kbt.set_ | apply kpX | refine kpF ?_ GW343.out _ | refine kpF ?_ GW344.out _ | refine kpF ?_ GW353.out _)), (by repeat (with_reducible first | exact HB.out | apply bwX | refine bwS ?_ (Iz.ge HI0.out) | refine bwS ?_ GE343.out | refine bwS ?_ GE344.out | refine bwS ?_ GE353.out))⟩)
         ·skip
          rintro ⟨v346, adz_v346⟩ w18 ⟨h0_, h1_, h2_, h3_, h4_, h5_, h6_⟩
          have n0_ : Asd (Kd.R (Kd.int .i64) 3 w18 w.heap.size (fun _ => True) v346 y345) := ⟨h0_⟩
          have n1_ : Asd (∃ c_, (v346 : Value) = .slice (some adz_v346) y345.length c_) := ⟨h1_⟩
          have n2_ : Asd (w18.heap[gb343]? = some (.cells #[.int .i64 a1_0, .slice A1_1 l1_1.length c1_1, .slice A1_2 l1_2.length c1_2] 58 (0, 0))) := ⟨h2_⟩
          have n3_ : Asd (w18.heap[gb344]? = some (.cells #[.int .i64 0, .string (⟨#[]⟩ : ByteArray)] 26 (0, 0))) := ⟨h3_⟩
          have n4_ : Asd (Iz w0 w18 g s0_0 t349) := ⟨h4_⟩
          have n5_ : Asd (Kbt w w18 g none) := ⟨h5_⟩
          have n6_ : Asd (Below w0.heap.size w0 w18) := ⟨h6_⟩
          clear BK343
          clear BK344
          clear HI0
          clear HK
          clear HB
          clear h0_ h1_ h2_ h3_ h4_ h5_ h6_
          have HO347 := n0_
          have HA_HO347 := n1_
          have BK343 := n2_
          have BK344 := n3_
          have HI0 := n4_
          have HK := n5_
          have HB := n6_
          clear n0_ n1_ n2_ n3_ n4_ n5_ n6_
          have hHeld := trivial
          obtain ⟨co19, eo19⟩ := HA_HO347.out
          clear HA_HO347
          subst eo19
          refine norm_ (a' := ?_) ?_ ?_
          rotate_left
          ·simp only [putAll, Act.put, qA, qB, qC]
           rfl
          refine three_ (i := 4) (j := 6) (k := 11) (Ni := some 10) (Nj := some 12) (Nk := some 5) #[true, true, true, true, true, true, false, false, false, false, false, false, false] #[true, true, true, true, false, true, true, false, false, false, false, false, false] #[true, true, true, true, false, true, false, false, false, false, false, true, false] rfl rfl rfl rfl rfl rfl (three_of HT_.out (by kernel_rfl)) (by decide) (by decide) (by decide) (fun K hK => ?_) (fun K hK => ?_) (fun K hK => ?_)
          ·skip
           (have p350 : 0 ≤ (t348 : Int) := odt; have q350 : t348 < (y345.length : Int) := odt; obtain ⟨ad350, e350, hx350_0⟩ := Kd.at_int (Kd.R_reads' HO347.out).2.2 t348 p350 q350; obtain rfl : adz_v346 = ad350 := (by injection e350))
           refine value_ (w1 := ?_) (v := ?_) (by rfl) rfl ?_ ?_
           rotate_left 2
           ·go_simp
            constructor
            ·rfl
            ·rfl
           clear hx350_0
           refine hK.out _ _ trivial (fun hHeld => ?_)
           clear hK K
           refine norm_ (a' := ?_) ?_ ?_
           rotate_left
           ·show Act.put _ (some 10) _ = _
            simp only [Act.put, qA, qB, qC, i64_w, i32_w]
            rfl
           exact norm_ (by simp only [putAll, Act.put, qA, qB, qC]; first | done | rfl) (hJ0_2_4 (.slice (some adz_v346) y345.length co19, adz_v346) _ ⟨(by (repeat apply Kd.RS); exact HO347.out), ⟨_, rfl⟩, (by (repeat apply bkS); exact BK343.out), (by (repeat apply bkS); exact BK344.out), (by repeat (with_reducible first | exact HI0.out | refine Iz.below ?_ StB.b | apply Iz.set_1 | refine Iz.far ?_ aX _)), (by repeat (with_reducible first | exact HK.out | apply Kbt.set_ | apply kpX | refine kpF ?_ GW343.out _ | refine kpF ?_ GW344.out _)), (by repeat (with_reducible first | exact HB.out | apply bwX | refine bwS ?_ (Iz.ge HI0.out) | refine bwS ?_ GE343.out | refine bwS ?_ GE344.out))⟩)
          ·skip
           refine goes_ Try.func82 (by kernel_rfl) rfl #[.pointer (some ⟨g, 0, none⟩), .int .i64 60] (by rfl) rfl rfl (by (try simp only [List.map_toArray, List.map_cons, List.map_nil]); first | done | rfl | (simp only [List.length_drop, List.length_take]; rfl)) ?_
           with_reducible refine (spec_l20Rd_pick.calls k g s0_0 t349 60 t351 t352 w0 _ ?side1 ?side2 A6.out).mono ?_
           (case side1 => repeat (with_reducible first | exact HI0.out | refine Iz.below ?_ StB.b | apply Iz.set_1 | refine Iz.far ?_ aX _))
           (case side2 => repeat (with_reducible first | exact HB.out | apply bwX | refine bwS ?_ (Iz.ge HI0.out) | refine bwS ?_ GE343.out | refine bwS ?_ GE344.out))
           rintro e w20 ⟨rfl, hi, hb, hk⟩
           refine ⟨_, rfl, ?_⟩
           have n0_ := Asd.mk (Kbt.blk hk (g' := gb343) (o := .cells #[.int .i64 a1_0, .slice A1_1 l1_1.length c1_1, .slice A1_2 l1_2.length c1_2] 58 (0, 0)) (by (repeat apply bkS); exact BK343.out) NB343_0.out (by simp))
           have n1_ := Asd.mk (Kbt.blk hk (g' := gb344) (o := .cells #[.int .i64 0, .string (⟨#[]⟩ : ByteArray)] 26 (0, 0)) (by (repeat apply bkS); exact BK344.out) NB344_0.out (by simp))
           have n2_ := Asd.mk (Kd.R_mono (Kd.R_keep (Iz.apart (show Iz w0 _ g s0_0 t349 from by repeat (with_reducible first | exact HI0.out | refine Iz.below ?_ StB.b | apply Iz.set_1 | refine Iz.far ?_ aX _)) (by (repeat apply Kd.RS); exact HO347.out) (by decide)) hk (fun _ h => h.2)) (fun _ h => h.1))
           have n3_ := Asd.mk (Kbt.trans (by repeat (with_reducible first | exact HK.out | apply Kbt.set_ | apply kpX | refine kpF ?_ GW343.out _ | refine kpF ?_ GW344.out _)) hk (.inl rfl))
           have n4_ := Asd.mk (hb)
           have n5_ := Asd.mk (hi)
           clear BK343
           clear BK344
           clear HO347
           clear HK
           clear HB
           clear HI0
           have BK343 := n0_
           have BK344 := n1_
           have HO347 := n2_
           have HK := n3_
           have HB := n4_
           have HI0 := n5_
           clear n0_ n1_ n2_ n3_ n4_ n5_
           (try clear hb)
           (try clear hb2)
           (try clear hk)
           (try clear hi)
           refine hK.out _ _ trivial (fun hHeld => ?_)
           clear hK K
           refine norm_ (a' := ?_) ?_ ?_
           rotate_left
           ·show Act.put _ (some 12) _ = _
            simp only [Act.put, qA, qB, qC, i64_w, i32_w]
            rfl
           refine pure_ (i := 7) (N := some 13) (v := ?_) (a' := ?_) #[true, true, true, true, false, true, true, true, false, false, false, false, false] rfl rfl (any_of HT_.out (by kernel_rfl)) (fun _ _ _ h => h) (Or.inl ⟨by rfl, ?_⟩) ?_ ?_
           rotate_left
           ·intro w'
            go_simp
            with_reducible rfl
           rotate_left
           ·simp only [Act.put, qA, qB, qC, i64_w, i32_w]
            rfl
           refine pure_ (i := 8) (N := some 14) (v := ?_) (a' := ?_) #[true, true, true, true, false, true, true, true, true, false, false, false, false] rfl rfl (any_of HT_.out (by kernel_rfl)) (fun _ _ _ h => h) (Or.inl ⟨by rfl, ?_⟩) ?_ ?_
           rotate_left
           ·intro w'
            go_simp
            with_reducible rfl
           rotate_left
           ·simp only [Act.put, qA, qB, qC, i64_w, i32_w]
            rfl
           exact norm_ (by simp only [putAll, Act.put, qA, qB, qC]; first | done | rfl) (hJ0_2_6 (.slice (some adz_v346) y345.length co19, adz_v346) _ ⟨(by (repeat apply Kd.RS); exact HO347.out), ⟨_, rfl⟩, (by (repeat apply bkS); exact BK343.out), (by (repeat apply bkS); exact BK344.out), (by repeat (with_reducible first | exact HI0.out | refine Iz.below ?_ StB.b | apply Iz.set_1 | refine Iz.far ?_ aX _)), (by repeat (with_reducible first | exact HK.out | apply Kbt.set_ | apply kpX | refine kpF ?_ GW343.out _ | refine kpF ?_ GW344.out _)), (by repeat (with_reducible first | exact HB.out | apply bwX | refine bwS ?_ (Iz.ge HI0.out) | refine bwS ?_ GE343.out | refine bwS ?_ GE344.out))⟩)
          ·skip
           refine box_step ?hg (N := 5) ?hd (cs := #[.int .i64 0, .string (⟨#[]⟩ : ByteArray)]) (t := 26) ?hr ?_; (case hd => rfl); (case hg => rfl); (case hr => first | (go_simp; done) | (go_simp; rfl))
           intro gb353 hg w20 hbox hb
           have n0_ := Asd.mk (Kd.R_below (by (repeat apply Kd.RS); exact HO347.out) hb)
           have n1_ := Asd.mk (Iz.below (by repeat (with_reducible first | exact HI0.out | refine Iz.below ?_ StB.b | apply Iz.set_1 | refine Iz.far ?_ aX _)) hb)
           have n2_ := Asd.mk (bkB (g := gb343) (o := .cells #[.int .i64 a1_0, .slice A1_1 l1_1.length c1_1, .slice A1_2 l1_2.length c1_2] 58 (0, 0)) (by (repeat apply bkS); exact BK343.out) hb)
           have n3_ := Asd.mk (bkB (g := gb344) (o := .cells #[.int .i64 0, .string (⟨#[]⟩ : ByteArray)] 26 (0, 0)) (by (repeat apply bkS); exact BK344.out) hb)
           have n4_ := Asd.mk (Kbt.trans (by repeat (with_reducible first | exact HK.out | apply Kbt.set_ | apply kpX | refine kpF ?_ GW343.out _ | refine kpF ?_ GW344.out _)) (Kbt.of_below hb g none) (.inl rfl))
           have n5_ := Asd.mk (bwP (by repeat (with_reducible first | exact HB.out | apply bwX | refine bwS ?_ (Iz.ge HI0.out) | refine bwS ?_ GE343.out | refine bwS ?_ GE344.out)) hb)
           have n6_ := Asd.mk (hbox)
           have n7_ := Asd.mk ((by rw [hg]; exact (kpZ (w := w) (g := g) (row := none) (by repeat (with_reducible first | exact HK.out | apply Kbt.set_ | apply kpX | refine kpF ?_ GW343.out _ | refine kpF ?_ GW344.out _))) : w.heap.size ≤ gb353))
           have n8_ := Asd.mk ((Nat.le_trans HW0.out (by rw [hg]; exact (kpZ (w := w) (g := g) (row := none) (by repeat (with_reducible first | exact HK.out | apply Kbt.set_ | apply kpX | refine kpF ?_ GW343.out _ | refine kpF ?_ GW344.out _))) : w.heap.size ≤ gb353) : w0.heap.size ≤ gb353))
           have n9_ := Asd.mk ((by rw [hg]; exact Nat.ne_of_lt (bkL (g := gb343) (o := .cells #[.int .i64 a1_0, .slice A1_1 l1_1.length c1_1, .slice A1_2 l1_2.length c1_2] 58 (0, 0)) (by (repeat apply bkS); exact BK343.out)) : gb343 ≠ gb353))
           have n10_ := Asd.mk ((by rw [hg]; exact Nat.ne_of_gt (bkL (g := gb343) (o := .cells #[.int .i64 a1_0, .slice A1_1 l1_1.length c1_1, .slice A1_2 l1_2.length c1_2] 58 (0, 0)) (by (repeat apply bkS); exact BK343.out)) : gb353 ≠ gb343))
           have n11_ := Asd.mk ((by rw [hg]; exact Nat.ne_of_lt (bkL (g := gb344) (o := .cells #[.int .i64 0, .string (⟨#[]⟩ : ByteArray)] 26 (0, 0)) (by (repeat apply bkS); exact BK344.out)) : gb344 ≠ gb353))
           have n12_ := Asd.mk ((by rw [hg]; exact Nat.ne_of_gt (bkL (g := gb344) (o := .cells #[.int .i64 0, .string (⟨#[]⟩ : ByteArray)] 26 (0, 0)) (by (repeat apply bkS); exact BK344.out)) : gb353 ≠ gb344))
           have n13_ := Asd.mk ((by rw [hg]; exact Nat.ne_of_lt (Iz.lt (show Iz w0 _ g s0_0 t349 from by repeat (with_reducible first | exact HI0.out | refine Iz.below ?_ StB.b | apply Iz.set_1 | refine Iz.far ?_ aX _))) : g ≠ gb353))
           have n14_ := Asd.mk ((by rw [hg]; exact Nat.ne_of_gt (Iz.lt (show Iz w0 _ g s0_0 t349 from by repeat (with_reducible first | exact HI0.out | refine Iz.below ?_ StB.b | apply Iz.set_1 | refine Iz.far ?_ aX _))) : gb353 ≠ g))
           clear HO347
           clear HI0
           clear BK343
           clear BK344
           clear HK
           clear HB
           have HO347 := n0_
           have HI0 := n1_
           have BK343 := n2_
           have BK344 := n3_
           have HK := n4_
           have HB := n5_
           have BK353 := n6_
           have GW353 := n7_
           have GE353 := n8_
           have NB343_353 := n9_
           have NB353_343 := n10_
           have NB344_353 := n11_
           have NB353_344 := n12_
           have NB0_353 := n13_
           have NB353_0 := n14_
           clear n0_ n1_ n2_ n3_ n4_ n5_ n6_ n7_ n8_ n9_ n10_ n11_ n12_ n13_ n14_
           clear hb hbox hg
           refine hK.out _ _ trivial (fun hHeld => ?_)
           clear hK K
           refine norm_ (a' := ?_) ?_ ?_
           rotate_left
           ·show Act.put _ (some 5) _ = _
            simp only [Act.put, qA, qB, qC, i64_w, i32_w]
            rfl
           exact norm_ (by simp only [putAll, Act.put, qA, qB, qC]; first | done | rfl) (hJ0_2_11 (.slice (some adz_v346) y345.length co19, adz_v346, gb353) _ ⟨(by (repeat apply Kd.RS); exact HO347.out), ⟨_, rfl⟩, (by (repeat apply bkS); exact BK343.out), (by (repeat apply bkS); exact BK344.out), (by (repeat apply bkS); exact BK353.out), GW353.out, GE353.out, NB0_353.out, NB353_0.out, NB343_353.out, NB353_343.out, NB344_353.out, NB353_344.out, (by repeat (with_reducible first | exact HI0.out | refine Iz.below ?_ StB.b | apply Iz.set_1 | refine Iz.far ?_ aX _)), (by repeat (with_reducible first | exact HK.out | apply Kbt.set_ | apply kpX | refine kpF ?_ GW343.out _ | refine kpF ?_ GW344.out _ | refine kpF ?_ GW353.out _)), (by repeat (with_reducible first | exact HB.out | apply bwX | refine bwS ?_ (Iz.ge HI0.out) | refine bwS ?_ GE343.out | refine bwS ?_ GE344.out | refine bwS ?_ GE353.out))⟩)
        ·skip
         rintro gb353 w17 ⟨h0_, h1_, h2_, h3_, h4_, h5_, h6_, h7_, h8_, h9_, h10_, h11_, h12_, h13_⟩
         have n0_ : Asd (w17.heap[gb343]? = some (.cells #[.int .i64 a1_0, .slice A1_1 l1_1.length c1_1, .slice A1_2 l1_2.length c1_2] 58 (0, 0))) := ⟨h0_⟩
         have n1_ : Asd (w17.heap[gb344]? = some (.cells #[.int .i64 0, .string (⟨#[]⟩ : ByteArray)] 26 (0, 0))) := ⟨h1_⟩
         have n2_ : Asd (w17.heap[gb353]? = some (.cells #[.int .i64 0, .string (⟨#[]⟩ : ByteArray)] 26 (0, 0))) := ⟨h2_⟩
         have n3_ : Asd (w.heap.size ≤ gb353) := ⟨h3_⟩
         have n4_ : Asd (w0.heap.size ≤ gb353) := ⟨h4_⟩
         have n5_ : Asd (g ≠ gb353) := ⟨h5_⟩
         have n6_ : Asd (gb353 ≠ g) := ⟨h6_⟩
         have n7_ : Asd (gb343 ≠ gb353) := ⟨h7_⟩
         have n8_ : Asd (gb353 ≠ gb343) := ⟨h8_⟩
         have n9_ : Asd (gb344 ≠ gb353) := ⟨h9_⟩
         have n10_ : Asd (gb353 ≠ gb344) := ⟨h10_⟩
         have n11_ : Asd (Iz w0 w17 g s0_0 t352) := ⟨h11_⟩
         have n12_ : Asd (Kbt w w17 g none) := ⟨h12_⟩
         have n13_ : Asd (Below w0.heap.size w0 w17) := ⟨h13_⟩
         clear BK343
         clear BK344
         clear HI0
         clear HK
         clear HB
         clear h0_ h1_ h2_ h3_ h4_ h5_ h6_ h7_ h8_ h9_ h10_ h11_ h12_ h13_
         have BK343 := n0_
         have BK344 := n1_
         have BK353 := n2_
         have GW353 := n3_
         have GE353 := n4_
         have NB0_353 := n5_
         have NB353_0 := n6_
         have NB343_353 := n7_
         have NB353_343 := n8_
         have NB344_353 := n9_
         have NB353_344 := n10_
         have HI0 := n11_
         have HK := n12_
         have HB := n13_
         clear n0_ n1_ n2_ n3_ n4_ n5_ n6_ n7_ n8_ n9_ n10_ n11_ n12_ n13_
         have hHeld := trivial
         refine norm_ (a' := ?_) ?_ ?_
         rotate_left
         ·simp only [putAll, Act.put, qA, qB, qC]
          rfl
         refine one_ (i := 0) (N := some 6) #[true, true, true, false, false, true, true, true, true, false, false, true, false] rfl rfl (one_of HT_.out (by kernel_rfl)) (by decide) (fun K hK => ?_)
         refine Kd.R_lit_step (Kd.int .i64) _ 3 ?hg (N := 6) ?hd (xs := ([0, 0, 0, 1, 1, 1, 2] : List Int)) (inner := [.int .i64 0, .int .i64 0, .int .i64 0, .int .i64 1, .int .i64 1, .int .i64 1, .int .i64 2]) (ok := fun _ => True) (okp := fun _ => True) ?hr ?hp (fun _ hk => hk) trivial (Below.refl _ _) (Nat.le_refl _) (by simp) ?_; (case hd => rfl); (case hg => rfl); (case hr => first | (go_simp; done) | (go_simp; rfl)); (case hp => exact (Reps.one (show Kd.M (Kd.int .i64) _ _ _ 0 [.int .i64 0] from rfl) (Reps.one (show Kd.M (Kd.int .i64) _ _ _ 0 [.int .i64 0] from rfl) (Reps.one (show Kd.M (Kd.int .i64) _ _ _ 0 [.int .i64 0] from rfl) (Reps.one (show Kd.M (Kd.int .i64) _ _ _ 1 [.int .i64 1] from rfl) (Reps.one (show Kd.M (Kd.int .i64) _ _ _ 1 [.int .i64 1] from rfl) (Reps.one (show Kd.M (Kd.int .i64) _ _ _ 1 [.int .i64 1] from rfl) (Reps.one (show Kd.M (Kd.int .i64) _ _ _ 2 [.int .i64 2] from rfl) (Reps.none _ _)))))))))
         intro v346 w18 ho19 hb hg_ hnew_
         clear hg_ hnew_
         (first | rw [← Ny345.out] at ho19 | (simp only [Int.reduceToNat] at ho19; rw [← Ny345.out] at ho19))
         have n0_ := Asd.mk (Kd.R_lower ho19 (kpZ (w := w) (g := g) (row := none) (by repeat (with_reducible first | exact HK.out | apply Kbt.set_ | apply kpX | refine kpF ?_ GW343.out _ | refine kpF ?_ GW344.out _ | refine kpF ?_ GW353.out _))))
         have n1_ := Asd.mk (Iz.below (by repeat (with_reducible first | exact HI0.out | refine Iz.below ?_ StB.b | apply Iz.set_1 | refine Iz.far ?_ aX _)) hb)
         have n2_ := Asd.mk (bkB (g := gb343) (o := .cells #[.int .i64 a1_0, .slice A1_1 l1_1.length c1_1, .slice A1_2 l1_2.length c1_2] 58 (0, 0)) (by (repeat apply bkS); exact BK343.out) hb)
         have n3_ := Asd.mk (bkB (g := gb344) (o := .cells #[.int .i64 0, .string (⟨#[]⟩ : ByteArray)] 26 (0, 0)) (by (repeat apply bkS); exact BK344.out) hb)
         have n4_ := Asd.mk (bkB (g := gb353) (o := .cells #[.int .i64 0, .string (⟨#[]⟩ : ByteArray)] 26 (0, 0)) (by (repeat apply bkS); exact BK353.out) hb)
         have n5_ := Asd.mk (Kbt.trans (by repeat (with_reducible first | exact HK.out | apply Kbt.set_ | apply kpX | refine kpF ?_ GW343.out _ | refine kpF ?_ GW344.out _ | refine kpF ?_ GW353.out _)) (Kbt.of_below hb g none) (.inl rfl))
         have n6_ := Asd.mk (bwP (by repeat (with_reducible first | exact HB.out | apply bwX | refine bwS ?_ (Iz.ge HI0.out) | refine bwS ?_ GE343.out | refine bwS ?_ GE344.out | refine bwS ?_ GE353.out)) hb)
         clear HI0
         clear BK343
         clear BK344
         clear BK353
         clear HK
         clear HB
         have HO347 := n0_
         have HI0 := n1_
         have BK343 := n2_
         have BK344 := n3_
         have BK353 := n4_
         have HK := n5_
         have HB := n6_
         clear n0_ n1_ n2_ n3_ n4_ n5_ n6_
         clear hb ho19
         obtain ⟨Ao20, co20, eo20⟩ := Kd.R_slice HO347.out
         subst eo20
         obtain ⟨ado20, fo20, _⟩ := Kd.at_int (Kd.R_reads' HO347.out).2.2 0 (by decide) (by rw [Ny345.out]; simp)
         cases fo20
         refine hK.out _ _ trivial (fun hHeld => ?_)
         clear hK K
         refine norm_ (a' := ?_) ?_ ?_
         rotate_left
         ·show Act.put _ (some 6) _ = _
          simp only [Act.put, qA, qB, qC, i64_w, i32_w]
          rfl
         refine pure_ (i := 3) (N := some 9) (v := ?_) (a' := ?_) #[true, true, true, true, false, true, true, true, true, false, false, true, false] rfl rfl (any_of HT_.out (by kernel_rfl)) (fun _ _ _ h => h) (Or.inl ⟨by rfl, ?_⟩) ?_ ?_
         rotate_left
         ·intro w'
          go_simp
          with_reducible rfl
         rotate_left
         ·simp only [Act.put, qA, qB, qC, i64_w, i32_w]
          rfl
         exact norm_ (by simp only [putAll, Act.put, qA, qB, qC]; first | done | rfl) (hJ0_2_6_11 (.slice (some ado20) y345.length co20, ado20, gb353) _ ⟨(by (repeat apply Kd.RS); exact HO347.out), ⟨_, rfl⟩, (by (repeat apply bkS); exact BK343.out), (by (repeat apply bkS); exact BK344.out), (by (repeat apply bkS); exact BK353.out), GW353.out, GE353.out, NB0_353.out, NB353_0.out, NB343_353.out, NB353_343.out, NB344_353.out, NB353_344.out, (by repeat (with_reducible first | exact HI0.out | refine Iz.below ?_ StB.b | apply Iz.set_1 | refine Iz.far ?_ aX _)), (by repeat (with_reducible first | exact HK.out | apply Kbt.set_ | apply kpX | refine kpF ?_ GW343.out _ | refine kpF ?_ GW344.out _ | refine kpF ?_ GW353.out _)), (by repeat (with_reducible first | exact HB.out | apply bwX | refine bwS ?_ (Iz.ge HI0.out) | refine bwS ?_ GE343.out | refine bwS ?_ GE344.out | refine bwS ?_ GE353.out))⟩)
       ·skip
        rintro ⟨v346, adz_v346, gb353⟩ w19 ⟨h0_, h1_, h2_, h3_, h4_, h5_, h6_, h7_, h8_, h9_, h10_, h11_, h12_, h13_, h14_, h15_⟩
        have n0_ : Asd (Kd.R (Kd.int .i64) 3 w19 w.heap.size (fun _ => True) v346 y345) := ⟨h0_⟩
        have n1_ : Asd (∃ c_, (v346 : Value) = .slice (some adz_v346) y345.length c_) := ⟨h1_⟩
        have n2_ : Asd (w19.heap[gb343]? = some (.cells #[.int .i64 a1_0, .slice A1_1 l1_1.length c1_1, .slice A1_2 l1_2.length c1_2] 58 (0, 0))) := ⟨h2_⟩
        have n3_ : Asd (w19.heap[gb344]? = some (.cells #[.int .i64 0, .string (⟨#[]⟩ : ByteArray)] 26 (0, 0))) := ⟨h3_⟩
        have n4_ : Asd (w19.heap[gb353]? = some (.cells #[.int .i64 0, .string (⟨#[]⟩ : ByteArray)] 26 (0, 0))) := ⟨h4_⟩
        have n5_ : Asd (w.heap.size ≤ gb353) := ⟨h5_⟩
        have n6_ : Asd (w0.heap.size ≤ gb353) := ⟨h6_⟩
        have n7_ : Asd (g ≠ gb353) := ⟨h7_⟩
        have n8_ : Asd (gb353 ≠ g) := ⟨h8_⟩
        have n9_ : Asd (gb343 ≠ gb353) := ⟨h9_⟩
        have n10_ : Asd (gb353 ≠ gb343) := ⟨h10_⟩
        have n11_ : Asd (gb344 ≠ gb353) := ⟨h11_⟩
        have n12_ : Asd (gb353 ≠ gb344) := ⟨h12_⟩
        have n13_ : Asd (Iz w0 w19 g s0_0 t349) := ⟨h13_⟩
        have n14_ : Asd (Kbt w w19 g none) := ⟨h14_⟩
        have n15_ : Asd (Below w0.heap.size w0 w19) := ⟨h15_⟩
        clear BK343
        clear BK344
        clear HI0
        clear HK
        clear HB
        clear h0_ h1_ h2_ h3_ h4_ h5_ h6_ h7_ h8_ h9_ h10_ h11_ h12_ h13_ h14_ h15_
        have HO347 := n0_
        have HA_HO347 := n1_
        have BK343 := n2_
        have BK344 := n3_
        have BK353 := n4_
        have GW353 := n5_
        have GE353 := n6_
        have NB0_353 := n7_
        have NB353_0 := n8_
        have NB343_353 := n9_
        have NB353_343 := n10_
        have NB344_353 := n11_
        have NB353_344 := n12_
        have HI0 := n13_
        have HK := n14_
        have HB := n15_
        clear n0_ n1_ n2_ n3_ n4_ n5_ n6_ n7_ n8_ n9_ n10_ n11_ n12_ n13_ n14_ n15_
        have hHeld := trivial
        obtain ⟨co20, eo20⟩ := HA_HO347.out
        clear HA_HO347
        subst eo20
        refine norm_ (a' := ?_) ?_ ?_
        rotate_left
        ·simp only [putAll, Act.put, qA, qB, qC]
         rfl
        refine two_ (i := 4) (j := 6) (Ni := some 10) (Nj := some 12) #[true, true, true, true, true, true, false, false, false, false, false, true, false] #[true, true, true, true, false, true, true, false, false, false, false, true, false] rfl rfl rfl rfl (two_of HT_.out (by kernel_rfl)) (by decide) (by decide) (fun K hK => ?_) (fun K hK => ?_)
        ·skip
         (have p350 : 0 ≤ (t348 : Int) := odt; have q350 : t348 < (y345.length : Int) := odt; obtain ⟨ad350, e350, hx350_0⟩ := Kd.at_int (Kd.R_reads' HO347.out).2.2 t348 p350 q350; obtain rfl : adz_v346 = ad350 := (by injection e350))
         refine value_ (w1 := ?_) (v := ?_) (by rfl) rfl ?_ ?_
         rotate_left 2
         ·go_simp
          constructor
          ·rfl
          ·rfl
         clear hx350_0
         refine hK.out _ _ trivial (fun hHeld => ?_)
         clear hK K
         refine norm_ (a' := ?_) ?_ ?_
         rotate_left
         ·show Act.put _ (some 10) _ = _
          simp only [Act.put, qA, qB, qC, i64_w, i32_w]
          rfl
         exact norm_ (by simp only [putAll, Act.put, qA, qB, qC]; first | done | rfl) (hJ0_2_4_11 (.slice (some adz_v346) y345.length co20, adz_v346, gb353) _ ⟨(by (repeat apply Kd.RS); exact HO347.out), ⟨_, rfl⟩, (by (repeat apply bkS); exact BK343.out), (by (repeat apply bkS); exact BK344.out), (by (repeat apply bkS); exact BK353.out), GW353.out, GE353.out, NB0_353.out, NB353_0.out, NB343_353.out, NB353_343.out, NB344_353.out, NB353_344.out, (by repeat (with_reducible first | exact HI0.out | refine Iz.below ?_ StB.b | apply Iz.set_1 | refine Iz.far ?_ aX _)), (by repeat (with_reducible first | exact HK.out | apply Kbt.set_ | apply kpX | refine kpF ?_ GW343.out _ | refine kpF ?_ GW344.out _ | refine kpF ?_ GW353.out _)), (by repeat (with_reducible first | exact HB.out | apply bwX | refine bwS ?_ (Iz.ge HI0.out) | refine bwS ?_ GE343.out | refine bwS ?_ GE344.out | refine bwS ?_ GE353.out))⟩)
        ·skip
         refine goes_ Try.func82 (by kernel_rfl) rfl #[.pointer (some ⟨g, 0, none⟩), .int .i64 60] (by rfl) rfl rfl (by (try simp only [List.map_toArray, List.map_cons, List.map_nil]); first | done | rfl | (simp only [List.length_drop, List.length_take]; rfl)) ?_
         with_reducible refine (spec_l20Rd_pick.calls k g s0_0 t349 60 t351 t352 w0 _ ?side1 ?side2 A6.out).mono ?_
         (case side1 => repeat (with_reducible first | exact HI0.out | refine Iz.below ?_ StB.b | apply Iz.set_1 | refine Iz.far ?_ aX _))
         (case side2 => repeat (with_reducible first | exact HB.out | apply bwX | refine bwS ?_ (Iz.ge HI0.out) | refine bwS ?_ GE343.out | refine bwS ?_ GE344.out | refine bwS ?_ GE353.out))
         rintro e w21 ⟨rfl, hi, hb, hk⟩
         refine ⟨_, rfl, ?_⟩
         have n0_ := Asd.mk (Kbt.blk hk (g' := gb343) (o := .cells #[.int .i64 a1_0, .slice A1_1 l1_1.length c1_1, .slice A1_2 l1_2.length c1_2] 58 (0, 0)) (by (repeat apply bkS); exact BK343.out) NB343_0.out (by simp))
         have n1_ := Asd.mk (Kbt.blk hk (g' := gb344) (o := .cells #[.int .i64 0, .string (⟨#[]⟩ : ByteArray)] 26 (0, 0)) (by (repeat apply bkS); exact BK344.out) NB344_0.out (by simp))
         have n2_ := Asd.mk (Kd.R_mono (Kd.R_keep (Iz.apart (show Iz w0 _ g s0_0 t349 from by repeat (with_reducible first | exact HI0.out | refine Iz.below ?_ StB.b | apply Iz.set_1 | refine Iz.far ?_ aX _)) (by (repeat apply Kd.RS); exact HO347.out) (by decide)) hk (fun _ h => h.2)) (fun _ h => h.1))
         have n3_ := Asd.mk (Kbt.blk hk (g' := gb353) (o := .cells #[.int .i64 0, .string (⟨#[]⟩ : ByteArray)] 26 (0, 0)) (by (repeat apply bkS); exact BK353.out) NB353_0.out (by simp))
         have n4_ := Asd.mk (Kbt.trans (by repeat (with_reducible first | exact HK.out | apply Kbt.set_ | apply kpX | refine kpF ?_ GW343.out _ | refine kpF ?_ GW344.out _ | refine kpF ?_ GW353.out _)) hk (.inl rfl))
         have n5_ := Asd.mk (hb)
         have n6_ := Asd.mk (hi)
         clear BK343
         clear BK344
         clear HO347
         clear BK353
         clear HK
         clear HB
         clear HI0
         have BK343 := n0_
         have BK344 := n1_
         have HO347 := n2_
         have BK353 := n3_
         have HK := n4_
         have HB := n5_
         have HI0 := n6_
         clear n0_ n1_ n2_ n3_ n4_ n5_ n6_
         (try clear hb)
         (try clear hb2)
         (try clear hk)
         (try clear hi)
         refine hK.out _ _ trivial (fun hHeld => ?_)
         clear hK K
         refine norm_ (a' := ?_) ?_ ?_
         rotate_left
         ·show Act.put _ (some 12) _ = _
          simp only [Act.put, qA, qB, qC, i64_w, i32_w]
          rfl
         refine pure_ (i := 7) (N := some 13) (v := ?_) (a' := ?_) #[true, true, true, true, false, true, true, true, false, false, false, true, false] rfl rfl (any_of HT_.out (by kernel_rfl)) (fun _ _ _ h => h) (Or.inl ⟨by rfl, ?_⟩) ?_ ?_
         rotate_left
         ·intro w'
          go_simp
          with_reducible rfl
         rotate_left
         ·simp only [Act.put, qA, qB, qC, i64_w, i32_w]
          rfl
         refine pure_ (i := 8) (N := some 14) (v := ?_) (a' := ?_) #[true, true, true, true, false, true, true, true, true, false, false, true, false] rfl rfl (any_of HT_.out (by kernel_rfl)) (fun _ _ _ h => h) (Or.inl ⟨by rfl, ?_⟩) ?_ ?_
         rotate_left
         ·intro w'
          go_simp
          with_reducible rfl
         rotate_left
         ·simp only [Act.put, qA, qB, qC, i64_w, i32_w]
          rfl
         exact norm_ (by simp only [putAll, Act.put, qA, qB, qC]; first | done | rfl) (hJ0_2_6_11 (.slice (some adz_v346) y345.length co20, adz_v346, gb353) _ ⟨(by (repeat apply Kd.RS); exact HO347.out), ⟨_, rfl⟩, (by (repeat apply bkS); exact BK343.out), (by (repeat apply bkS); exact BK344.out), (by (repeat apply bkS); exact BK353.out), GW353.out, GE353.out, NB0_353.out, NB353_0.out, NB343_353.out, NB353_343.out, NB344_353.out, NB353_344.out, (by repeat (with_reducible first | exact HI0.out | refine Iz.below ?_ StB.b | apply Iz.set_1 | refine Iz.far ?_ aX _)), (by repeat (with_reducible first | exact HK.out | apply Kbt.set_ | apply kpX | refine kpF ?_ GW343.out _ | refine kpF ?_ GW344.out _ | refine kpF ?_ GW353.out _)), (by repeat (with_reducible first | exact HB.out | apply bwX | refine bwS ?_ (Iz.ge HI0.out) | refine bwS ?_ GE343.out | refine bwS ?_ GE344.out | refine bwS ?_ GE353.out))⟩)
      ·skip
       rintro ⟨v346, adz_v346⟩ w19 ⟨h0_, h1_, h2_, h3_, h4_, h5_, h6_⟩
       have n0_ : Asd (Kd.R (Kd.int .i64) 3 w19 w.heap.size (fun _ => True) v346 y345) := ⟨h0_⟩
       have n1_ : Asd (∃ c_, (v346 : Value) = .slice (some adz_v346) y345.length c_) := ⟨h1_⟩
       have n2_ : Asd (w19.heap[gb343]? = some (.cells #[.int .i64 a1_0, .slice A1_1 l1_1.length c1_1, .slice A1_2 l1_2.length c1_2] 58 (0, 0))) := ⟨h2_⟩
       have n3_ : Asd (w19.heap[gb344]? = some (.cells #[.int .i64 0, .string (⟨#[]⟩ : ByteArray)] 26 (0, 0))) := ⟨h3_⟩
       have n4_ : Asd (Iz w0 w19 g s0_0 t352) := ⟨h4_⟩
       have n5_ : Asd (Kbt w w19 g none) := ⟨h5_⟩
       have n6_ : Asd (Below w0.heap.size w0 w19) := ⟨h6_⟩
       clear BK343
       clear BK344
       clear HI0
       clear HK
       clear HB
       clear h0_ h1_ h2_ h3_ h4_ h5_ h6_
       have HO347 := n0_
       have HA_HO347 := n1_
       have BK343 := n2_
       have BK344 := n3_
       have HI0 := n4_
       have HK := n5_
       have HB := n6_
       clear n0_ n1_ n2_ n3_ n4_ n5_ n6_
       have hHeld := trivial
       obtain ⟨co20, eo20⟩ := HA_HO347.out
       clear HA_HO347
       subst eo20
       refine norm_ (a' := ?_) ?_ ?_
       rotate_left
       ·simp only [putAll, Act.put, qA, qB, qC]
        rfl
       refine two_ (i := 4) (j := 11) (Ni := some 10) (Nj := some 5) #[true, true, true, true, true, true, true, true, true, false, false, false, false] #[true, true, true, true, false, true, true, true, true, false, false, true, false] rfl rfl rfl rfl (two_of HT_.out (by kernel_rfl)) (by decide) (by decide) (fun K hK => ?_) (fun K hK => ?_)
       ·skip
        (have p350 : 0 ≤ (t348 : Int) := odt; have q350 : t348 < (y345.length : Int) := odt; obtain ⟨ad350, e350, hx350_0⟩ := Kd.at_int (Kd.R_reads' HO347.out).2.2 t348 p350 q350; obtain rfl : adz_v346 = ad350 := (by injection e350))
        refine value_ (w1 := ?_) (v := ?_) (by rfl) rfl ?_ ?_
        rotate_left 2
        ·go_simp
         constructor
         ·rfl
         ·rfl
        clear hx350_0
        refine hK.out _ _ trivial (fun hHeld => ?_)
        clear hK K
        refine norm_ (a' := ?_) ?_ ?_
        rotate_left
        ·show Act.put _ (some 10) _ = _
         simp only [Act.put, qA, qB, qC, i64_w, i32_w]
         rfl
        refine pure_ (i := 9) (N := some 15) (v := ?_) (a' := ?_) #[true, true, true, true, true, true, true, true, true, true, false, false, false] rfl rfl (any_of HT_.out (by kernel_rfl)) (fun _ _ _ h => h) (Or.inl ⟨by rfl, ?_⟩) ?_ ?_
        rotate_left
        ·intro w'
         go_simp
         with_reducible rfl
        rotate_left
        ·simp only [Act.put, qA, qB, qC, i64_w, i32_w]
         rfl
        refine pure_ (i := 10) (N := some 16) (v := ?_) (a' := ?_) #[true, true, true, true, true, true, true, true, true, true, true, false, false] rfl rfl (any_of HT_.out (by kernel_rfl)) (fun _ _ _ h => h) (Or.inl ⟨by rfl, ?_⟩) ?_ ?_
        rotate_left
        ·intro w'
         go_simp
         with_reducible rfl
        rotate_left
        ·simp only [Act.put, qA, qB, qC, i64_w, i32_w]
         rfl
        exact norm_ (by simp only [putAll, Act.put, qA, qB, qC]; first | done | rfl) (hJ0_2_4_6 (.slice (some adz_v346) y345.length co20, adz_v346) _ ⟨(by (repeat apply Kd.RS); exact HO347.out), ⟨_, rfl⟩, (by (repeat apply bkS); exact BK343.out), (by (repeat apply bkS); exact BK344.out), (by repeat (with_reducible first | exact HI0.out | refine Iz.below ?_ StB.b | apply Iz.set_1 | refine Iz.far ?_ aX _)), (by repeat (with_reducible first | exact HK.out | apply Kbt.set_ | apply kpX | refine kpF ?_ GW343.out _ | refine kpF ?_ GW344.out _)), (by repeat (with_reducible first | exact HB.out | apply bwX | refine bwS ?_ (Iz.ge HI0.out) | refine bwS ?_ GE343.out | refine bwS ?_ GE344.out))⟩)
       ·skip
        refine box_step ?hg (N := 5) ?hd (cs := #[.int .i64 0, .string (⟨#[]⟩ : ByteArray)]) (t := 26) ?hr ?_; (case hd => rfl); (case hg => rfl); (case hr => first | (go_simp; done) | (go_simp; rfl))
        intro gb353 hg w21 hbox hb
        have n0_ := Asd.mk (Kd.R_below (by (repeat apply Kd.RS); exact HO347.out) hb)
        have n1_ := Asd.mk (Iz.below (by repeat (with_reducible first | exact HI0.out | refine Iz.below ?_ StB.b | apply Iz.set_1 | refine Iz.far ?_ aX _)) hb)
        have n2_ := Asd.mk (bkB (g := gb343) (o := .cells #[.int .i64 a1_0, .slice A1_1 l1_1.length c1_1, .slice A1_2 l1_2.length c1_2] 58 (0, 0)) (by (repeat apply bkS); exact BK343.out) hb)
        have n3_ := Asd.mk (bkB (g := gb344) (o := .cells #[.int .i64 0, .string (⟨#[]⟩ : ByteArray)] 26 (0, 0)) (by (repeat apply bkS); exact BK344.out) hb)
        have n4_ := Asd.mk (Kbt.trans (by repeat (with_reducible first | exact HK.out | apply Kbt.set_ | apply kpX | refine kpF ?_ GW343.out _ | refine kpF ?_ GW344.out _)) (Kbt.of_below hb g none) (.inl rfl))
        have n5_ := Asd.mk (bwP (by repeat (with_reducible first | exact HB.out | apply bwX | refine bwS ?_ (Iz.ge HI0.out) | refine bwS ?_ GE343.out | refine bwS ?_ GE344.out)) hb)
        have n6_ := Asd.mk (hbox)
        have n7_ := Asd.mk ((by rw [hg]; exact (kpZ (w := w) (g := g) (row := none) (by repeat (with_reducible first | exact HK.out | apply Kbt.set_ | apply kpX | refine kpF ?_ GW343.out _ | refine kpF ?_ GW344.out _))) : w.heap.size ≤ gb353))
        have n8_ := Asd.mk ((Nat.le_trans HW0.out (by rw [hg]; exact (kpZ (w := w) (g := g) (row := none) (by repeat (with_reducible first | exact HK.out | apply Kbt.set_ | apply kpX | refine kpF ?_ GW343.out _ | refine kpF ?_ GW344.out _))) : w.heap.size ≤ gb353) : w0.heap.size ≤ gb353))
        have n9_ := Asd.mk ((by rw [hg]; exact Nat.ne_of_lt (bkL (g := gb343) (o := .cells #[.int .i64 a1_0, .slice A1_1 l1_1.length c1_1, .slice A1_2 l1_2.length c1_2] 58 (0, 0)) (by (repeat apply bkS); exact BK343.out)) : gb343 ≠ gb353))
        have n10_ := Asd.mk ((by rw [hg]; exact Nat.ne_of_gt (bkL (g := gb343) (o := .cells #[.int .i64 a1_0, .slice A1_1 l1_1.length c1_1, .slice A1_2 l1_2.length c1_2] 58 (0, 0)) (by (repeat apply bkS); exact BK343.out)) : gb353 ≠ gb343))
        have n11_ := Asd.mk ((by rw [hg]; exact Nat.ne_of_lt (bkL (g := gb344) (o := .cells #[.int .i64 0, .string (⟨#[]⟩ : ByteArray)] 26 (0, 0)) (by (repeat apply bkS); exact BK344.out)) : gb344 ≠ gb353))
        have n12_ := Asd.mk ((by rw [hg]; exact Nat.ne_of_gt (bkL (g := gb344) (o := .cells #[.int .i64 0, .string (⟨#[]⟩ : ByteArray)] 26 (0, 0)) (by (repeat apply bkS); exact BK344.out)) : gb353 ≠ gb344))
        have n13_ := Asd.mk ((by rw [hg]; exact Nat.ne_of_lt (Iz.lt (show Iz w0 _ g s0_0 t352 from by repeat (with_reducible first | exact HI0.out | refine Iz.below ?_ StB.b | apply Iz.set_1 | refine Iz.far ?_ aX _))) : g ≠ gb353))
        have n14_ := Asd.mk ((by rw [hg]; exact Nat.ne_of_gt (Iz.lt (show Iz w0 _ g s0_0 t352 from by repeat (with_reducible first | exact HI0.out | refine Iz.below ?_ StB.b | apply Iz.set_1 | refine Iz.far ?_ aX _))) : gb353 ≠ g))
        clear HO347
        clear HI0
        clear BK343
        clear BK344
        clear HK
        clear HB
        have HO347 := n0_
        have HI0 := n1_
        have BK343 := n2_
        have BK344 := n3_
        have HK := n4_
        have HB := n5_
        have BK353 := n6_
        have GW353 := n7_
        have GE353 := n8_
        have NB343_353 := n9_
        have NB353_343 := n10_
        have NB344_353 := n11_
        have NB353_344 := n12_
        have NB0_353 := n13_
        have NB353_0 := n14_
        clear n0_ n1_ n2_ n3_ n4_ n5_ n6_ n7_ n8_ n9_ n10_ n11_ n12_ n13_ n14_
        clear hb hbox hg
        refine hK.out _ _ trivial (fun hHeld => ?_)
        clear hK K
        refine norm_ (a' := ?_) ?_ ?_
        rotate_left
        ·show Act.put _ (some 5) _ = _
         simp only [Act.put, qA, qB, qC, i64_w, i32_w]
         rfl
        exact norm_ (by simp only [putAll, Act.put, qA, qB, qC]; first | done | rfl) (hJ0_2_6_11 (.slice (some adz_v346) y345.length co20, adz_v346, gb353) _ ⟨(by (repeat apply Kd.RS); exact HO347.out), ⟨_, rfl⟩, (by (repeat apply bkS); exact BK343.out), (by (repeat apply bkS); exact BK344.out), (by (repeat apply bkS); exact BK353.out), GW353.out, GE353.out, NB0_353.out, NB353_0.out, NB343_353.out, NB353_343.out, NB344_353.out, NB353_344.out, (by repeat (with_reducible first | exact HI0.out | refine Iz.below ?_ StB.b | apply Iz.set_1 | refine Iz.far ?_ aX _)), (by repeat (with_reducible first | exact HK.out | apply Kbt.set_ | apply kpX | refine kpF ?_ GW343.out _ | refine kpF ?_ GW344.out _ | refine kpF ?_ GW353.out _)), (by repeat (with_reducible first | exact HB.out | apply bwX | refine bwS ?_ (Iz.ge HI0.out) | refine bwS ?_ GE343.out | refine bwS ?_ GE344.out | refine bwS ?_ GE353.out))⟩)
     ·skip
      rintro ⟨v346, adz_v346⟩ w18 ⟨h0_, h1_, h2_, h3_, h4_, h5_, h6_⟩
      have n0_ : Asd (Kd.R (Kd.int .i64) 3 w18 w.heap.size (fun _ => True) v346 y345) := ⟨h0_⟩
      have n1_ : Asd (∃ c_, (v346 : Value) = .slice (some adz_v346) y345.length c_) := ⟨h1_⟩
      have n2_ : Asd (w18.heap[gb343]? = some (.cells #[.int .i64 a1_0, .slice A1_1 l1_1.length c1_1, .slice A1_2 l1_2.length c1_2] 58 (0, 0))) := ⟨h2_⟩
      have n3_ : Asd (w18.heap[gb344]? = some (.cells #[.int .i64 0, .string (⟨#[]⟩ : ByteArray)] 26 (0, 0))) := ⟨h3_⟩
      have n4_ : Asd (Iz w0 w18 g s0_0 t349) := ⟨h4_⟩
      have n5_ : Asd (Kbt w w18 g none) := ⟨h5_⟩
      have n6_ : Asd (Below w0.heap.size w0 w18) := ⟨h6_⟩
      clear BK343
      clear BK344
      clear HI0
      clear HK
      clear HB
      clear h0_ h1_ h2_ h3_ h4_ h5_ h6_
      have HO347 := n0_
      have HA_HO347 := n1_
      have BK343 := n2_
      have BK344 := n3_
      have HI0 := n4_
      have HK := n5_
      have HB := n6_
      clear n0_ n1_ n2_ n3_ n4_ n5_ n6_
      have hHeld := trivial
      obtain ⟨co19, eo19⟩ := HA_HO347.out
      clear HA_HO347
      subst eo19
      refine norm_ (a' := ?_) ?_ ?_
      rotate_left
      ·simp only [putAll, Act.put, qA, qB, qC]
       rfl
      refine two_ (i := 6) (j := 11) (Ni := some 12) (Nj := some 5) #[true, true, true, true, true, true, true, false, false, false, false, false, false] #[true, true, true, true, true, true, false, false, false, false, false, true, false] rfl rfl rfl rfl (two_of HT_.out (by kernel_rfl)) (by decide) (by decide) (fun K hK => ?_) (fun K hK => ?_)
      ·skip
       refine goes_ Try.func82 (by kernel_rfl) rfl #[.pointer (some ⟨g, 0, none⟩), .int .i64 60] (by rfl) rfl rfl (by (try simp only [List.map_toArray, List.map_cons, List.map_nil]); first | done | rfl | (simp only [List.length_drop, List.length_take]; rfl)) ?_
       with_reducible refine (spec_l20Rd_pick.calls k g s0_0 t349 60 t351 t352 w0 _ ?side1 ?side2 A6.out).mono ?_
       (case side1 => repeat (with_reducible first | exact HI0.out | refine Iz.below ?_ StB.b | apply Iz.set_1 | refine Iz.far ?_ aX _))
       (case side2 => repeat (with_reducible first | exact HB.out | apply bwX | refine bwS ?_ (Iz.ge HI0.out) | refine bwS ?_ GE343.out | refine bwS ?_ GE344.out))
       rintro e w20 ⟨rfl, hi, hb, hk⟩
       refine ⟨_, rfl, ?_⟩
       have n0_ := Asd.mk (Kbt.blk hk (g' := gb343) (o := .cells #[.int .i64 a1_0, .slice A1_1 l1_1.length c1_1, .slice A1_2 l1_2.length c1_2] 58 (0, 0)) (by (repeat apply bkS); exact BK343.out) NB343_0.out (by simp))
       have n1_ := Asd.mk (Kbt.blk hk (g' := gb344) (o := .cells #[.int .i64 0, .string (⟨#[]⟩ : ByteArray)] 26 (0, 0)) (by (repeat apply bkS); exact BK344.out) NB344_0.out (by simp))
       have n2_ := Asd.mk (Kd.R_mono (Kd.R_keep (Iz.apart (show Iz w0 _ g s0_0 t349 from by repeat (with_reducible first | exact HI0.out | refine Iz.below ?_ StB.b | apply Iz.set_1 | refine Iz.far ?_ aX _)) (by (repeat apply Kd.RS); exact HO347.out) (by decide)) hk (fun _ h => h.2)) (fun _ h => h.1))
       have n3_ := Asd.mk (Kbt.trans (by repeat (with_reducible first | exact HK.out | apply Kbt.set_ | apply kpX | refine kpF ?_ GW343.out _ | refine kpF ?_ GW344.out _)) hk (.inl rfl))
       have n4_ := Asd.mk (hb)
       have n5_ := Asd.mk (hi)
       clear BK343
       clear BK344
       clear HO347
       clear HK
       clear HB
       clear HI0
       have BK343 := n0_
       have BK344 := n1_
       have HO347 := n2_
       have HK := n3_
       have HB := n4_
       have HI0 := n5_
       clear n0_ n1_ n2_ n3_ n4_ n5_
       (try clear hb)
       (try clear hb2)
       (try clear hk)
       (try clear hi)
       refine hK.out _ _ trivial (fun hHeld => ?_)
       clear hK K
       refine norm_ (a' := ?_) ?_ ?_
       rotate_left
       ·show Act.put _ (some 12) _ = _
        simp only [Act.put, qA, qB, qC, i64_w, i32_w]
        rfl
       refine pure_ (i := 7) (N := some 13) (v := ?_) (a' := ?_) #[true, true, true, true, true, true, true, true, false, false, false, false, false] rfl rfl (any_of HT_.out (by kernel_rfl)) (fun _ _ _ h => h) (Or.inl ⟨by rfl, ?_⟩) ?_ ?_
       rotate_left
       ·intro w'
        go_simp
        with_reducible rfl
       rotate_left
       ·simp only [Act.put, qA, qB, qC, i64_w, i32_w]
        rfl
       refine pure_ (i := 8) (N := some 14) (v := ?_) (a' := ?_) #[true, true, true, true, true, true, true, true, true, false, false, false, false] rfl rfl (any_of HT_.out (by kernel_rfl)) (fun _ _ _ h => h) (Or.inl ⟨by rfl, ?_⟩) ?_ ?_
       rotate_left
       ·intro w'
        go_simp
        with_reducible rfl
       rotate_left
       ·simp only [Act.put, qA, qB, qC, i64_w, i32_w]
        rfl
       refine pure_ (i := 9) (N := some 15) (v := ?_) (a' := ?_) #[true, true, true, true, true, true, true, true, true, true, false, false, false] rfl rfl (any_of HT_.out (by kernel_rfl)) (fun _ _ _ h => h) (Or.inl ⟨by rfl, ?_⟩) ?_ ?_
       rotate_left
       ·intro w'
        go_simp
        with_reducible rfl
       rotate_left
       ·simp only [Act.put, qA, qB, qC, i64_w, i32_w]
        rfl
       refine pure_ (i := 10) (N := some 16) (v := ?_) (a' := ?_) #[true, true, true, true, true, true, true, true, true, true, true, false, false] rfl rfl (any_of HT_.out (by kernel_rfl)) (fun _ _ _ h => h) (Or.inl ⟨by rfl, ?_⟩) ?_ ?_
       rotate_left
       ·intro w'
        go_simp
        with_reducible rfl
       rotate_left
       ·simp only [Act.put, qA, qB, qC, i64_w, i32_w]
        rfl
       exact norm_ (by simp only [putAll, Act.put, qA, qB, qC]; first | done | rfl) (hJ0_2_4_6 (.slice (some adz_v346) y345.length co19, adz_v346) _ ⟨(by (repeat apply Kd.RS); exact HO347.out), ⟨_, rfl⟩, (by (repeat apply bkS); exact BK343.out), (by (repeat apply bkS); exact BK344.out), (by repeat (with_reducible first | exact HI0.out | refine Iz.below ?_ StB.b | apply Iz.set_1 | refine Iz.far ?_ aX _)), (by repeat (with_reducible first | exact HK.out | apply Kbt.set_ | apply kpX | refine kpF ?_ GW343.out _ | refine kpF ?_ GW344.out _)), (by repeat (with_reducible first | exact HB.out | apply bwX | refine bwS ?_ (Iz.ge HI0.out) | refine bwS ?_ GE343.out | refine bwS ?_ GE344.out))⟩)
      ·skip
       refine box_step ?hg (N := 5) ?hd (cs := #[.int .i64 0, .string (⟨#[]⟩ : ByteArray)]) (t := 26) ?hr ?_; (case hd => rfl); (case hg => rfl); (case hr => first | (go_simp; done) | (go_simp; rfl))
       intro gb353 hg w20 hbox hb
       have n0_ := Asd.mk (Kd.R_below (by (repeat apply Kd.RS); exact HO347.out) hb)
       have n1_ := Asd.mk (Iz.below (by repeat (with_reducible first | exact HI0.out | refine Iz.below ?_ StB.b | apply Iz.set_1 | refine Iz.far ?_ aX _)) hb)
       have n2_ := Asd.mk (bkB (g := gb343) (o := .cells #[.int .i64 a1_0, .slice A1_1 l1_1.length c1_1, .slice A1_2 l1_2.length c1_2] 58 (0, 0)) (by (repeat apply bkS); exact BK343.out) hb)
       have n3_ := Asd.mk (bkB (g := gb344) (o := .cells #[.int .i64 0, .string (⟨#[]⟩ : ByteArray)] 26 (0, 0)) (by (repeat apply bkS); exact BK344.out) hb)
       have n4_ := Asd.mk (Kbt.trans (by repeat (with_reducible first | exact HK.out | apply Kbt.set_ | apply kpX | refine kpF ?_ GW343.out _ | refine kpF ?_ GW344.out _)) (Kbt.of_below hb g none) (.inl rfl))
       have n5_ := Asd.mk (bwP (by repeat (with_reducible first | exact HB.out | apply bwX | refine bwS ?_ (Iz.ge HI0.out) | refine bwS ?_ GE343.out | refine bwS ?_ GE344.out)) hb)
       have n6_ := Asd.mk (hbox)
       have n7_ := Asd.mk ((by rw [hg]; exact (kpZ (w := w) (g := g) (row := none) (by repeat (with_reducible first | exact HK.out | apply Kbt.set_ | apply kpX | refine kpF ?_ GW343.out _ | refine kpF ?_ GW344.out _))) : w.heap.size ≤ gb353))
       have n8_ := Asd.mk ((Nat.le_trans HW0.out (by rw [hg]; exact (kpZ (w := w) (g := g) (row := none) (by repeat (with_reducible first | exact HK.out | apply Kbt.set_ | apply kpX | refine kpF ?_ GW343.out _ | refine kpF ?_ GW344.out _))) : w.heap.size ≤ gb353) : w0.heap.size ≤ gb353))
       have n9_ := Asd.mk ((by rw [hg]; exact Nat.ne_of_lt (bkL (g := gb343) (o := .cells #[.int .i64 a1_0, .slice A1_1 l1_1.length c1_1, .slice A1_2 l1_2.length c1_2] 58 (0, 0)) (by (repeat apply bkS); exact BK343.out)) : gb343 ≠ gb353))
       have n10_ := Asd.mk ((by rw [hg]; exact Nat.ne_of_gt (bkL (g := gb343) (o := .cells #[.int .i64 a1_0, .slice A1_1 l1_1.length c1_1, .slice A1_2 l1_2.length c1_2] 58 (0, 0)) (by (repeat apply bkS); exact BK343.out)) : gb353 ≠ gb343))
       have n11_ := Asd.mk ((by rw [hg]; exact Nat.ne_of_lt (bkL (g := gb344) (o := .cells #[.int .i64 0, .string (⟨#[]⟩ : ByteArray)] 26 (0, 0)) (by (repeat apply bkS); exact BK344.out)) : gb344 ≠ gb353))
       have n12_ := Asd.mk ((by rw [hg]; exact Nat.ne_of_gt (bkL (g := gb344) (o := .cells #[.int .i64 0, .string (⟨#[]⟩ : ByteArray)] 26 (0, 0)) (by (repeat apply bkS); exact BK344.out)) : gb353 ≠ gb344))
       have n13_ := Asd.mk ((by rw [hg]; exact Nat.ne_of_lt (Iz.lt (show Iz w0 _ g s0_0 t349 from by repeat (with_reducible first | exact HI0.out | refine Iz.below ?_ StB.b | apply Iz.set_1 | refine Iz.far ?_ aX _))) : g ≠ gb353))
       have n14_ := Asd.mk ((by rw [hg]; exact Nat.ne_of_gt (Iz.lt (show Iz w0 _ g s0_0 t349 from by repeat (with_reducible first | exact HI0.out | refine Iz.below ?_ StB.b | apply Iz.set_1 | refine Iz.far ?_ aX _))) : gb353 ≠ g))
       clear HO347
       clear HI0
       clear BK343
       clear BK344
       clear HK
       clear HB
       have HO347 := n0_
       have HI0 := n1_
       have BK343 := n2_
       have BK344 := n3_
       have HK := n4_
       have HB := n5_
       have BK353 := n6_
       have GW353 := n7_
       have GE353 := n8_
       have NB343_353 := n9_
       have NB353_343 := n10_
       have NB344_353 := n11_
       have NB353_344 := n12_
       have NB0_353 := n13_
       have NB353_0 := n14_
       clear n0_ n1_ n2_ n3_ n4_ n5_ n6_ n7_ n8_ n9_ n10_ n11_ n12_ n13_ n14_
       clear hb hbox hg
       refine hK.out _ _ trivial (fun hHeld => ?_)
       clear hK K
       refine norm_ (a' := ?_) ?_ ?_
       rotate_left
       ·show Act.put _ (some 5) _ = _
        simp only [Act.put, qA, qB, qC, i64_w, i32_w]
        rfl
       exact norm_ (by simp only [putAll, Act.put, qA, qB, qC]; first | done | rfl) (hJ0_2_4_11 (.slice (some adz_v346) y345.length co19, adz_v346, gb353) _ ⟨(by (repeat apply Kd.RS); exact HO347.out), ⟨_, rfl⟩, (by (repeat apply bkS); exact BK343.out), (by (repeat apply bkS); exact BK344.out), (by (repeat apply bkS); exact BK353.out), GW353.out, GE353.out, NB0_353.out, NB353_0.out, NB343_353.out, NB353_343.out, NB344_353.out, NB353_344.out, (by repeat (with_reducible first | exact HI0.out | refine Iz.below ?_ StB.b | apply Iz.set_1 | refine Iz.far ?_ aX _)), (by repeat (with_reducible first | exact HK.out | apply Kbt.set_ | apply kpX | refine kpF ?_ GW343.out _ | refine kpF ?_ GW344.out _ | refine kpF ?_ GW353.out _)), (by repeat (with_reducible first | exact HB.out | apply bwX | refine bwS ?_ (Iz.ge HI0.out) | refine bwS ?_ GE343.out | refine bwS ?_ GE344.out | refine bwS ?_ GE353.out))⟩)
    ·skip
     rintro ⟨v346, adz_v346, gb353⟩ w20 ⟨h0_, h1_, h2_, h3_, h4_, h5_, h6_, h7_, h8_, h9_, h10_, h11_, h12_, h13_, h14_, h15_⟩
     have n0_ : Asd (Kd.R (Kd.int .i64) 3 w20 w.heap.size (fun _ => True) v346 y345) := ⟨h0_⟩
     have n1_ : Asd (∃ c_, (v346 : Value) = .slice (some adz_v346) y345.length c_) := ⟨h1_⟩
     have n2_ : Asd (w20.heap[gb343]? = some (.cells #[.int .i64 a1_0, .slice A1_1 l1_1.length c1_1, .slice A1_2 l1_2.length c1_2] 58 (0, 0))) := ⟨h2_⟩
     have n3_ : Asd (w20.heap[gb344]? = some (.cells #[.int .i64 0, .string (⟨#[]⟩ : ByteArray)] 26 (0, 0))) := ⟨h3_⟩
     have n4_ : Asd (w20.heap[gb353]? = some (.cells #[.int .i64 0, .string (⟨#[]⟩ : ByteArray)] 26 (0, 0))) := ⟨h4_⟩
     have n5_ : Asd (w.heap.size ≤ gb353) := ⟨h5_⟩
     have n6_ : Asd (w0.heap.size ≤ gb353) := ⟨h6_⟩
     have n7_ : Asd (g ≠ gb353) := ⟨h7_⟩
     have n8_ : Asd (gb353 ≠ g) := ⟨h8_⟩
     have n9_ : Asd (gb343 ≠ gb353) := ⟨h9_⟩
     have n10_ : Asd (gb353 ≠ gb343) := ⟨h10_⟩
     have n11_ : Asd (gb344 ≠ gb353) := ⟨h11_⟩
     have n12_ : Asd (gb353 ≠ gb344) := ⟨h12_⟩
     have n13_ : Asd (Iz w0 w20 g s0_0 t352) := ⟨h13_⟩
     have n14_ : Asd (Kbt w w20 g none) := ⟨h14_⟩
     have n15_ : Asd (Below w0.heap.size w0 w20) := ⟨h15_⟩
     clear BK343
     clear BK344
     clear HI0
     clear HK
     clear HB
     clear h0_ h1_ h2_ h3_ h4_ h5_ h6_ h7_ h8_ h9_ h10_ h11_ h12_ h13_ h14_ h15_
     have HO347 := n0_
     have HA_HO347 := n1_
     have BK343 := n2_
     have BK344 := n3_
     have BK353 := n4_
     have GW353 := n5_
     have GE353 := n6_
     have NB0_353 := n7_
     have NB353_0 := n8_
     have NB343_353 := n9_
     have NB353_343 := n10_
     have NB344_353 := n11_
     have NB353_344 := n12_
     have HI0 := n13_
     have HK := n14_
     have HB := n15_
     clear n0_ n1_ n2_ n3_ n4_ n5_ n6_ n7_ n8_ n9_ n10_ n11_ n12_ n13_ n14_ n15_
     have hHeld := trivial
     obtain ⟨co21, eo21⟩ := HA_HO347.out
     clear HA_HO347
     subst eo21
     refine norm_ (a' := ?_) ?_ ?_
     rotate_left
     ·simp only [putAll, Act.put, qA, qB, qC]
      rfl
     refine one_ (i := 4) (N := some 10) #[true, true, true, true, true, true, true, true, true, false, false, true, false] rfl rfl (one_of HT_.out (by kernel_rfl)) (by decide) (fun K hK => ?_)
     (have p350 : 0 ≤ (t348 : Int) := odt; have q350 : t348 < (y345.length : Int) := odt; obtain ⟨ad350, e350, hx350_0⟩ := Kd.at_int (Kd.R_reads' HO347.out).2.2 t348 p350 q350; obtain rfl : adz_v346 = ad350 := (by injection e350))
     refine value_ (w1 := ?_) (v := ?_) (by rfl) rfl ?_ ?_
     rotate_left 2
     ·go_simp
      constructor
      ·rfl
      ·rfl
     clear hx350_0
     refine hK.out _ _ trivial (fun hHeld => ?_)
     clear hK K
     refine norm_ (a' := ?_) ?_ ?_
     rotate_left
     ·show Act.put _ (some 10) _ = _
      simp only [Act.put, qA, qB, qC, i64_w, i32_w]
      rfl
     refine pure_ (i := 9) (N := some 15) (v := ?_) (a' := ?_) #[true, true, true, true, true, true, true, true, true, true, false, true, false] rfl rfl (any_of HT_.out (by kernel_rfl)) (fun _ _ _ h => h) (Or.inl ⟨by rfl, ?_⟩) ?_ ?_
     rotate_left
     ·intro w'
      go_simp
      with_reducible rfl
     rotate_left
     ·simp only [Act.put, qA, qB, qC, i64_w, i32_w]
      rfl
     refine pure_ (i := 10) (N := some 16) (v := ?_) (a' := ?_) #[true, true, true, true, true, true, true, true, true, true, true, true, false] rfl rfl (any_of HT_.out (by kernel_rfl)) (fun _ _ _ h => h) (Or.inl ⟨by rfl, ?_⟩) ?_ ?_
     rotate_left
     ·intro w'
      go_simp
      with_reducible rfl
     rotate_left
     ·simp only [Act.put, qA, qB, qC, i64_w, i32_w]
      rfl
     exact norm_ (by simp only [putAll, Act.put, qA, qB, qC]; first | done | rfl) (hJ0_2_4_6_11 (.slice (some adz_v346) y345.length co21, adz_v346, gb353) _ ⟨(by (repeat apply Kd.RS); exact HO347.out), ⟨_, rfl⟩, (by (repeat apply bkS); exact BK343.out), (by (repeat apply bkS); exact BK344.out), (by (repeat apply bkS); exact BK353.out), GW353.out, GE353.out, NB0_353.out, NB353_0.out, NB343_353.out, NB353_343.out, NB344_353.out, NB353_344.out, (by repeat (with_reducible first | exact HI0.out | refine Iz.below ?_ StB.b | apply Iz.set_1 | refine Iz.far ?_ aX _)), (by repeat (with_reducible first | exact HK.out | apply Kbt.set_ | apply kpX | refine kpF ?_ GW343.out _ | refine kpF ?_ GW344.out _ | refine kpF ?_ GW353.out _)), (by repeat (with_reducible first | exact HB.out | apply bwX | refine bwS ?_ (Iz.ge HI0.out) | refine bwS ?_ GE343.out | refine bwS ?_ GE344.out | refine bwS ?_ GE353.out))⟩)
   ·skip
    rintro ⟨v346, adz_v346, gb353⟩ w19 ⟨h0_, h1_, h2_, h3_, h4_, h5_, h6_, h7_, h8_, h9_, h10_, h11_, h12_, h13_, h14_, h15_⟩
    have n0_ : Asd (Kd.R (Kd.int .i64) 3 w19 w.heap.size (fun _ => True) v346 y345) := ⟨h0_⟩
    have n1_ : Asd (∃ c_, (v346 : Value) = .slice (some adz_v346) y345.length c_) := ⟨h1_⟩
    have n2_ : Asd (w19.heap[gb343]? = some (.cells #[.int .i64 a1_0, .slice A1_1 l1_1.length c1_1, .slice A1_2 l1_2.length c1_2] 58 (0, 0))) := ⟨h2_⟩
    have n3_ : Asd (w19.heap[gb344]? = some (.cells #[.int .i64 0, .string (⟨#[]⟩ : ByteArray)] 26 (0, 0))) := ⟨h3_⟩
    have n4_ : Asd (w19.heap[gb353]? = some (.cells #[.int .i64 0, .string (⟨#[]⟩ : ByteArray)] 26 (0, 0))) := ⟨h4_⟩
    have n5_ : Asd (w.heap.size ≤ gb353) := ⟨h5_⟩
    have n6_ : Asd (w0.heap.size ≤ gb353) := ⟨h6_⟩
    have n7_ : Asd (g ≠ gb353) := ⟨h7_⟩
    have n8_ : Asd (gb353 ≠ g) := ⟨h8_⟩
    have n9_ : Asd (gb343 ≠ gb353) := ⟨h9_⟩
    have n10_ : Asd (gb353 ≠ gb343) := ⟨h10_⟩
    have n11_ : Asd (gb344 ≠ gb353) := ⟨h11_⟩
    have n12_ : Asd (gb353 ≠ gb344) := ⟨h12_⟩
    have n13_ : Asd (Iz w0 w19 g s0_0 t349) := ⟨h13_⟩
    have n14_ : Asd (Kbt w w19 g none) := ⟨h14_⟩
    have n15_ : Asd (Below w0.heap.size w0 w19) := ⟨h15_⟩
    clear BK343
    clear BK344
    clear HI0
    clear HK
    clear HB
    clear h0_ h1_ h2_ h3_ h4_ h5_ h6_ h7_ h8_ h9_ h10_ h11_ h12_ h13_ h14_ h15_
    have HO347 := n0_
    have HA_HO347 := n1_
    have BK343 := n2_
    have BK344 := n3_
    have BK353 := n4_
    have GW353 := n5_
    have GE353 := n6_
    have NB0_353 := n7_
    have NB353_0 := n8_
    have NB343_353 := n9_
    have NB353_343 := n10_
    have NB344_353 := n11_
    have NB353_344 := n12_
    have HI0 := n13_
    have HK := n14_
    have HB := n15_
    clear n0_ n1_ n2_ n3_ n4_ n5_ n6_ n7_ n8_ n9_ n10_ n11_ n12_ n13_ n14_ n15_
    have hHeld := trivial
    obtain ⟨co20, eo20⟩ := HA_HO347.out
    clear HA_HO347
    subst eo20
    refine norm_ (a' := ?_) ?_ ?_
    rotate_left
    ·simp only [putAll, Act.put, qA, qB, qC]
     rfl
    refine one_ (i := 6) (N := some 12) #[true, true, true, true, true, true, true, false, false, false, false, true, false] rfl rfl (one_of HT_.out (by kernel_rfl)) (by decide) (fun K hK => ?_)
    refine goes_ Try.func82 (by kernel_rfl) rfl #[.pointer (some ⟨g, 0, none⟩), .int .i64 60] (by rfl) rfl rfl (by (try simp only [List.map_toArray, List.map_cons, List.map_nil]); first | done | rfl | (simp only [List.length_drop, List.length_take]; rfl)) ?_
    with_reducible refine (spec_l20Rd_pick.calls k g s0_0 t349 60 t351 t352 w0 _ ?side1 ?side2 A6.out).mono ?_
    (case side1 => repeat (with_reducible first | exact HI0.out | refine Iz.below ?_ StB.b | apply Iz.set_1 | refine Iz.far ?_ aX _))
    (case side2 => repeat (with_reducible first | exact HB.out | apply bwX | refine bwS ?_ (Iz.ge HI0.out) | refine bwS ?_ GE343.out | refine bwS ?_ GE344.out | refine bwS ?_ GE353.out))
    rintro e w21 ⟨rfl, hi, hb, hk⟩
    refine ⟨_, rfl, ?_⟩
    have n0_ := Asd.mk (Kbt.blk hk (g' := gb343) (o := .cells #[.int .i64 a1_0, .slice A1_1 l1_1.length c1_1, .slice A1_2 l1_2.length c1_2] 58 (0, 0)) (by (repeat apply bkS); exact BK343.out) NB343_0.out (by simp))
    have n1_ := Asd.mk (Kbt.blk hk (g' := gb344) (o := .cells #[.int .i64 0, .string (⟨#[]⟩ : ByteArray)] 26 (0, 0)) (by (repeat apply bkS); exact BK344.out) NB344_0.out (by simp))
    have n2_ := Asd.mk (Kd.R_mono (Kd.R_keep (Iz.apart (show Iz w0 _ g s0_0 t349 from by repeat (with_reducible first | exact HI0.out | refine Iz.below ?_ StB.b | apply Iz.set_1 | refine Iz.far ?_ aX _)) (by (repeat apply Kd.RS); exact HO347.out) (by decide)) hk (fun _ h => h.2)) (fun _ h => h.1))
    have n3_ := Asd.mk (Kbt.blk hk (g' := gb353) (o := .cells #[.int .i64 0, .string (⟨#[]⟩ : ByteArray)] 26 (0, 0)) (by (repeat apply bkS); exact BK353.out) NB353_0.out (by simp))
    have n4_ := Asd.mk (Kbt.trans (by repeat (with_reducible first | exact HK.out | apply Kbt.set_ | apply kpX | refine kpF ?_ GW343.out _ | refine kpF ?_ GW344.out _ | refine kpF ?_ GW353.out _)) hk (.inl rfl))
    have n5_ := Asd.mk (hb)
    have n6_ := Asd.mk (hi)
    clear BK343
    clear BK344
    clear HO347
    clear BK353
    clear HK
    clear HB
    clear HI0
    have BK343 := n0_
    have BK344 := n1_
    have HO347 := n2_
    have BK353 := n3_
    have HK := n4_
    have HB := n5_
    have HI0 := n6_
    clear n0_ n1_ n2_ n3_ n4_ n5_ n6_
    (try clear hb)
    (try clear hb2)
    (try clear hk)
    (try clear hi)
    refine hK.out _ _ trivial (fun hHeld => ?_)
    clear hK K
    refine norm_ (a' := ?_) ?_ ?_
    rotate_left
    ·show Act.put _ (some 12) _ = _
     simp only [Act.put, qA, qB, qC, i64_w, i32_w]
     rfl
    refine pure_ (i := 7) (N := some 13) (v := ?_) (a' := ?_) #[true, true, true, true, true, true, true, true, false, false, false, true, false] rfl rfl (any_of HT_.out (by kernel_rfl)) (fun _ _ _ h => h) (Or.inl ⟨by rfl, ?_⟩) ?_ ?_
    rotate_left
    ·intro w'
     go_simp
     with_reducible rfl
    rotate_left
    ·simp only [Act.put, qA, qB, qC, i64_w, i32_w]
     rfl
    refine pure_ (i := 8) (N := some 14) (v := ?_) (a' := ?_) #[true, true, true, true, true, true, true, true, true, false, false, true, false] rfl rfl (any_of HT_.out (by kernel_rfl)) (fun _ _ _ h => h) (Or.inl ⟨by rfl, ?_⟩) ?_ ?_
    rotate_left
    ·intro w'
     go_simp
     with_reducible rfl
    rotate_left
    ·simp only [Act.put, qA, qB, qC, i64_w, i32_w]
     rfl
    refine pure_ (i := 9) (N := some 15) (v := ?_) (a' := ?_) #[true, true, true, true, true, true, true, true, true, true, false, true, false] rfl rfl (any_of HT_.out (by kernel_rfl)) (fun _ _ _ h => h) (Or.inl ⟨by rfl, ?_⟩) ?_ ?_
    rotate_left
    ·intro w'
     go_simp
     with_reducible rfl
    rotate_left
    ·simp only [Act.put, qA, qB, qC, i64_w, i32_w]
     rfl
    refine pure_ (i := 10) (N := some 16) (v := ?_) (a' := ?_) #[true, true, true, true, true, true, true, true, true, true, true, true, false] rfl rfl (any_of HT_.out (by kernel_rfl)) (fun _ _ _ h => h) (Or.inl ⟨by rfl, ?_⟩) ?_ ?_
    rotate_left
    ·intro w'
     go_simp
     with_reducible rfl
    rotate_left
    ·simp only [Act.put, qA, qB, qC, i64_w, i32_w]
     rfl
    exact norm_ (by simp only [putAll, Act.put, qA, qB, qC]; first | done | rfl) (hJ0_2_4_6_11 (.slice (some adz_v346) y345.length co20, adz_v346, gb353) _ ⟨(by (repeat apply Kd.RS); exact HO347.out), ⟨_, rfl⟩, (by (repeat apply bkS); exact BK343.out), (by (repeat apply bkS); exact BK344.out), (by (repeat apply bkS); exact BK353.out), GW353.out, GE353.out, NB0_353.out, NB353_0.out, NB343_353.out, NB353_343.out, NB344_353.out, NB353_344.out, (by repeat (with_reducible first | exact HI0.out | refine Iz.below ?_ StB.b | apply Iz.set_1 | refine Iz.far ?_ aX _)), (by repeat (with_reducible first | exact HK.out | apply Kbt.set_ | apply kpX | refine kpF ?_ GW343.out _ | refine kpF ?_ GW344.out _ | refine kpF ?_ GW353.out _)), (by repeat (with_reducible first | exact HB.out | apply bwX | refine bwS ?_ (Iz.ge HI0.out) | refine bwS ?_ GE343.out | refine bwS ?_ GE344.out | refine bwS ?_ GE353.out))⟩)
  ·skip
   rintro ⟨v346, adz_v346⟩ w19 ⟨h0_, h1_, h2_, h3_, h4_, h5_, h6_⟩
   have n0_ : Asd (Kd.R (Kd.int .i64) 3 w19 w.heap.size (fun _ => True) v346 y345) := ⟨h0_⟩
   have n1_ : Asd (∃ c_, (v346 : Value) = .slice (some adz_v346) y345.length c_) := ⟨h1_⟩
   have n2_ : Asd (w19.heap[gb343]? = some (.cells #[.int .i64 a1_0, .slice A1_1 l1_1.length c1_1, .slice A1_2 l1_2.length c1_2] 58 (0, 0))) := ⟨h2_⟩
   have n3_ : Asd (w19.heap[gb344]? = some (.cells #[.int .i64 0, .string (⟨#[]⟩ : ByteArray)] 26 (0, 0))) := ⟨h3_⟩
   have n4_ : Asd (Iz w0 w19 g s0_0 t352) := ⟨h4_⟩
   have n5_ : Asd (Kbt w w19 g none) := ⟨h5_⟩
   have n6_ : Asd (Below w0.heap.size w0 w19) := ⟨h6_⟩
   clear BK343
   clear BK344
   clear HI0
   clear HK
   clear HB
   clear h0_ h1_ h2_ h3_ h4_ h5_ h6_
   have HO347 := n0_
   have HA_HO347 := n1_
   have BK343 := n2_
   have BK344 := n3_
   have HI0 := n4_
   have HK := n5_
   have HB := n6_
   clear n0_ n1_ n2_ n3_ n4_ n5_ n6_
   have hHeld := trivial
   obtain ⟨co20, eo20⟩ := HA_HO347.out
   clear HA_HO347
   subst eo20
   refine norm_ (a' := ?_) ?_ ?_
   rotate_left
   ·simp only [putAll, Act.put, qA, qB, qC]
    rfl
   refine one_ (i := 11) (N := some 5) #[true, true, true, true, true, true, true, true, true, true, true, true, false] rfl rfl (one_of HT_.out (by kernel_rfl)) (by decide) (fun K hK => ?_)
   refine box_step ?hg (N := 5) ?hd (cs := #[.int .i64 0, .string (⟨#[]⟩ : ByteArray)]) (t := 26) ?hr ?_; (case hd => rfl); (case hg => rfl); (case hr => first | (go_simp; done) | (go_simp; rfl))
   intro gb353 hg w21 hbox hb
   have n0_ := Asd.mk (Kd.R_below (by (repeat apply Kd.RS); exact HO347.out) hb)
   have n1_ := Asd.mk (Iz.below (by repeat (with_reducible first | exact HI0.out | refine Iz.below ?_ StB.b | apply Iz.set_1 | refine Iz.far ?_ aX _)) hb)
   have n2_ := Asd.mk (bkB (g := gb343) (o := .cells #[.int .i64 a1_0, .slice A1_1 l1_1.length c1_1, .slice A1_2 l1_2.length c1_2] 58 (0, 0)) (by (repeat apply bkS); exact BK343.out) hb)
   have n3_ := Asd.mk (bkB (g := gb344) (o := .cells #[.int .i64 0, .string (⟨#[]⟩ : ByteArray)] 26 (0, 0)) (by (repeat apply bkS); exact BK344.out) hb)
   have n4_ := Asd.mk (Kbt.trans (by repeat (with_reducible first | exact HK.out | apply Kbt.set_ | apply kpX | refine kpF ?_ GW343.out _ | refine kpF ?_ GW344.out _)) (Kbt.of_below hb g none) (.inl rfl))
   have n5_ := Asd.mk (bwP (by repeat (with_reducible first | exact HB.out | apply bwX | refine bwS ?_ (Iz.ge HI0.out) | refine bwS ?_ GE343.out | refine bwS ?_ GE344.out)) hb)
   have n6_ := Asd.mk (hbox)
   have n7_ := Asd.mk ((by rw [hg]; exact (kpZ (w := w) (g := g) (row := none) (by repeat (with_reducible first | exact HK.out | apply Kbt.set_ | apply kpX | refine kpF ?_ GW343.out _ | refine kpF ?_ GW344.out _))) : w.heap.size ≤ gb353))
   have n8_ := Asd.mk ((Nat.le_trans HW0.out (by rw [hg]; exact (kpZ (w := w) (g := g) (row := none) (by repeat (with_reducible first | exact HK.out | apply Kbt.set_ | apply kpX | refine kpF ?_ GW343.out _ | refine kpF ?_ GW344.out _))) : w.heap.size ≤ gb353) : w0.heap.size ≤ gb353))
   have n9_ := Asd.mk ((by rw [hg]; exact Nat.ne_of_lt (bkL (g := gb343) (o := .cells #[.int .i64 a1_0, .slice A1_1 l1_1.length c1_1, .slice A1_2 l1_2.length c1_2] 58 (0, 0)) (by (repeat apply bkS); exact BK343.out)) : gb343 ≠ gb353))
   have n10_ := Asd.mk ((by rw [hg]; exact Nat.ne_of_gt (bkL (g := gb343) (o := .cells #[.int .i64 a1_0, .slice A1_1 l1_1.length c1_1, .slice A1_2 l1_2.length c1_2] 58 (0, 0)) (by (repeat apply bkS); exact BK343.out)) : gb353 ≠ gb343))
   have n11_ := Asd.mk ((by rw [hg]; exact Nat.ne_of_lt (bkL (g := gb344) (o := .cells #[.int .i64 0, .string (⟨#[]⟩ : ByteArray)] 26 (0, 0)) (by (repeat apply bkS); exact BK344.out)) : gb344 ≠ gb353))
   have n12_ := Asd.mk ((by rw [hg]; exact Nat.ne_of_gt (bkL (g := gb344) (o := .cells #[.int .i64 0, .string (⟨#[]⟩ : ByteArray)] 26 (0, 0)) (by (repeat apply bkS); exact BK344.out)) : gb353 ≠ gb344))
   have n13_ := Asd.mk ((by rw [hg]; exact Nat.ne_of_lt (Iz.lt (show Iz w0 _ g s0_0 t352 from by repeat (with_reducible first | exact HI0.out | refine Iz.below ?_ StB.b | apply Iz.set_1 | refine Iz.far ?_ aX _))) : g ≠ gb353))
   have n14_ := Asd.mk ((by rw [hg]; exact Nat.ne_of_gt (Iz.lt (show Iz w0 _ g s0_0 t352 from by repeat (with_reducible first | exact HI0.out | refine Iz.below ?_ StB.b | apply Iz.set_1 | refine Iz.far ?_ aX _))) : gb353 ≠ g))
   clear HO347
   clear HI0
   clear BK343
   clear BK344
   clear HK
   clear HB
   have HO347 := n0_
   have HI0 := n1_
   have BK343 := n2_
   have BK344 := n3_
   have HK := n4_
   have HB := n5_
   have BK353 := n6_
   have GW353 := n7_
   have GE353 := n8_
   have NB343_353 := n9_
   have NB353_343 := n10_
   have NB344_353 := n11_
   have NB353_344 := n12_
   have NB0_353 := n13_
   have NB353_0 := n14_
   clear n0_ n1_ n2_ n3_ n4_ n5_ n6_ n7_ n8_ n9_ n10_ n11_ n12_ n13_ n14_
   clear hb hbox hg
   refine hK.out _ _ trivial (fun hHeld => ?_)
   clear hK K
   refine norm_ (a' := ?_) ?_ ?_
   rotate_left
   ·show Act.put _ (some 5) _ = _
    simp only [Act.put, qA, qB, qC, i64_w, i32_w]
    rfl
   exact norm_ (by simp only [putAll, Act.put, qA, qB, qC]; first | done | rfl) (hJ0_2_4_6_11 (.slice (some adz_v346) y345.length co20, adz_v346, gb353) _ ⟨(by (repeat apply Kd.RS); exact HO347.out), ⟨_, rfl⟩, (by (repeat apply bkS); exact BK343.out), (by (repeat apply bkS); exact BK344.out), (by (repeat apply bkS); exact BK353.out), GW353.out, GE353.out, NB0_353.out, NB353_0.out, NB343_353.out, NB353_343.out, NB344_353.out, NB353_344.out, (by repeat (with_reducible first | exact HI0.out | refine Iz.below ?_ StB.b | apply Iz.set_1 | refine Iz.far ?_ aX _)), (by repeat (with_reducible first | exact HK.out | apply Kbt.set_ | apply kpX | refine kpF ?_ GW343.out _ | refine kpF ?_ GW344.out _ | refine kpF ?_ GW353.out _)), (by repeat (with_reducible first | exact HB.out | apply bwX | refine bwS ?_ (Iz.ge HI0.out) | refine bwS ?_ GE343.out | refine bwS ?_ GE344.out | refine bwS ?_ GE353.out))⟩)
 rintro ⟨v346, adz_v346, gb353⟩ w20 ⟨h0_, h1_, h2_, h3_, h4_, h5_, h6_, h7_, h8_, h9_, h10_, h11_, h12_, h13_, h14_, h15_⟩
 have n0_ : Asd (Kd.R (Kd.int .i64) 3 w20 w.heap.size (fun _ => True) v346 y345) := ⟨h0_⟩
 have n1_ : Asd (∃ c_, (v346 : Value) = .slice (some adz_v346) y345.length c_) := ⟨h1_⟩
 have n2_ : Asd (w20.heap[gb343]? = some (.cells #[.int .i64 a1_0, .slice A1_1 l1_1.length c1_1, .slice A1_2 l1_2.length c1_2] 58 (0, 0))) := ⟨h2_⟩
 have n3_ : Asd (w20.heap[gb344]? = some (.cells #[.int .i64 0, .string (⟨#[]⟩ : ByteArray)] 26 (0, 0))) := ⟨h3_⟩
 have n4_ : Asd (w20.heap[gb353]? = some (.cells #[.int .i64 0, .string (⟨#[]⟩ : ByteArray)] 26 (0, 0))) := ⟨h4_⟩
 have n5_ : Asd (w.heap.size ≤ gb353) := ⟨h5_⟩
 have n6_ : Asd (w0.heap.size ≤ gb353) := ⟨h6_⟩
 have n7_ : Asd (g ≠ gb353) := ⟨h7_⟩
 have n8_ : Asd (gb353 ≠ g) := ⟨h8_⟩
 have n9_ : Asd (gb343 ≠ gb353) := ⟨h9_⟩
 have n10_ : Asd (gb353 ≠ gb343) := ⟨h10_⟩
 have n11_ : Asd (gb344 ≠ gb353) := ⟨h11_⟩
 have n12_ : Asd (gb353 ≠ gb344) := ⟨h12_⟩
 have n13_ : Asd (Iz w0 w20 g s0_0 t352) := ⟨h13_⟩
 have n14_ : Asd (Kbt w w20 g none) := ⟨h14_⟩
 have n15_ : Asd (Below w0.heap.size w0 w20) := ⟨h15_⟩
 clear BK343
 clear BK344
 clear HI0
 clear HK
 clear HB
 clear h0_ h1_ h2_ h3_ h4_ h5_ h6_ h7_ h8_ h9_ h10_ h11_ h12_ h13_ h14_ h15_
 have HO347 := n0_
 have HA_HO347 := n1_
 have BK343 := n2_
 have BK344 := n3_
 have BK353 := n4_
 have GW353 := n5_
 have GE353 := n6_
 have NB0_353 := n7_
 have NB353_0 := n8_
 have NB343_353 := n9_
 have NB353_343 := n10_
 have NB344_353 := n11_
 have NB353_344 := n12_
 have HI0 := n13_
 have HK := n14_
 have HB := n15_
 clear n0_ n1_ n2_ n3_ n4_ n5_ n6_ n7_ n8_ n9_ n10_ n11_ n12_ n13_ n14_ n15_
 have hHeld := trivial
 obtain ⟨co21, eo21⟩ := HA_HO347.out
 clear HA_HO347
 subst eo21
 refine norm_ (a' := ?_) ?_ ?_
 rotate_left
 ·simp only [putAll, Act.put, qA, qB, qC]
  rfl
 refine one_ (i := 12) (N := none) #[true, true, true, true, true, true, true, true, true, true, true, true, true] rfl rfl (one_of HT_.out (by kernel_rfl)) (by decide) (fun K hK => ?_)
 have hs22 : w20.cell? ⟨gb353, 0, none⟩ = some (.int .i64 0) := (bkC BK353.out 0).trans rfl
 have hfs22 := bkF BK353.out 0
 have hns22_0 := NB343_353.out
 have hns22_1 := NB344_353.out
 have hms22_0 := NB353_343.out
 have hms22_1 := NB353_344.out
 have hs23 : w20.cell? ⟨gb353, 1, none⟩ = some (.string (⟨#[]⟩ : ByteArray)) := (bkC BK353.out 1).trans rfl
 have hfs23 := bkF BK353.out 1
 have hns23_0 := NB343_353.out
 have hns23_1 := NB344_353.out
 have hms23_0 := NB353_343.out
 have hms23_1 := NB353_344.out
 refine skip_ (w1 := ?_) (by rfl) rfl ?_ ?_
 rotate_left
 ·go_simp
  rfl
 refine hK.out _ _ trivial (fun hHeld => ?_)
 clear hK K
 refine done_ (done_of HT_.out (by kernel_rfl)) ?_
 by_cases c7 : (wrap64 ((rd y345 t348) + (wrap64 ((wrap64 (Int.tdiv t351 59)) * 3)))) = 2
 ·rw [if_pos c7] at H
  have c7b0 : ((wrap64 ((rd y345 t348) + (wrap64 ((wrap64 (Int.tdiv t351 59)) * 3)))) == 2) = true := beq_iff_eq.mpr c7
  have c7b1 : ((wrap64 ((rd y345 t348) + (wrap64 ((wrap64 (Int.tdiv t351 59)) * 3)))) != 2) = false := bne_eq_false_iff_eq.mpr c7
  clear c7
  replace H := Option.bind_eq_some_iff.mp H
  obtain ⟨⟨t354, t355⟩, A80, H⟩ := H
  try dsimp only at H
  have A8 := Asd.mk A80
  clear A80
  by_cases c9 : t354 = true
  ·subst c9
   rw [if_pos rfl] at H
   by_cases c10 : 0 + 1 ≤ 9223372036854775807; rotate_left; (rw [if_neg c10] at H; exact absurd H (by simp))
   rw [if_pos c10] at H
   have c10b0 := eq_true c10
   have c10b1 : decide (0 + 1 ≤ 9223372036854775807) = true := decide_eq_true c10
   try have c10b2 : (9223372036854775807 < 0 + 1) = False := eq_false (Nat.not_lt.2 c10)
   simp only [Option.some.injEq, Prod.mk.injEq] at H
   obtain ⟨rfl, rfl, rfl⟩ := H
   have hnb24 := NB353_343.out
   have hnc24 := NB343_353.out
   have hnb25 := NB353_344.out
   have hnc25 := NB344_353.out
   have hnb26 := NB353_0.out
   have hnc26 := NB0_353.out
   have hcz27_0 : w20.cell? ⟨gb353, 0, none⟩ = some (.int .i64 0) := (bkC BK353.out 0).trans rfl
   have hcz27_1 : w20.cell? ⟨gb353, 1, none⟩ = some (.string (⟨#[]⟩ : ByteArray)) := (bkC BK353.out 1).trans rfl
   have hfz27_0 := bkF BK353.out 0
   have hfz27_1 := bkF BK353.out 1
   try go_wp2_with (first | ((with_reducible refine gate_callee (f := 81) rfl ?_); refine gsM (some 26) rfl rfl Try.func81 (by kernel_rfl) rfl #[.pointer (some ⟨g, 0, none⟩), .int .i64 40] rfl ?_; (with_reducible refine (spec_l20Rd_odd.calls k g s0_0 t352 40 true t355 w0 _ ?side1 ?side2 A8.out).mono ?_); (case side1 => repeat (with_reducible first | exact HI0.out | refine Iz.below ?_ StB.b | apply Iz.set_1 | refine Iz.far ?_ aX _)); (case side2 => repeat (with_reducible first | exact HB.out | apply bwX | refine bwS ?_ (Iz.ge HI0.out) | refine bwS ?_ GE343.out | refine bwS ?_ GE344.out | refine bwS ?_ GE353.out)); rintro e w28 ⟨rfl, hi, hb, hk⟩; refine ⟨_, rfl, ?_⟩; have n0_ := Asd.mk (Kbt.blk hk (g' := gb343) (o := .cells #[.int .i64 a1_0, .slice A1_1 l1_1.length c1_1, .slice A1_2 l1_2.length c1_2] 58 (0, 0)) (by (repeat apply bkS); refine bkR ?_ NB343_353.out _; (repeat apply bkS); refine bkR ?_ NB343_353.out _; (repeat apply bkS); exact BK343.out) NB343_0.out (by simp)); have n1_ := Asd.mk (Kbt.blk hk (g' := gb344) (o := .cells #[.int .i64 0, .string (⟨#[]⟩ : ByteArray)] 26 (0, 0)) (by (repeat apply bkS); refine bkR ?_ NB344_353.out _; (repeat apply bkS); refine bkR ?_ NB344_353.out _; (repeat apply bkS); exact BK344.out) NB344_0.out (by simp)); have n2_ := Asd.mk (Kd.R_mono (Kd.R_keep (Iz.apart (show Iz w0 _ g s0_0 t352 from by repeat (with_reducible first | exact HI0.out | refine Iz.below ?_ StB.b | apply Iz.set_1 | refine Iz.far ?_ aX _)) (by (repeat apply Kd.RS); exact (Kd.R_mono (Kd.R_far (p := ⟨gb353, 1, none⟩) (Kd.R_far (p := ⟨gb353, 0, none⟩) (Kd.R_types HO347.out BK353.out (by decide)) (fun _ hk => hk.2) (.int .i64 (wrap64 ((rd y345 t348) + (wrap64 ((wrap64 (Int.tdiv t351 59)) * 3)))))) (fun _ hk => hk.2) (.string (⟨#[]⟩ : ByteArray))) (fun _ h_ => h_.1))) (by decide)) hk (fun _ h => h.2)) (fun _ h => h.1)); have n3_ := Asd.mk (Kbt.blk hk (g' := gb353) (o := .cells #[.int .i64 (wrap64 ((rd y345 t348) + (wrap64 ((wrap64 (Int.tdiv t351 59)) * 3)))), .string (⟨#[]⟩ : ByteArray)] 26 (0, 0)) (by (repeat apply bkS); refine bkP (cs := #[.int .i64 (wrap64 ((rd y345 t348) + (wrap64 ((wrap64 (Int.tdiv t351 59)) * 3)))), .string (⟨#[]⟩ : ByteArray)]) ?_ 1 _ rfl; (repeat apply bkS); refine bkP (cs := #[.int .i64 0, .string (⟨#[]⟩ : ByteArray)]) ?_ 0 _ rfl; (repeat apply bkS); exact BK353.out) NB353_0.out (by simp)); have n4_ := Asd.mk (Kbt.trans (by repeat (with_reducible first | exact HK.out | apply Kbt.set_ | apply kpX | refine kpF ?_ GW343.out _ | refine kpF ?_ GW344.out _ | refine kpF ?_ GW353.out _)) hk (.inl rfl)); have n5_ := Asd.mk (hb); have n6_ := Asd.mk (hi); clear BK343; clear BK344; clear HO347; clear BK353; clear HK; clear HB; clear HI0; have BK343 := n0_; have BK344 := n1_; have HO347 := n2_; have BK353 := n3_; have HK := n4_; have HB := n5_; have HI0 := n6_; clear n0_ n1_ n2_ n3_ n4_ n5_ n6_; (try clear hb); (try clear hb2); (try clear hk); (try clear hi); have hcz29_0 : w28.cell? ⟨gb353, 0, none⟩ = some (.int .i64 (wrap64 ((rd y345 t348) + (wrap64 ((wrap64 (Int.tdiv t351 59)) * 3))))) := (bkC BK353.out 0).trans rfl; have hcz29_1 : w28.cell? ⟨gb353, 1, none⟩ = some (.string (⟨#[]⟩ : ByteArray)) := (bkC BK353.out 1).trans rfl; have hfz29_0 := bkF BK353.out 0; have hfz29_1 := bkF BK353.out 1; have hnb30 := NB344_343.out; have hnc30 := NB343_344.out; have hnb31 := NB344_0.out; have hnc31 := NB0_344.out; have hcz32_0 : w28.cell? ⟨gb344, 0, none⟩ = some (.int .i64 0) := (bkC BK344.out 0).trans rfl; have hcz32_1 : w28.cell? ⟨gb344, 1, none⟩ = some (.string (⟨#[]⟩ : ByteArray)) := (bkC BK344.out 1).trans rfl; have hfz32_0 := bkF BK344.out 0; have hfz32_1 := bkF BK344.out 1))
   refine bodyPost_ret (results_cell_row rfl _ _ gb344 26 #[.int .i64 (wrap64 ((rd y345 t348) + (wrap64 ((wrap64 (Int.tdiv t351 59)) * 3)))), .string ((⟨#[]⟩ : ByteArray) ++ (⟨#[41]⟩ : ByteArray))] (0, 0) _ rfl (by (repeat apply bkS); refine bkP (cs := #[.int .i64 (wrap64 ((rd y345 t348) + (wrap64 ((wrap64 (Int.tdiv t351 59)) * 3)))), .string (⟨#[]⟩ : ByteArray)]) ?_ 1 _ rfl; (repeat apply bkS); refine bkP (cs := #[.int .i64 0, .string (⟨#[]⟩ : ByteArray)]) ?_ 0 _ rfl; (repeat apply bkS); refine bkR ?_ NB344_353.out _; (repeat apply bkS); exact BK344.out) Try.underlying26 rfl (by kernel_rfl)) rfl ?_
   exact ⟨by first | rfl | (simp [*, errW_none, errW_some] <;> rfl), by repeat (with_reducible first | exact HI0.out | refine Iz.below ?_ StB.b | apply Iz.set_1 | refine Iz.far ?_ aX _), by repeat (with_reducible first | exact HB.out | apply bwX | refine bwS ?_ (Iz.ge HI0.out) | refine bwS ?_ GE343.out | refine bwS ?_ GE344.out | refine bwS ?_ GE353.out), by repeat (with_reducible first | exact HK.out | apply Kbt.set_ | apply kpX | refine kpF ?_ GW343.out _ | refine kpF ?_ GW344.out _ | refine kpF ?_ GW353.out _)⟩
  ·replace c9 := Bool.eq_false_iff.mpr c9
   subst c9
   rw [if_neg (show ¬ (false = true) by decide)] at H
   simp only [Option.some.injEq, Prod.mk.injEq] at H
   obtain ⟨rfl, rfl, rfl⟩ := H
   have hnb46 := NB353_343.out
   have hnc46 := NB343_353.out
   have hnb47 := NB353_344.out
   have hnc47 := NB344_353.out
   have hnb48 := NB353_0.out
   have hnc48 := NB0_353.out
   have hcz49_0 : w20.cell? ⟨gb353, 0, none⟩ = some (.int .i64 0) := (bkC BK353.out 0).trans rfl
   have hcz49_1 : w20.cell? ⟨gb353, 1, none⟩ = some (.string (⟨#[]⟩ : ByteArray)) := (bkC BK353.out 1).trans rfl
   have hfz49_0 := bkF BK353.out 0
   have hfz49_1 := bkF BK353.out 1
   try go_wp2_with (first | ((with_reducible refine gate_callee (f := 81) rfl ?_); refine gsM (some 26) rfl rfl Try.func81 (by kernel_rfl) rfl #[.pointer (some ⟨g, 0, none⟩), .int .i64 40] rfl ?_; (with_reducible refine (spec_l20Rd_odd.calls k g s0_0 t352 40 false t355 w0 _ ?side1 ?side2 A8.out).mono ?_); (case side1 => repeat (with_reducible first | exact HI0.out | refine Iz.below ?_ StB.b | apply Iz.set_1 | refine Iz.far ?_ aX _)); (case side2 => repeat (with_reducible first | exact HB.out | apply bwX | refine bwS ?_ (Iz.ge HI0.out) | refine bwS ?_ GE343.out | refine bwS ?_ GE344.out | refine bwS ?_ GE353.out)); rintro e w50 ⟨rfl, hi, hb, hk⟩; refine ⟨_, rfl, ?_⟩; have n0_ := Asd.mk (Kbt.blk hk (g' := gb343) (o := .cells #[.int .i64 a1_0, .slice A1_1 l1_1.length c1_1, .slice A1_2 l1_2.length c1_2] 58 (0, 0)) (by (repeat apply bkS); refine bkR ?_ NB343_353.out _; (repeat apply bkS); refine bkR ?_ NB343_353.out _; (repeat apply bkS); exact BK343.out) NB343_0.out (by simp)); have n1_ := Asd.mk (Kbt.blk hk (g' := gb344) (o := .cells #[.int .i64 0, .string (⟨#[]⟩ : ByteArray)] 26 (0, 0)) (by (repeat apply bkS); refine bkR ?_ NB344_353.out _; (repeat apply bkS); refine bkR ?_ NB344_353.out _; (repeat apply bkS); exact BK344.out) NB344_0.out (by simp)); have n2_ := Asd.mk (Kd.R_mono (Kd.R_keep (Iz.apart (show Iz w0 _ g s0_0 t352 from by repeat (with_reducible first | exact HI0.out | refine Iz.below ?_ StB.b | apply Iz.set_1 | refine Iz.far ?_ aX _)) (by (repeat apply Kd.RS); exact (Kd.R_mono (Kd.R_far (p := ⟨gb353, 1, none⟩) (Kd.R_far (p := ⟨gb353, 0, none⟩) (Kd.R_types HO347.out BK353.out (by decide)) (fun _ hk => hk.2) (.int .i64 (wrap64 ((rd y345 t348) + (wrap64 ((wrap64 (Int.tdiv t351 59)) * 3)))))) (fun _ hk => hk.2) (.string (⟨#[]⟩ : ByteArray))) (fun _ h_ => h_.1))) (by decide)) hk (fun _ h => h.2)) (fun _ h => h.1)); have n3_ := Asd.mk (Kbt.blk hk (g' := gb353) (o := .cells #[.int .i64 (wrap64 ((rd y345 t348) + (wrap64 ((wrap64 (Int.tdiv t351 59)) * 3)))), .string (⟨#[]⟩ : ByteArray)] 26 (0, 0)) (by (repeat apply bkS); refine bkP (cs := #[.int .i64 (wrap64 ((rd y345 t348) + (wrap64 ((wrap64 (Int.tdiv t351 59)) * 3)))), .string (⟨#[]⟩ : ByteArray)]) ?_ 1 _ rfl; (repeat apply bkS); refine bkP (cs := #[.int .i64 0, .string (⟨#[]⟩ : ByteArray)]) ?_ 0 _ rfl; (repeat apply bkS); exact BK353.out) NB353_0.out (by simp)); have n4_ := Asd.mk (Kbt.trans (by repeat (with_reducible first | exact HK.out | apply Kbt.set_ | apply kpX | refine kpF ?_ GW343.out _ | refine kpF ?_ GW344.out _ | refine kpF ?_ GW353.out _)) hk (.inl rfl)); have n5_ := Asd.mk (hb); have n6_ := Asd.mk (hi); clear BK343; clear BK344; clear HO347; clear BK353; clear HK; clear HB; clear HI0; have BK343 := n0_; have BK344 := n1_; have HO347 := n2_; have BK353 := n3_; have HK := n4_; have HB := n5_; have HI0 := n6_; clear n0_ n1_ n2_ n3_ n4_ n5_ n6_; (try clear hb); (try clear hb2); (try clear hk); (try clear hi); have hcz51_0 : w50.cell? ⟨gb353, 0, none⟩ = some (.int .i64 (wrap64 ((rd y345 t348) + (wrap64 ((wrap64 (Int.tdiv t351 59)) * 3))))) := (bkC BK353.out 0).trans rfl; have hcz51_1 : w50.cell? ⟨gb353, 1, none⟩ = some (.string (⟨#[]⟩ : ByteArray)) := (bkC BK353.out 1).trans rfl; have hfz51_0 := bkF BK353.out 0; have hfz51_1 := bkF BK353.out 1; have hnb52 := NB344_343.out; have hnc52 := NB343_344.out; have hnb53 := NB344_0.out; have hnc53 := NB0_344.out; have hcz54_0 : w50.cell? ⟨gb344, 0, none⟩ = some (.int .i64 0) := (bkC BK344.out 0).trans rfl; have hcz54_1 : w50.cell? ⟨gb344, 1, none⟩ = some (.string (⟨#[]⟩ : ByteArray)) := (bkC BK344.out 1).trans rfl; have hfz54_0 := bkF BK344.out 0; have hfz54_1 := bkF BK344.out 1))
   refine bodyPost_ret (results_cell_row rfl _ _ gb344 26 #[.int .i64 (wrap64 ((rd y345 t348) + (wrap64 ((wrap64 (Int.tdiv t351 59)) * 3)))), .string (⟨#[]⟩ : ByteArray)] (0, 0) _ rfl (by (repeat apply bkS); refine bkP (cs := #[.int .i64 (wrap64 ((rd y345 t348) + (wrap64 ((wrap64 (Int.tdiv t351 59)) * 3)))), .string (⟨#[]⟩ : ByteArray)]) ?_ 1 _ rfl; (repeat apply bkS); refine bkP (cs := #[.int .i64 0, .string (⟨#[]⟩ : ByteArray)]) ?_ 0 _ rfl; (repeat apply bkS); exact BK344.out) Try.underlying26 rfl (by kernel_rfl)) rfl ?_
   exact ⟨by first | rfl | (simp [*, errW_none, errW_some] <;> rfl), by repeat (with_reducible first | exact HI0.out | refine Iz.below ?_ StB.b | apply Iz.set_1 | refine Iz.far ?_ aX _), by repeat (with_reducible first | exact HB.out | apply bwX | refine bwS ?_ (Iz.ge HI0.out) | refine bwS ?_ GE343.out | refine bwS ?_ GE344.out | refine bwS ?_ GE353.out), by repeat (with_reducible first | exact HK.out | apply Kbt.set_ | apply kpX | refine kpF ?_ GW343.out _ | refine kpF ?_ GW344.out _ | refine kpF ?_ GW353.out _)⟩
 ·rw [if_neg c7] at H
  have c7b0 : ((wrap64 ((rd y345 t348) + (wrap64 ((wrap64 (Int.tdiv t351 59)) * 3)))) == 2) = false := beq_eq_false_iff_ne.mpr c7
  have c7b1 : ((wrap64 ((rd y345 t348) + (wrap64 ((wrap64 (Int.tdiv t351 59)) * 3)))) != 2) = true := bne_iff_ne.mpr c7
  replace H := Option.bind_eq_some_iff.mp H
  obtain ⟨⟨t356, t357⟩, A550, H⟩ := H
  try dsimp only at H
  have A55 := Asd.mk A550
  clear A550
  replace H := Option.bind_eq_some_iff.mp H
  obtain ⟨⟨t358, t359⟩, A560, H⟩ := H
  try dsimp only at H
  have A56 := Asd.mk A560
  clear A560
  by_cases c57 : t358 = true
  ·subst c57
   rw [if_pos rfl] at H
   by_cases c58 : t356.size + 1 ≤ 9223372036854775807; rotate_left; (rw [if_neg c58] at H; exact absurd H (by simp))
   rw [if_pos c58] at H
   have c58b0 := eq_true c58
   have c58b1 : decide (t356.size + 1 ≤ 9223372036854775807) = true := decide_eq_true c58
   try have c58b2 : (9223372036854775807 < t356.size + 1) = False := eq_false (Nat.not_lt.2 c58)
   simp only [Option.some.injEq, Prod.mk.injEq] at H
   obtain ⟨rfl, rfl, rfl⟩ := H
   have hnb72 := NB353_343.out
   have hnc72 := NB343_353.out
   have hnb73 := NB353_344.out
   have hnc73 := NB344_353.out
   have hnb74 := NB353_0.out
   have hnc74 := NB0_353.out
   have hcz75_0 : w20.cell? ⟨gb353, 0, none⟩ = some (.int .i64 0) := (bkC BK353.out 0).trans rfl
   have hcz75_1 : w20.cell? ⟨gb353, 1, none⟩ = some (.string (⟨#[]⟩ : ByteArray)) := (bkC BK353.out 1).trans rfl
   have hfz75_0 := bkF BK353.out 0
   have hfz75_1 := bkF BK353.out 1
   have hnb76 := NB343_344.out
   have hnc76 := NB344_343.out
   have hnb77 := NB343_0.out
   have hnc77 := NB0_343.out
   have hcz78_0 : w20.cell? ⟨gb343, 0, none⟩ = some (.int .i64 a1_0) := (bkC BK343.out 0).trans rfl
   have hcz78_1 : w20.cell? ⟨gb343, 1, none⟩ = some (.slice A1_1 l1_1.length c1_1) := (bkC BK343.out 1).trans rfl
   have hcz78_2 : w20.cell? ⟨gb343, 2, none⟩ = some (.slice A1_2 l1_2.length c1_2) := (bkC BK343.out 2).trans rfl
   have hfz78_0 := bkF BK343.out 0
   have hfz78_1 := bkF BK343.out 1
   have hfz78_2 := bkF BK343.out 2
   try go_wp2_with (first | ((with_reducible refine gate_callee (f := 80) rfl ?_); refine gsM (some 23) rfl rfl Try.func80 (by kernel_rfl) rfl #[.pointer (some ⟨g, 0, none⟩), .int .i64 a1_0, .int .i64 2] rfl ?_; (with_reducible refine (spec_l20Sentence.calls k g s0_0 t352 a1_0 2 t356 t357 w0 _ ?side1 ?side2 A55.out).mono ?_); (case side1 => repeat (with_reducible first | exact HI0.out | refine Iz.below ?_ StB.b | apply Iz.set_1 | refine Iz.far ?_ aX _)); (case side2 => repeat (with_reducible first | exact HB.out | apply bwX | refine bwS ?_ (Iz.ge HI0.out) | refine bwS ?_ GE343.out | refine bwS ?_ GE344.out | refine bwS ?_ GE353.out)); rintro e w79 ⟨rfl, hi, hb, hk⟩; refine ⟨_, rfl, ?_⟩; have n0_ := Asd.mk (Kbt.blk hk (g' := gb343) (o := .cells #[.int .i64 a1_0, .slice A1_1 l1_1.length c1_1, .slice A1_2 l1_2.length c1_2] 58 (0, 0)) (by (repeat apply bkS); refine bkR ?_ NB343_353.out _; (repeat apply bkS); refine bkR ?_ NB343_353.out _; (repeat apply bkS); exact BK343.out) NB343_0.out (by simp)); have n1_ := Asd.mk (Kbt.blk hk (g' := gb344) (o := .cells #[.int .i64 0, .string (⟨#[]⟩ : ByteArray)] 26 (0, 0)) (by (repeat apply bkS); refine bkR ?_ NB344_353.out _; (repeat apply bkS); refine bkR ?_ NB344_353.out _; (repeat apply bkS); exact BK344.out) NB344_0.out (by simp)); have n2_ := Asd.mk (Kd.R_mono (Kd.R_keep (Iz.apart (show Iz w0 _ g s0_0 t352 from by repeat (with_reducible first | exact HI0.out | refine Iz.below ?_ StB.b | apply Iz.set_1 | refine Iz.far ?_ aX _)) (by (repeat apply Kd.RS); exact (Kd.R_mono (Kd.R_far (p := ⟨gb353, 1, none⟩) (Kd.R_far (p := ⟨gb353, 0, none⟩) (Kd.R_types HO347.out BK353.out (by decide)) (fun _ hk => hk.2) (.int .i64 (wrap64 ((rd y345 t348) + (wrap64 ((wrap64 (Int.tdiv t351 59)) * 3)))))) (fun _ hk => hk.2) (.string (⟨#[]⟩ : ByteArray))) (fun _ h_ => h_.1))) (by decide)) hk (fun _ h => h.2)) (fun _ h => h.1)); have n3_ := Asd.mk (Kbt.blk hk (g' := gb353) (o := .cells #[.int .i64 (wrap64 ((rd y345 t348) + (wrap64 ((wrap64 (Int.tdiv t351 59)) * 3)))), .string (⟨#[]⟩ : ByteArray)] 26 (0, 0)) (by (repeat apply bkS); refine bkP (cs := #[.int .i64 (wrap64 ((rd y345 t348) + (wrap64 ((wrap64 (Int.tdiv t351 59)) * 3)))), .string (⟨#[]⟩ : ByteArray)]) ?_ 1 _ rfl; (repeat apply bkS); refine bkP (cs := #[.int .i64 0, .string (⟨#[]⟩ : ByteArray)]) ?_ 0 _ rfl; (repeat apply bkS); exact BK353.out) NB353_0.out (by simp)); have n4_ := Asd.mk (Kbt.trans (by repeat (with_reducible first | exact HK.out | apply Kbt.set_ | apply kpX | refine kpF ?_ GW343.out _ | refine kpF ?_ GW344.out _ | refine kpF ?_ GW353.out _)) hk (.inl rfl)); have n5_ := Asd.mk (hb); have n6_ := Asd.mk (hi); clear BK343; clear BK344; clear HO347; clear BK353; clear HK; clear HB; clear HI0; have BK343 := n0_; have BK344 := n1_; have HO347 := n2_; have BK353 := n3_; have HK := n4_; have HB := n5_; have HI0 := n6_; clear n0_ n1_ n2_ n3_ n4_ n5_ n6_; (try clear hb); (try clear hb2); (try clear hk); (try clear hi); have hcz80_0 : w79.cell? ⟨gb353, 0, none⟩ = some (.int .i64 (wrap64 ((rd y345 t348) + (wrap64 ((wrap64 (Int.tdiv t351 59)) * 3))))) := (bkC BK353.out 0).trans rfl; have hcz80_1 : w79.cell? ⟨gb353, 1, none⟩ = some (.string (⟨#[]⟩ : ByteArray)) := (bkC BK353.out 1).trans rfl; have hfz80_0 := bkF BK353.out 0; have hfz80_1 := bkF BK353.out 1) | ((with_reducible refine gate_callee (f := 81) rfl ?_); refine gsM (some 26) rfl rfl Try.func81 (by kernel_rfl) rfl #[.pointer (some ⟨g, 0, none⟩), .int .i64 40] rfl ?_; (with_reducible refine (spec_l20Rd_odd.calls k g s0_0 t357 40 true t359 w0 _ ?side1 ?side2 A56.out).mono ?_); (case side1 => repeat (with_reducible first | exact HI0.out | refine Iz.below ?_ StB.b | apply Iz.set_1 | refine Iz.far ?_ aX _)); (case side2 => repeat (with_reducible first | exact HB.out | apply bwX | refine bwS ?_ (Iz.ge HI0.out) | refine bwS ?_ GE343.out | refine bwS ?_ GE344.out | refine bwS ?_ GE353.out)); rintro e w81 ⟨rfl, hi, hb, hk⟩; refine ⟨_, rfl, ?_⟩; have n0_ := Asd.mk (Kbt.blk hk (g' := gb343) (o := .cells #[.int .i64 a1_0, .slice A1_1 l1_1.length c1_1, .slice A1_2 l1_2.length c1_2] 58 (0, 0)) (by (repeat apply bkS); refine bkR ?_ NB343_353.out _; (repeat apply bkS); exact BK343.out) NB343_0.out (by simp)); have n1_ := Asd.mk (Kbt.blk hk (g' := gb344) (o := .cells #[.int .i64 0, .string (⟨#[]⟩ : ByteArray)] 26 (0, 0)) (by (repeat apply bkS); refine bkR ?_ NB344_353.out _; (repeat apply bkS); exact BK344.out) NB344_0.out (by simp)); have n2_ := Asd.mk (Kd.R_mono (Kd.R_keep (Iz.apart (show Iz w0 _ g s0_0 t357 from by repeat (with_reducible first | exact HI0.out | refine Iz.below ?_ StB.b | apply Iz.set_1 | refine Iz.far ?_ aX _)) (by (repeat apply Kd.RS); exact (Kd.R_mono (Kd.R_far (p := ⟨gb353, 1, none⟩) (Kd.R_types HO347.out BK353.out (by decide)) (fun _ hk => hk.2) (.string t356)) (fun _ h_ => h_.1))) (by decide)) hk (fun _ h => h.2)) (fun _ h => h.1)); have n3_ := Asd.mk (Kbt.blk hk (g' := gb353) (o := .cells #[.int .i64 (wrap64 ((rd y345 t348) + (wrap64 ((wrap64 (Int.tdiv t351 59)) * 3)))), .string t356] 26 (0, 0)) (by (repeat apply bkS); refine bkP (cs := #[.int .i64 (wrap64 ((rd y345 t348) + (wrap64 ((wrap64 (Int.tdiv t351 59)) * 3)))), .string (⟨#[]⟩ : ByteArray)]) ?_ 1 _ rfl; (repeat apply bkS); exact BK353.out) NB353_0.out (by simp)); have n4_ := Asd.mk (Kbt.trans (by repeat (with_reducible first | exact HK.out | apply Kbt.set_ | apply kpX | refine kpF ?_ GW343.out _ | refine kpF ?_ GW344.out _ | refine kpF ?_ GW353.out _)) hk (.inl rfl)); have n5_ := Asd.mk (hb); have n6_ := Asd.mk (hi); clear BK343; clear BK344; clear HO347; clear BK353; clear HK; clear HB; clear HI0; have BK343 := n0_; have BK344 := n1_; have HO347 := n2_; have BK353 := n3_; have HK := n4_; have HB := n5_; have HI0 := n6_; clear n0_ n1_ n2_ n3_ n4_ n5_ n6_; (try clear hb); (try clear hb2); (try clear hk); (try clear hi); have hcz82_0 : w81.cell? ⟨gb353, 0, none⟩ = some (.int .i64 (wrap64 ((rd y345 t348) + (wrap64 ((wrap64 (Int.tdiv t351 59)) * 3))))) := (bkC BK353.out 0).trans rfl; have hcz82_1 : w81.cell? ⟨gb353, 1, none⟩ = some (.string t356) := (bkC BK353.out 1).trans rfl; have hfz82_0 := bkF BK353.out 0; have hfz82_1 := bkF BK353.out 1; have hnb83 := NB344_0.out; have hnc83 := NB0_344.out; have hcz84_0 : w81.cell? ⟨gb344, 0, none⟩ = some (.int .i64 0) := (bkC BK344.out 0).trans rfl; have hcz84_1 : w81.cell? ⟨gb344, 1, none⟩ = some (.string (⟨#[]⟩ : ByteArray)) := (bkC BK344.out 1).trans rfl; have hfz84_0 := bkF BK344.out 0; have hfz84_1 := bkF BK344.out 1))
   refine bodyPost_ret (results_cell_row rfl _ _ gb344 26 #[.int .i64 (wrap64 ((rd y345 t348) + (wrap64 ((wrap64 (Int.tdiv t351 59)) * 3)))), .string (t356 ++ (⟨#[41]⟩ : ByteArray))] (0, 0) _ rfl (by (repeat apply bkS); refine bkP (cs := #[.int .i64 (wrap64 ((rd y345 t348) + (wrap64 ((wrap64 (Int.tdiv t351 59)) * 3)))), .string (⟨#[]⟩ : ByteArray)]) ?_ 1 _ rfl; (repeat apply bkS); refine bkP (cs := #[.int .i64 0, .string (⟨#[]⟩ : ByteArray)]) ?_ 0 _ rfl; (repeat apply bkS); refine bkR ?_ NB344_353.out _; (repeat apply bkS); exact BK344.out) Try.underlying26 rfl (by kernel_rfl)) rfl ?_
   exact ⟨by first | rfl | (simp [*, errW_none, errW_some] <;> rfl), by repeat (with_reducible first | exact HI0.out | refine Iz.below ?_ StB.b | apply Iz.set_1 | refine Iz.far ?_ aX _), by repeat (with_reducible first | exact HB.out | apply bwX | refine bwS ?_ (Iz.ge HI0.out) | refine bwS ?_ GE343.out | refine bwS ?_ GE344.out | refine bwS ?_ GE353.out), by repeat (with_reducible first | exact HK.out | apply Kbt.set_ | apply kpX | refine kpF ?_ GW343.out _ | refine kpF ?_ GW344.out _ | refine kpF ?_ GW353.out _)⟩
  ·replace c57 := Bool.eq_false_iff.mpr c57
   subst c57
   rw [if_neg (show ¬ (false = true) by decide)] at H
   simp only [Option.some.injEq, Prod.mk.injEq] at H
   obtain ⟨rfl, rfl, rfl⟩ := H
   have hnb98 := NB353_343.out
   have hnc98 := NB343_353.out
   have hnb99 := NB353_344.out
   have hnc99 := NB344_353.out
   have hnb100 := NB353_0.out
   have hnc100 := NB0_353.out
   have hcz101_0 : w20.cell? ⟨gb353, 0, none⟩ = some (.int .i64 0) := (bkC BK353.out 0).trans rfl
   have hcz101_1 : w20.cell? ⟨gb353, 1, none⟩ = some (.string (⟨#[]⟩ : ByteArray)) := (bkC BK353.out 1).trans rfl
   have hfz101_0 := bkF BK353.out 0
   have hfz101_1 := bkF BK353.out 1
   have hnb102 := NB343_344.out
   have hnc102 := NB344_343.out
   have hnb103 := NB343_0.out
   have hnc103 := NB0_343.out
   have hcz104_0 : w20.cell? ⟨gb343, 0, none⟩ = some (.int .i64 a1_0) := (bkC BK343.out 0).trans rfl
   have hcz104_1 : w20.cell? ⟨gb343, 1, none⟩ = some (.slice A1_1 l1_1.length c1_1) := (bkC BK343.out 1).trans rfl
   have hcz104_2 : w20.cell? ⟨gb343, 2, none⟩ = some (.slice A1_2 l1_2.length c1_2) := (bkC BK343.out 2).trans rfl
   have hfz104_0 := bkF BK343.out 0
   have hfz104_1 := bkF BK343.out 1
   have hfz104_2 := bkF BK343.out 2
   try go_wp2_with (first | ((with_reducible refine gate_callee (f := 80) rfl ?_); refine gsM (some 23) rfl rfl Try.func80 (by kernel_rfl) rfl #[.pointer (some ⟨g, 0, none⟩), .int .i64 a1_0, .int .i64 2] rfl ?_; (with_reducible refine (spec_l20Sentence.calls k g s0_0 t352 a1_0 2 t356 t357 w0 _ ?side1 ?side2 A55.out).mono ?_); (case side1 => repeat (with_reducible first | exact HI0.out | refine Iz.below ?_ StB.b | apply Iz.set_1 | refine Iz.far ?_ aX _)); (case side2 => repeat (with_reducible first | exact HB.out | apply bwX | refine bwS ?_ (Iz.ge HI0.out) | refine bwS ?_ GE343.out | refine bwS ?_ GE344.out | refine bwS ?_ GE353.out)); rintro e w105 ⟨rfl, hi, hb, hk⟩; refine ⟨_, rfl, ?_⟩; have n0_ := Asd.mk (Kbt.blk hk (g' := gb343) (o := .cells #[.int .i64 a1_0, .slice A1_1 l1_1.length c1_1, .slice A1_2 l1_2.length c1_2] 58 (0, 0)) (by (repeat apply bkS); refine bkR ?_ NB343_353.out _; (repeat apply bkS); refine bkR ?_ NB343_353.out _; (repeat apply bkS); exact BK343.out) NB343_0.out (by simp)); have n1_ := Asd.mk (Kbt.blk hk (g' := gb344) (o := .cells #[.int .i64 0, .string (⟨#[]⟩ : ByteArray)] 26 (0, 0)) (by (repeat apply bkS); refine bkR ?_ NB344_353.out _; (repeat apply bkS); refine bkR ?_ NB344_353.out _; (repeat apply bkS); exact BK344.out) NB344_0.out (by simp)); have n2_ := Asd.mk (Kd.R_mono (Kd.R_keep (Iz.apart (show Iz w0 _ g s0_0 t352 from by repeat (with_reducible first | exact HI0.out | refine Iz.below ?_ StB.b | apply Iz.set_1 | refine Iz.far ?_ aX _)) (by (repeat apply Kd.RS); exact (Kd.R_mono (Kd.R_far (p := ⟨gb353, 1, none⟩) (Kd.R_far (p := ⟨gb353, 0, none⟩) (Kd.R_types HO347.out BK353.out (by decide)) (fun _ hk => hk.2) (.int .i64 (wrap64 ((rd y345 t348) + (wrap64 ((wrap64 (Int.tdiv t351 59)) * 3)))))) (fun _ hk => hk.2) (.string (⟨#[]⟩ : ByteArray))) (fun _ h_ => h_.1))) (by decide)) hk (fun _ h => h.2)) (fun _ h => h.1)); have n3_ := Asd.mk (Kbt.blk hk (g' := gb353) (o := .cells #[.int .i64 (wrap64 ((rd y345 t348) + (wrap64 ((wrap64 (Int.tdiv t351 59)) * 3)))), .string (⟨#[]⟩ : ByteArray)] 26 (0, 0)) (by (repeat apply bkS); refine bkP (cs := #[.int .i64 (wrap64 ((rd y345 t348) + (wrap64 ((wrap64 (Int.tdiv t351 59)) * 3)))), .string (⟨#[]⟩ : ByteArray)]) ?_ 1 _ rfl; (repeat apply bkS); refine bkP (cs := #[.int .i64 0, .string (⟨#[]⟩ : ByteArray)]) ?_ 0 _ rfl; (repeat apply bkS); exact BK353.out) NB353_0.out (by simp)); have n4_ := Asd.mk (Kbt.trans (by repeat (with_reducible first | exact HK.out | apply Kbt.set_ | apply kpX | refine kpF ?_ GW343.out _ | refine kpF ?_ GW344.out _ | refine kpF ?_ GW353.out _)) hk (.inl rfl)); have n5_ := Asd.mk (hb); have n6_ := Asd.mk (hi); clear BK343; clear BK344; clear HO347; clear BK353; clear HK; clear HB; clear HI0; have BK343 := n0_; have BK344 := n1_; have HO347 := n2_; have BK353 := n3_; have HK := n4_; have HB := n5_; have HI0 := n6_; clear n0_ n1_ n2_ n3_ n4_ n5_ n6_; (try clear hb); (try clear hb2); (try clear hk); (try clear hi); have hcz106_0 : w105.cell? ⟨gb353, 0, none⟩ = some (.int .i64 (wrap64 ((rd y345 t348) + (wrap64 ((wrap64 (Int.tdiv t351 59)) * 3))))) := (bkC BK353.out 0).trans rfl; have hcz106_1 : w105.cell? ⟨gb353, 1, none⟩ = some (.string (⟨#[]⟩ : ByteArray)) := (bkC BK353.out 1).trans rfl; have hfz106_0 := bkF BK353.out 0; have hfz106_1 := bkF BK353.out 1) | ((with_reducible refine gate_callee (f := 81) rfl ?_); refine gsM (some 26) rfl rfl Try.func81 (by kernel_rfl) rfl #[.pointer (some ⟨g, 0, none⟩), .int .i64 40] rfl ?_; (with_reducible refine (spec_l20Rd_odd.calls k g s0_0 t357 40 false t359 w0 _ ?side1 ?side2 A56.out).mono ?_); (case side1 => repeat (with_reducible first | exact HI0.out | refine Iz.below ?_ StB.b | apply Iz.set_1 | refine Iz.far ?_ aX _)); (case side2 => repeat (with_reducible first | exact HB.out | apply bwX | refine bwS ?_ (Iz.ge HI0.out) | refine bwS ?_ GE343.out | refine bwS ?_ GE344.out | refine bwS ?_ GE353.out)); rintro e w107 ⟨rfl, hi, hb, hk⟩; refine ⟨_, rfl, ?_⟩; have n0_ := Asd.mk (Kbt.blk hk (g' := gb343) (o := .cells #[.int .i64 a1_0, .slice A1_1 l1_1.length c1_1, .slice A1_2 l1_2.length c1_2] 58 (0, 0)) (by (repeat apply bkS); refine bkR ?_ NB343_353.out _; (repeat apply bkS); exact BK343.out) NB343_0.out (by simp)); have n1_ := Asd.mk (Kbt.blk hk (g' := gb344) (o := .cells #[.int .i64 0, .string (⟨#[]⟩ : ByteArray)] 26 (0, 0)) (by (repeat apply bkS); refine bkR ?_ NB344_353.out _; (repeat apply bkS); exact BK344.out) NB344_0.out (by simp)); have n2_ := Asd.mk (Kd.R_mono (Kd.R_keep (Iz.apart (show Iz w0 _ g s0_0 t357 from by repeat (with_reducible first | exact HI0.out | refine Iz.below ?_ StB.b | apply Iz.set_1 | refine Iz.far ?_ aX _)) (by (repeat apply Kd.RS); exact (Kd.R_mono (Kd.R_far (p := ⟨gb353, 1, none⟩) (Kd.R_types HO347.out BK353.out (by decide)) (fun _ hk => hk.2) (.string t356)) (fun _ h_ => h_.1))) (by decide)) hk (fun _ h => h.2)) (fun _ h => h.1)); have n3_ := Asd.mk (Kbt.blk hk (g' := gb353) (o := .cells #[.int .i64 (wrap64 ((rd y345 t348) + (wrap64 ((wrap64 (Int.tdiv t351 59)) * 3)))), .string t356] 26 (0, 0)) (by (repeat apply bkS); refine bkP (cs := #[.int .i64 (wrap64 ((rd y345 t348) + (wrap64 ((wrap64 (Int.tdiv t351 59)) * 3)))), .string (⟨#[]⟩ : ByteArray)]) ?_ 1 _ rfl; (repeat apply bkS); exact BK353.out) NB353_0.out (by simp)); have n4_ := Asd.mk (Kbt.trans (by repeat (with_reducible first | exact HK.out | apply Kbt.set_ | apply kpX | refine kpF ?_ GW343.out _ | refine kpF ?_ GW344.out _ | refine kpF ?_ GW353.out _)) hk (.inl rfl)); have n5_ := Asd.mk (hb); have n6_ := Asd.mk (hi); clear BK343; clear BK344; clear HO347; clear BK353; clear HK; clear HB; clear HI0; have BK343 := n0_; have BK344 := n1_; have HO347 := n2_; have BK353 := n3_; have HK := n4_; have HB := n5_; have HI0 := n6_; clear n0_ n1_ n2_ n3_ n4_ n5_ n6_; (try clear hb); (try clear hb2); (try clear hk); (try clear hi); have hcz108_0 : w107.cell? ⟨gb353, 0, none⟩ = some (.int .i64 (wrap64 ((rd y345 t348) + (wrap64 ((wrap64 (Int.tdiv t351 59)) * 3))))) := (bkC BK353.out 0).trans rfl; have hcz108_1 : w107.cell? ⟨gb353, 1, none⟩ = some (.string t356) := (bkC BK353.out 1).trans rfl; have hfz108_0 := bkF BK353.out 0; have hfz108_1 := bkF BK353.out 1; have hnb109 := NB344_0.out; have hnc109 := NB0_344.out; have hcz110_0 : w107.cell? ⟨gb344, 0, none⟩ = some (.int .i64 0) := (bkC BK344.out 0).trans rfl; have hcz110_1 : w107.cell? ⟨gb344, 1, none⟩ = some (.string (⟨#[]⟩ : ByteArray)) := (bkC BK344.out 1).trans rfl; have hfz110_0 := bkF BK344.out 0; have hfz110_1 := bkF BK344.out 1))
   refine bodyPost_ret (results_cell_row rfl _ _ gb344 26 #[.int .i64 (wrap64 ((rd y345 t348) + (wrap64 ((wrap64 (Int.tdiv t351 59)) * 3)))), .string t356] (0, 0) _ rfl (by (repeat apply bkS); refine bkP (cs := #[.int .i64 (wrap64 ((rd y345 t348) + (wrap64 ((wrap64 (Int.tdiv t351 59)) * 3)))), .string (⟨#[]⟩ : ByteArray)]) ?_ 1 _ rfl; (repeat apply bkS); refine bkP (cs := #[.int .i64 0, .string (⟨#[]⟩ : ByteArray)]) ?_ 0 _ rfl; (repeat apply bkS); exact BK344.out) Try.underlying26 rfl (by kernel_rfl)) rfl ?_
   exact ⟨by first | rfl | (simp [*, errW_none, errW_some] <;> rfl), by repeat (with_reducible first | exact HI0.out | refine Iz.below ?_ StB.b | apply Iz.set_1 | refine Iz.far ?_ aX _), by repeat (with_reducible first | exact HB.out | apply bwX | refine bwS ?_ (Iz.ge HI0.out) | refine bwS ?_ GE343.out | refine bwS ?_ GE344.out | refine bwS ?_ GE353.out), by repeat (with_reducible first | exact HK.out | apply Kbt.set_ | apply kpX | refine kpF ?_ GW343.out _ | refine kpF ?_ GW344.out _ | refine kpF ?_ GW353.out _)⟩

end Go.Proofs.Ytihgpkohglcijaa.P
