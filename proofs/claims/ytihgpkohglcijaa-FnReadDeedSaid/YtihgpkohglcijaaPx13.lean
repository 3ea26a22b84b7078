-- Written by a program of this session (wip/hook.py), which runs the kit's printer; Lean checks it.
import Derived.Test.YtihgpkohglcijaaPx0
import Derived.Test.YtihgpkohglcijaaPx3
import Derived.Test.YtihgpkohglcijaaPx4
import Derived.Test.YtihgpkohglcijaaPx5
import Derived.Test.YtihgpkohglcijaaPx6
import Derived.Test.YtihgpkohglcijaaPx11
import Derived.Test.YtihgpkohglcijaaPx12
namespace Go.Proofs.Ytihgpkohglcijaa.P
open Go.RowKit Go.Proofs.YtihgpkohglcijaaW.PrintWords Go.Proofs.YtihgpkohglcijaaW.PrintLast Go.Proofs.YtihgpkohglcijaaW.PrintMore
attribute [local go_sem] max2_int min2_int max_two min_two max_three min_three max_four min_four   -- for this text's walks alone
set_option linter.unusedVariables false
set_option linter.unusedSimpArgs false

/-! ### spec_l20Mind: function 88 -/
def spec_l20Mind.l0 : Nat → Int → Int → List Int → Int → Int → List Int → List (List Int) → Option (Int × List Int × (List (List Int)) × Int)
 | 0, _, _, _, _, _, _, _ => none
 | k + 1, x1, x7, x1000, x1001, x394000, x394001, x394002 => if x7 > 0 then ((spec_l20Deed.f k x1000 x1001 x394000 x394001 x394002).bind fun bt396 => ((spec_MindDo.f k x394000 x394001 x394002 bt396.1 bt396.2.1).bind fun bt399 => (if bt399.2.2.2 = true then (spec_l20Mind.l0 k x1 (wrap64 (x7 - 1)) x1000 bt396.2.2 bt399.1 bt399.2.1 bt399.2.2.1) else (spec_l20Mind.l0 k x1 (wrap64 (x7 - 1)) x1000 bt396.2.2 x394000 x394001 x394002)))) else ((spec_l20Rd_odd.f k x1000 x1001 x1).bind fun bt408 => (if bt408.1 = true then ((spec_l20Rd_pick.f k x1000 bt408.2 3).bind fun bt410 => (if bt410.1 = 0 then (some (4, x394001, x394002, bt410.2)) else (if bt410.1 = 1 then (if 0 < (x394001.length : Int) then (some (x394000, (x394001.set (0 : Int).toNat 9), x394002, bt410.2)) else (none)) else (if x394002.length < 5864062014805 then (some (x394000, x394001, (x394002 ++ [(([1] : List Int))]), bt410.2)) else (none))))) else (some (x394000, x394001, x394002, bt408.2))))
def spec_l20Mind.f (k : Nat) (s0_0 : List Int) (s0_1 : Int) (a1 : Int) : Option (Int × List Int × (List (List Int)) × Int) := (spec_l20Things.f k s0_0 s0_1 0).bind fun bt380 => ((spec_l20Rank.f k s0_0 bt380.2 bt380.1 0).bind fun bt382 => ((spec_MindNew.f k bt380.1 bt382.1).bind fun bt386 => ((spec_l20Rd_pick.f k s0_0 bt382.2 6).bind fun bt394 => (spec_l20Mind.l0 k a1 bt394.1 s0_0 bt394.2 bt386.1 bt386.2.1 bt386.2.2))))
theorem spec_l20Mind.mono_l : ∀ k, (∀ y0 y1 y2 y3 y4 y5 y6, LeO (spec_l20Mind.l0 k y0 y1 y2 y3 y4 y5 y6) (spec_l20Mind.l0 (k + 1) y0 y1 y2 y3 y4 y5 y6))
 | 0 => fun _ _ _ _ _ _ _ r h => by simp [spec_l20Mind.l0] at h
 | k + 1 => by
  have ih0 := spec_l20Mind.mono_l k
  ·intro y0 y1 y2 y3 y4 y5 y6
   unfold spec_l20Mind.l0
   repeat' first
   | (with_reducible exact ih0 _ _ _ _ _ _ _)
   | (with_reducible exact spec_MindDo.mono _ _ _ _ _ _)
   | (with_reducible exact spec_MindNew.mono _ _ _)
   | (with_reducible exact spec_l20Deed.mono _ _ _ _ _ _)
   | (with_reducible exact spec_l20Rank.mono _ _ _ _ _)
   | (with_reducible exact spec_l20Rd_odd.mono _ _ _ _)
   | (with_reducible exact spec_l20Rd_pick.mono _ _ _ _)
   | (with_reducible exact spec_l20Things.mono _ _ _ _)
   | (with_reducible exact LeO.refl _)
   | (with_reducible exact LeO.none _)
   | (with_reducible refine LeO.ite ?_ ?_)
   | (with_reducible refine LeO.bind ?_ (fun _ => ?_))
   | refine LeO.ite ?_ ?_
   | refine LeO.bind ?_ (fun _ => ?_)
theorem spec_l20Mind.mono : ∀ a0 a1 a2 k, LeO (spec_l20Mind.f k a0 a1 a2) (spec_l20Mind.f (k + 1) a0 a1 a2) := by
 intro a0 a1 a2 k
 have ih0 := spec_l20Mind.mono_l k
 unfold spec_l20Mind.f
 repeat' first
   | (with_reducible exact ih0 _ _ _ _ _ _ _)
   | (with_reducible exact spec_MindDo.mono _ _ _ _ _ _)
   | (with_reducible exact spec_MindNew.mono _ _ _)
   | (with_reducible exact spec_l20Deed.mono _ _ _ _ _ _)
   | (with_reducible exact spec_l20Rank.mono _ _ _ _ _)
   | (with_reducible exact spec_l20Rd_odd.mono _ _ _ _)
   | (with_reducible exact spec_l20Rd_pick.mono _ _ _ _)
   | (with_reducible exact spec_l20Things.mono _ _ _ _)
   | (with_reducible exact LeO.refl _)
   | (with_reducible exact LeO.none _)
   | (with_reducible refine LeO.ite ?_ ?_)
   | (with_reducible refine LeO.bind ?_ (fun _ => ?_))
   | refine LeO.ite ?_ ?_
   | refine LeO.bind ?_ (fun _ => ?_)
def spec_l20Mind.T6 : Bool × List (List Nat × List Nat) := (true, [([], []), ([], []), ([], []), ([1, 2], [1, 2]), ([0, 3, 3], [0, 3]), ([4], [4]), ([5], [5]), ([5], [5]), ([], []), ([8, 6, 4, 0, 1, 2, 3, 4, 5, 6, 8], [6, 8]), ([7, 9, 0, 1, 2, 3, 4, 5, 6, 7, 8, 9], [7])])
def spec_l20Mind.B6 : List Nat := [0, 0, 0, 6, 15, 31, 63, 63, 0, 383, 1023]
theorem spec_l20Mind.tab6 : rtab .any (opsOf Try.f88 6) = spec_l20Mind.T6 := by kernel_rfl
theorem spec_l20Mind.bits6 : waitsOk spec_l20Mind.T6.2 spec_l20Mind.B6 = true := by kernel_rfl
set_option maxHeartbeats 8000000 in
set_option maxRecDepth 100000 in
theorem spec_l20Mind.calls (k : Nat) (g : Nat) (s0_0 : List Int) (s0_1 : Int) (a1 : Int) (r1 : Int) (r2 : List Int) (r3 : List (List Int)) (r4 : Int) (w0 w : World) (hI : Iz w0 w g s0_0 s0_1) (hB : Below w0.heap.size w0 w) (h : spec_l20Mind.f k s0_0 s0_1 a1 = some (r1, r2, r3, r4)) :
  Calls Try.prog 88 #[.pointer (some ⟨g, 0, none⟩), .int .i64 a1] w fun e w' => ∃ v1_ v2_ : Value, e = .returned (.agg #[.int .i64 r1, v1_, v2_]) ∧ Kd.R (Kd.int .i64) 3 w' w.heap.size (fun _ => True) v1_ r2 ∧ Kd.S (Kd.slice 3 (Kd.int .i64)) 55 w' w.heap.size (fun k_ => some k_ ≠ (v1_ : Value).ownBlock) v2_ r3 ∧ Iz w0 w' g s0_0 r4 ∧ Below w0.heap.size w0 w' ∧ Kbt w w' g none := by
 have hu58 := Try.underlying58
 have HI0 := Asd.mk hI
 have HK := Asd.mk (Kbt.refl w g none)
 have HL := Asd.mk hB.size
 clear hI
 have HW0 := Asd.mk hB.size
 have HB := Asd.mk hB
 clear hB
 have H : ((spec_l20Things.f k s0_0 s0_1 0).bind fun bt380 => ((spec_l20Rank.f k s0_0 bt380.2 bt380.1 0).bind fun bt382 => ((spec_MindNew.f k bt380.1 bt382.1).bind fun bt386 => ((spec_l20Rd_pick.f k s0_0 bt382.2 6).bind fun bt394 => (spec_l20Mind.l0 k a1 bt394.1 s0_0 bt394.2 bt386.1 bt386.2.1 bt386.2.2))))) = some (r1, r2, r3, r4) := h
 clear h
 replace H := Option.bind_eq_some_iff.mp H
 obtain ⟨⟨t380, t381⟩, A30, H⟩ := H
 try dsimp only at H
 have A3 := Asd.mk A30
 clear A30
 replace H := Option.bind_eq_some_iff.mp H
 obtain ⟨⟨t382, t385⟩, A40, H⟩ := H
 try dsimp only at H
 have A4 := Asd.mk A40
 clear A40
 replace H := Option.bind_eq_some_iff.mp H
 obtain ⟨⟨t386, t387, t390⟩, A50, H⟩ := H
 try dsimp only at H
 have A5 := Asd.mk A50
 clear A50
 replace H := Option.bind_eq_some_iff.mp H
 obtain ⟨⟨t394, t395⟩, A60, H⟩ := H
 try dsimp only at H
 have A6 := Asd.mk A60
 clear A60
 have H' := Asd.mk H
 clear H
 go_enter Try.func88, Try.ntmps88
 go_wp2_with (first | ((with_reducible refine gate_dst (N := 4) rfl ?_); refine bxE ?hg (N := 4) ?hd (cs := #[.int .i64 0, .slice none 0 0, .slice none 0 0]) (t := 58) ?hr ?_; (case hd => rfl); (case hg => rfl); (case hr => first | (go_simp; done) | (go_simp; rfl)); intro gb379 hg w7 hbox hb; have n0_ := Asd.mk (Iz.below (by repeat (with_reducible first | exact HI0.out | refine Iz.below ?_ StB.b | apply Iz.set_1)) hb); have n1_ := Asd.mk (Kbt.trans (by repeat (with_reducible first | exact HK.out | apply Kbt.set_ | apply kpX)) (Kbt.of_below hb g none) (.inl rfl)); have n2_ := Asd.mk (bwP (by repeat (with_reducible first | exact HB.out | apply bwX | refine bwS ?_ (Iz.ge HI0.out))) hb); have n3_ := Asd.mk (hbox); have n4_ := Asd.mk ((by rw [hg]; exact (kpZ (w := w) (g := g) (row := none) (by repeat (with_reducible first | exact HK.out | apply Kbt.set_ | apply kpX))) : w.heap.size ≤ gb379)); have n5_ := Asd.mk ((Nat.le_trans HW0.out (by rw [hg]; exact (kpZ (w := w) (g := g) (row := none) (by repeat (with_reducible first | exact HK.out | apply Kbt.set_ | apply kpX))) : w.heap.size ≤ gb379) : w0.heap.size ≤ gb379)); have n6_ := Asd.mk ((by rw [hg]; exact Nat.ne_of_lt (Iz.lt (show Iz w0 _ g s0_0 s0_1 from by repeat (with_reducible first | exact HI0.out | refine Iz.below ?_ StB.b | apply Iz.set_1))) : g ≠ gb379)); have n7_ := Asd.mk ((by rw [hg]; exact Nat.ne_of_gt (Iz.lt (show Iz w0 _ g s0_0 s0_1 from by repeat (with_reducible first | exact HI0.out | refine Iz.below ?_ StB.b | apply Iz.set_1))) : gb379 ≠ g)); clear HI0; clear HK; clear HB; have HI0 := n0_; have HK := n1_; have HB := n2_; have BK379 := n3_; have GW379 := n4_; have GE379 := n5_; have NB0_379 := n6_; have NB379_0 := n7_; clear n0_ n1_ n2_ n3_ n4_ n5_ n6_ n7_; clear hb hbox hg) | ((with_reducible refine gate_callee (f := 79) rfl ?_); refine gsM (some 11) rfl rfl Try.func79 (by kernel_rfl) rfl #[.pointer (some ⟨g, 0, none⟩), .int .i64 0] rfl ?_; (with_reducible refine (spec_l20Things.calls k g s0_0 s0_1 0 t380 t381 w0 _ ?side1 ?side2 A3.out).mono ?_); (case side1 => repeat (with_reducible first | exact HI0.out | refine Iz.below ?_ StB.b | apply Iz.set_1 | refine Iz.far ?_ aX _)); (case side2 => repeat (with_reducible first | exact HB.out | apply bwX | refine bwS ?_ (Iz.ge HI0.out) | refine bwS ?_ GE379.out)); rintro e w8 ⟨rfl, hi, hb, hk⟩; refine ⟨_, rfl, ?_⟩; have n0_ := Asd.mk (Kbt.blk hk (g' := gb379) (o := .cells #[.int .i64 0, .slice none 0 0, .slice none 0 0] 58 (0, 0)) (by (repeat apply bkS); exact BK379.out) NB379_0.out (by simp)); have n1_ := Asd.mk (Kbt.trans (by repeat (with_reducible first | exact HK.out | apply Kbt.set_ | apply kpX | refine kpF ?_ GW379.out _)) hk (.inl rfl)); have n2_ := Asd.mk (hb); have n3_ := Asd.mk (hi); clear BK379; clear HK; clear HB; clear HI0; have BK379 := n0_; have HK := n1_; have HB := n2_; have HI0 := n3_; clear n0_ n1_ n2_ n3_; (try clear hb); (try clear hb2); (try clear hk); (try clear hi)) | ((with_reducible refine gate_callee (f := 103) rfl ?_); refine gsM (some 15) rfl rfl Try.func103 (by kernel_rfl) rfl #[.pointer (some ⟨g, 0, none⟩), .int .i64 t380, .int .i64 0] rfl ?_; (with_reducible refine (spec_l20Rank.calls k g s0_0 t381 t380 0 t382 t385 w0 _ ?side1 ?side2 A4.out).mono ?_); (case side1 => repeat (with_reducible first | exact HI0.out | refine Iz.below ?_ StB.b | apply Iz.set_1 | refine Iz.far ?_ aX _)); (case side2 => repeat (with_reducible first | exact HB.out | apply bwX | refine bwS ?_ (Iz.ge HI0.out) | refine bwS ?_ GE379.out)); rintro e w9 ⟨v383, rfl, ho0, hi, hb, hk⟩; refine ⟨_, rfl, ?_⟩; have n0_ := Asd.mk (Kbt.blk hk (g' := gb379) (o := .cells #[.int .i64 0, .slice none 0 0, .slice none 0 0] 58 (0, 0)) (by (repeat apply bkS); exact BK379.out) NB379_0.out (by simp)); have n1_ := Asd.mk (Kd.R_lower ho0 (kpZ (w := w) (g := g) (row := none) (by repeat (with_reducible first | exact HK.out | apply Kbt.set_ | apply kpX | refine kpF ?_ GW379.out _)))); have n2_ := Asd.mk (Kbt.trans (by repeat (with_reducible first | exact HK.out | apply Kbt.set_ | apply kpX | refine kpF ?_ GW379.out _)) hk (.inl rfl)); have n3_ := Asd.mk (hb); have n4_ := Asd.mk (hi); clear BK379; clear HK; clear HB; clear HI0; have BK379 := n0_; have HO384 := n1_; have HK := n2_; have HB := n3_; have HI0 := n4_; clear n0_ n1_ n2_ n3_ n4_; (try clear hb); (try clear hb2); (try clear hk); (try clear hi); (try clear ho0); obtain ⟨Ao10, co10, eo10⟩ := Kd.R_slice HO384.out; subst eo10) | ((with_reducible refine gate_callee (f := 42) rfl ?_); refine gsM (some 16) rfl rfl Try.func42 (by kernel_rfl) rfl #[.int .i64 t380, .slice Ao10 t382.length co10] rfl ?_; (with_reducible refine (spec_MindNew.calls k t380 _ _ t382 t386 t387 t390 _ ?side1 ?side2 A5.out).mono ?_); (case side1 => repeat (first | exact (Kd.R_reads' HO384.out).2.2 | (with_reducible refine Kd.C_alloc ?_ _) | (with_reducible refine Kd.C_drewN ?_ _) | (with_reducible refine Kd.C_drew ?_))); (case side2 => exact (Kd.R_reads' HO384.out).2.1); rintro e w11 ⟨v388, v391, rfl, ho0, ho1, hb⟩; refine ⟨_, rfl, ?_⟩; have n0_ := Asd.mk (Kd.R_elder' (by (repeat apply Kd.RS); exact HO384.out) (Kd.R_base ho0) hb); have n1_ := Asd.mk (Kd.R_lower (Kd.R_new' ho0 (Kd.R_lt (by (repeat apply Kd.RS); exact HO384.out))) (kpZ (w := w) (g := g) (row := none) (by repeat (with_reducible first | exact HK.out | apply Kbt.set_ | apply kpX | refine kpF ?_ GW379.out _)))); have n2_ := Asd.mk (Kd.S_lower (Kd.S_new' ho1 (Kd.R_lt (by (repeat apply Kd.RS); exact HO384.out))) (kpZ (w := w) (g := g) (row := none) (by repeat (with_reducible first | exact HK.out | apply Kbt.set_ | apply kpX | refine kpF ?_ GW379.out _)))); have n3_ := Asd.mk (Iz.below (by repeat (with_reducible first | exact HI0.out | refine Iz.below ?_ StB.b | apply Iz.set_1 | refine Iz.far ?_ aX _)) hb); have n4_ := Asd.mk (bkB (g := gb379) (o := .cells #[.int .i64 0, .slice none 0 0, .slice none 0 0] 58 (0, 0)) (by (repeat apply bkS); exact BK379.out) hb); have n5_ := Asd.mk (Kbt.trans (by repeat (with_reducible first | exact HK.out | apply Kbt.set_ | apply kpX | refine kpF ?_ GW379.out _)) (Kbt.of_below hb g none) (.inl rfl)); have n6_ := Asd.mk (bwP (by repeat (with_reducible first | exact HB.out | apply bwX | refine bwS ?_ (Iz.ge HI0.out) | refine bwS ?_ GE379.out)) hb); clear HO384; clear HI0; clear BK379; clear HK; clear HB; have HO384 := n0_; have HO389 := n1_; have HO392 := n2_; have HI0 := n3_; have BK379 := n4_; have HK := n5_; have HB := n6_; clear n0_ n1_ n2_ n3_ n4_ n5_ n6_; (try clear hb); (try clear hb2); (try clear hk); (try clear hi); (try clear ho0); (try clear ho1)) | ((with_reducible refine gate_dst (N := 6) rfl ?_); refine bxE ?hg (N := 6) ?hd (cs := #[.int .i64 0, .slice none 0 0, .slice none 0 0]) (t := 58) ?hr ?_; (case hd => rfl); (case hg => rfl); (case hr => first | (go_simp; done) | (go_simp; rfl)); intro gb393 hg w12 hbox hb; have n0_ := Asd.mk (Kd.R_below (by (repeat apply Kd.RS); exact HO384.out) hb); have n1_ := Asd.mk (Kd.R_below (by (repeat apply Kd.RS); exact HO389.out) hb); have n2_ := Asd.mk (Kd.S_below (by (repeat apply Kd.SS); exact HO392.out) hb); have n3_ := Asd.mk (Iz.below (by repeat (with_reducible first | exact HI0.out | refine Iz.below ?_ StB.b | apply Iz.set_1 | refine Iz.far ?_ aX _)) hb); have n4_ := Asd.mk (bkB (g := gb379) (o := .cells #[.int .i64 0, .slice none 0 0, .slice none 0 0] 58 (0, 0)) (by (repeat apply bkS); exact BK379.out) hb); have n5_ := Asd.mk (Kbt.trans (by repeat (with_reducible first | exact HK.out | apply Kbt.set_ | apply kpX | refine kpF ?_ GW379.out _)) (Kbt.of_below hb g none) (.inl rfl)); have n6_ := Asd.mk (bwP (by repeat (with_reducible first | exact HB.out | apply bwX | refine bwS ?_ (Iz.ge HI0.out) | refine bwS ?_ GE379.out)) hb); have n7_ := Asd.mk (hbox); have n8_ := Asd.mk ((by rw [hg]; exact (kpZ (w := w) (g := g) (row := none) (by repeat (with_reducible first | exact HK.out | apply Kbt.set_ | apply kpX | refine kpF ?_ GW379.out _))) : w.heap.size ≤ gb393)); have n9_ := Asd.mk ((Nat.le_trans HW0.out (by rw [hg]; exact (kpZ (w := w) (g := g) (row := none) (by repeat (with_reducible first | exact HK.out | apply Kbt.set_ | apply kpX | refine kpF ?_ GW379.out _))) : w.heap.size ≤ gb393) : w0.heap.size ≤ gb393)); have n10_ := Asd.mk ((by rw [hg]; exact Nat.ne_of_lt (bkL (g := gb379) (o := .cells #[.int .i64 0, .slice none 0 0, .slice none 0 0] 58 (0, 0)) (by (repeat apply bkS); exact BK379.out)) : gb379 ≠ gb393)); have n11_ := Asd.mk ((by rw [hg]; exact Nat.ne_of_gt (bkL (g := gb379) (o := .cells #[.int .i64 0, .slice none 0 0, .slice none 0 0] 58 (0, 0)) (by (repeat apply bkS); exact BK379.out)) : gb393 ≠ gb379)); have n12_ := Asd.mk ((by rw [hg]; exact Nat.ne_of_lt (Iz.lt (show Iz w0 _ g s0_0 t385 from by repeat (with_reducible first | exact HI0.out | refine Iz.below ?_ StB.b | apply Iz.set_1 | refine Iz.far ?_ aX _))) : g ≠ gb393)); have n13_ := Asd.mk ((by rw [hg]; exact Nat.ne_of_gt (Iz.lt (show Iz w0 _ g s0_0 t385 from by repeat (with_reducible first | exact HI0.out | refine Iz.below ?_ StB.b | apply Iz.set_1 | refine Iz.far ?_ aX _))) : gb393 ≠ g)); clear HO384; clear HO389; clear HO392; clear HI0; clear BK379; clear HK; clear HB; have HO384 := n0_; have HO389 := n1_; have HO392 := n2_; have HI0 := n3_; have BK379 := n4_; have HK := n5_; have HB := n6_; have BK393 := n7_; have GW393 := n8_; have GE393 := n9_; have NB379_393 := n10_; have NB393_379 := n11_; have NB0_393 := n12_; have NB393_0 := n13_; clear n0_ n1_ n2_ n3_ n4_ n5_ n6_ n7_ n8_ n9_ n10_ n11_ n12_ n13_; clear hb hbox hg; have hnb13 := NB393_379.out; have hnc13 := NB379_393.out; have hnb14 := NB393_0.out; have hnc14 := NB0_393.out; have hcz15_0 : w12.cell? ⟨gb393, 0, none⟩ = some (.int .i64 0) := (bkC BK393.out 0).trans rfl; have hcz15_1 : w12.cell? ⟨gb393, 1, none⟩ = some (.slice none 0 0) := (bkC BK393.out 1).trans rfl; have hcz15_2 : w12.cell? ⟨gb393, 2, none⟩ = some (.slice none 0 0) := (bkC BK393.out 2).trans rfl; have hfz15_0 := bkF BK393.out 0; have hfz15_1 := bkF BK393.out 1; have hfz15_2 := bkF BK393.out 2; obtain ⟨Ao16, co16, eo16⟩ := Kd.R_slice HO389.out; subst eo16; obtain ⟨Ao17, co17, eo17⟩ := Kd.S_slice HO392.out; subst eo17) | ((with_reducible refine gate_callee (f := 82) rfl ?_); refine gsM (some 18) rfl rfl Try.func82 (by kernel_rfl) rfl #[.pointer (some ⟨g, 0, none⟩), .int .i64 6] rfl ?_; (with_reducible refine (spec_l20Rd_pick.calls k g s0_0 t385 6 t394 t395 w0 _ ?side1 ?side2 A6.out).mono ?_); (case side1 => repeat (with_reducible first | exact HI0.out | refine Iz.below ?_ StB.b | apply Iz.set_1 | refine Iz.far ?_ aX _)); (case side2 => repeat (with_reducible first | exact HB.out | apply bwX | refine bwS ?_ (Iz.ge HI0.out) | refine bwS ?_ GE379.out | refine bwS ?_ GE393.out)); rintro e w18 ⟨rfl, hi, hb, hk⟩; refine ⟨_, rfl, ?_⟩; have n0_ := Asd.mk (Kbt.blk hk (g' := gb379) (o := .cells #[.int .i64 0, .slice none 0 0, .slice none 0 0] 58 (0, 0)) (by (repeat apply bkS); refine bkR ?_ NB379_393.out _; (repeat apply bkS); refine bkR ?_ NB379_393.out _; (repeat apply bkS); refine bkR ?_ NB379_393.out _; (repeat apply bkS); exact BK379.out) NB379_0.out (by simp)); have n1_ := Asd.mk (Kd.R_mono (Kd.R_keep (Iz.apart (show Iz w0 _ g s0_0 t385 from by repeat (with_reducible first | exact HI0.out | refine Iz.below ?_ StB.b | apply Iz.set_1 | refine Iz.far ?_ aX _)) (by (repeat apply Kd.RS); exact (Kd.R_mono (Kd.R_far (p := ⟨gb393, 2, none⟩) (Kd.R_far (p := ⟨gb393, 1, none⟩) (Kd.R_far (p := ⟨gb393, 0, none⟩) (Kd.R_types HO384.out BK393.out (by decide)) (fun _ hk => hk.2) (.int .i64 t386)) (fun _ hk => hk.2) (.slice Ao16 t387.length co16)) (fun _ hk => hk.2) (.slice Ao17 t390.length co17)) (fun _ h_ => h_.1))) (by decide)) hk (fun _ h => h.2)) (fun _ h => h.1)); have n2_ := Asd.mk (Kd.R_mono (Kd.R_keep (Iz.apart (show Iz w0 _ g s0_0 t385 from by repeat (with_reducible first | exact HI0.out | refine Iz.below ?_ StB.b | apply Iz.set_1 | refine Iz.far ?_ aX _)) (by (repeat apply Kd.RS); exact (Kd.R_mono (Kd.R_far (p := ⟨gb393, 2, none⟩) (Kd.R_far (p := ⟨gb393, 1, none⟩) (Kd.R_far (p := ⟨gb393, 0, none⟩) (Kd.R_types HO389.out BK393.out (by decide)) (fun _ hk => hk.2) (.int .i64 t386)) (fun _ hk => hk.2) (.slice Ao16 t387.length co16)) (fun _ hk => hk.2) (.slice Ao17 t390.length co17)) (fun _ h_ => h_.1))) (by decide)) hk (fun _ h => h.2)) (fun _ h => h.1)); have n3_ := Asd.mk (Kd.S_mono (Kd.S_keep (Iz.apartS (show Iz w0 _ g s0_0 t385 from by repeat (with_reducible first | exact HI0.out | refine Iz.below ?_ StB.b | apply Iz.set_1 | refine Iz.far ?_ aX _)) (by (repeat apply Kd.SS); exact (Kd.S_mono (Kd.S_far (p := ⟨gb393, 2, none⟩) (Kd.S_far (p := ⟨gb393, 1, none⟩) (Kd.S_far (p := ⟨gb393, 0, none⟩) (Kd.S_types HO392.out BK393.out (by decide)) (fun _ hk => hk.2) (.int .i64 t386)) (fun _ hk => hk.2) (.slice Ao16 t387.length co16)) (fun _ hk => hk.2) (.slice Ao17 t390.length co17)) (fun _ h_ => h_.1))) (by decide)) hk (fun _ h => h.2)) (fun _ h => h.1)); have n4_ := Asd.mk (Kbt.blk hk (g' := gb393) (o := .cells #[.int .i64 t386, .slice Ao16 t387.length co16, .slice Ao17 t390.length co17] 58 (0, 0)) (by (repeat apply bkS); refine bkP (cs := #[.int .i64 t386, .slice Ao16 t387.length co16, .slice none 0 0]) ?_ 2 _ rfl; (repeat apply bkS); refine bkP (cs := #[.int .i64 t386, .slice none 0 0, .slice none 0 0]) ?_ 1 _ rfl; (repeat apply bkS); refine bkP (cs := #[.int .i64 0, .slice none 0 0, .slice none 0 0]) ?_ 0 _ rfl; (repeat apply bkS); exact BK393.out) NB393_0.out (by simp)); have n5_ := Asd.mk (Kbt.trans (by repeat (with_reducible first | exact HK.out | apply Kbt.set_ | apply kpX | refine kpF ?_ GW379.out _ | refine kpF ?_ GW393.out _)) hk (.inl rfl)); have n6_ := Asd.mk (hb); have n7_ := Asd.mk (hi); clear BK379; clear HO384; clear HO389; clear HO392; clear BK393; clear HK; clear HB; clear HI0; have BK379 := n0_; have HO384 := n1_; have HO389 := n2_; have HO392 := n3_; have BK393 := n4_; have HK := n5_; have HB := n6_; have HI0 := n7_; clear n0_ n1_ n2_ n3_ n4_ n5_ n6_ n7_; (try clear hb); (try clear hb2); (try clear hk); (try clear hi)))
 go_loopg [7] k (fun kq v7 w' => ∃ (x7_1 : Int) (x1001_1 : Int) (x394000_1 : Int) (x394001_1 : List Int) (x394002_1 : List (List Int)) (u394001 : Value) (u394002 : Value), v7 = .int .i64 x7_1 ∧ Asd (spec_l20Mind.l0 kq a1 x7_1 s0_0 x1001_1 x394000_1 x394001_1 x394002_1 = some (r1, r2, r3, r4)) ∧ Asd (kq ≤ k) ∧ Asd (Kd.R (Kd.int .i64) 3 w' w.heap.size (fun _ => True) u394001 x394001_1) ∧ Asd (Kd.S (Kd.slice 3 (Kd.int .i64)) 55 w' w.heap.size (fun k_ => some k_ ≠ (u394001 : Value).ownBlock) u394002 x394002_1) ∧ Asd (w'.heap[gb379]? = some (.cells #[.int .i64 0, (.slice none 0 0), (.slice none 0 0)] 58 (0, 0))) ∧ Asd (w'.heap[gb393]? = some (.cells #[.int .i64 x394000_1, u394001, u394002] 58 (0, 0))) ∧ Asd (Iz w0 w' g s0_0 x1001_1) ∧ Asd (Kbt w w' g none) ∧ Asd (Below w0.heap.size w0 w'))
 case atStart => exact ⟨(t394), (t395), (t386), (t387), (t390), (.slice Ao16 t387.length co16), (.slice Ao17 t390.length co17), (by first | rfl | (simp; done) | (simp [*]; done)), H', ⟨Nat.le_refl _⟩, ⟨by (repeat apply Kd.RS); exact Kd.R_mono HO389.out (fun _ hk => trivial)⟩, ⟨by (repeat apply Kd.SS); exact Kd.S_mono HO392.out (fun _ hk => hk.1)⟩, ⟨by (repeat apply bkS); exact BK379.out⟩, ⟨by (repeat apply bkS); exact BK393.out⟩, ⟨by repeat (with_reducible first | exact HI0.out | refine Iz.below ?_ StB.b | apply Iz.set_1 | refine Iz.far ?_ aX _)⟩, ⟨by repeat (with_reducible first | exact HK.out | apply Kbt.set_ | apply kpX | refine kpF ?_ GW379.out _ | refine kpF ?_ GW393.out _)⟩, ⟨by repeat (with_reducible first | exact HB.out | apply bwX | refine bwS ?_ (Iz.ge HI0.out) | refine bwS ?_ GE379.out | refine bwS ?_ GE393.out)⟩⟩
 case round =>
  clear H'
  obtain ⟨x7_1, x1001_1, x394000_1, x394001_1, x394002_1, u394001, u394002, rfl, HA, HK1, HO_394001, HO_394002, BK379, BK393, HI0, HK, HB⟩ := hrel
  cases gk with
  | zero => exact absurd HA.out (by simp [spec_l20Mind.l0])
  | succ k1 =>
   have H := HA.out
   clear HA
   simp only [spec_l20Mind.l0] at H
   by_cases c19 : x7_1 > 0
   ·rw [if_pos c19] at H
    have c19b0 : decide (0 < x7_1) = true := decide_eq_true c19
    clear c19
    replace H := Option.bind_eq_some_iff.mp H
    obtain ⟨⟨t396, t397, t398⟩, A200, H⟩ := H
    try dsimp only at H
    have A20 := Asd.mk A200
    clear A200
    replace H := Option.bind_eq_some_iff.mp H
    obtain ⟨⟨t399, t400, t403, t406⟩, A210, H⟩ := H
    try dsimp only at H
    have A21 := Asd.mk A210
    clear A210
    obtain ⟨Ao23, co23, eo23⟩ := Kd.R_slice HO_394001.out
    subst eo23
    obtain ⟨Ao24, co24, eo24⟩ := Kd.S_slice HO_394002.out
    subst eo24
    try go_wp2
    have n0_ := Asd.mk (Kd.R_drew HO_394001.out)
    have n1_ := Asd.mk (Kd.S_drew HO_394002.out)
    have n2_ := Asd.mk (bkD BK379.out)
    have n3_ := Asd.mk (bkD BK393.out)
    have n4_ := Asd.mk (Iz.drew HI0.out)
    have n5_ := Asd.mk (kpD HK.out)
    have n6_ := Asd.mk (bwD HB.out)
    clear HO_394001
    clear HO_394002
    clear BK379
    clear BK393
    clear HI0
    clear HK
    clear HB
    have HO_394001 := n0_
    have HO_394002 := n1_
    have BK379 := n2_
    have BK393 := n3_
    have HI0 := n4_
    have HK := n5_
    have HB := n6_
    clear n0_ n1_ n2_ n3_ n4_ n5_ n6_
    refine start_ (n := 11) (S := fun w' => w'.cell? ⟨gb393, 0, none⟩ = some (.int .i64 x394000_1) ∧ w'.cell? ⟨gb393, 1, none⟩ = some (.slice Ao23 x394001_1.length co23) ∧ w'.cell? ⟨gb393, 2, none⟩ = some (.slice Ao24 x394002_1.length co24)) (ds := []) #[false, false, false, false, false, false, false, false, false, false, false] (by kernel_rfl) rfl rfl ⟨(bkC BK393.out 0).trans rfl, (bkC BK393.out 1).trans rfl, (bkC BK393.out 2).trans rfl⟩ (fun hHeld => ?_); refine with_tabW spec_l20Mind.tab6 spec_l20Mind.bits6 (fun HT_ HW_ => ?_)
    generalize wr.drew = w25 at HO_394001 HO_394002 BK379 BK393 HI0 HK HB hHeld ⊢
    refine pure_ (i := 1) (N := some 25) (v := ?_) (a' := ?_) #[false, true, false, false, false, false, false, false, false, false, false] rfl rfl (any_of HT_.out (by kernel_rfl)) (fun _ _ _ h => h) (Or.inl ⟨by rfl, ?_⟩) ?_ ?_
    rotate_left
    ·intro w'
     go_simp
     with_reducible rfl
    rotate_left
    ·simp only [Act.put, qA, qB, qC, i64_w, i32_w]
     rfl
    refine take_ (i := 0) (N := some 24) (v := ?_) (a' := ?_) #[true, true, false, false, false, false, false, false, false, false, false] rfl rfl (take_ofW HT_.out HW_.out (by kernel_rfl)) (fun _ _ _ h => h) (Or.inl ⟨by rfl, ?_⟩) hHeld ?_ ?_
    rotate_left
    ·rintro w' ⟨s0, s1, s2⟩
     go_simp
     with_reducible rfl
    rotate_left
    ·simp only [Act.put, qA, qB, qC, i64_w, i32_w]
     rfl
    refine take_ (i := 2) (N := some 26) (v := ?_) (a' := ?_) #[true, true, true, false, false, false, false, false, false, false, false] rfl rfl (take_ofW HT_.out HW_.out (by kernel_rfl)) (fun _ _ _ h => h) (Or.inl ⟨by rfl, ?_⟩) hHeld ?_ ?_
    rotate_left
    ·rintro w' ⟨s0, s1, s2⟩
     go_simp
     with_reducible rfl
    rotate_left
    ·simp only [Act.put, qA, qB, qC, i64_w, i32_w]
     rfl
    refine join_ (σ := Value × Value × Nat) 2 #[true, true, true, true, true, true, true, true, true, false, false] (fun s_ => [(27, .agg #[.int .i64 t396, .string t397]), (28, .tuple #[.agg #[.int .i64 t399, s_.1, s_.2.1], .bool t406]), (8, .pointer (some ⟨s_.2.2, 0, none⟩)), (23, .tuple #[.agg #[.int .i64 t399, s_.1, s_.2.1], .bool t406]), (29, .agg #[.int .i64 t399, s_.1, s_.2.1]), (30, .bool t406)]) (fun s_ w' => (w'.cell? ⟨gb393, 0, none⟩ = some (.int .i64 x394000_1) ∧ w'.cell? ⟨gb393, 1, none⟩ = some (.slice Ao23 x394001_1.length co23) ∧ w'.cell? ⟨gb393, 2, none⟩ = some (.slice Ao24 x394002_1.length co24)) ∧ (Kd.R (Kd.int .i64) 3 w' w.heap.size (fun k_ => some k_ ≠ (.slice Ao23 x394001_1.length co23 : Value).ownBlock) s_.1 t400) ∧ (Kd.S (Kd.slice 3 (Kd.int .i64)) 55 w' w.heap.size (fun k_ => some k_ ≠ (s_.1 : Value).ownBlock ∧ some k_ ≠ (.slice Ao23 x394001_1.length co23 : Value).ownBlock ∧ some k_ ≠ (.slice Ao24 x394002_1.length co24 : Value).ownBlock) s_.2.1 t403) ∧ (Kd.R (Kd.int .i64) 3 w' w.heap.size (fun k_ => some k_ ≠ (s_.1 : Value).ownBlock) (.slice Ao23 x394001_1.length co23) x394001_1) ∧ (Kd.S (Kd.slice 3 (Kd.int .i64)) 55 w' w.heap.size (fun k_ => some k_ ≠ (s_.1 : Value).ownBlock ∧ some k_ ≠ (s_.2.1 : Value).ownBlock ∧ some k_ ≠ (.slice Ao23 x394001_1.length co23 : Value).ownBlock) (.slice Ao24 x394002_1.length co24) x394002_1) ∧ (w'.heap[gb379]? = some (.cells #[.int .i64 0, .slice none 0 0, .slice none 0 0] 58 (0, 0))) ∧ (w'.heap[gb393]? = some (.cells #[.int .i64 x394000_1, .slice Ao23 x394001_1.length co23, .slice Ao24 x394002_1.length co24] 58 (0, 0))) ∧ (w'.heap[s_.2.2]? = some (.cells #[.int .i64 0, .slice none 0 0, .slice none 0 0] 58 (0, 0))) ∧ (w.heap.size ≤ s_.2.2) ∧ (w0.heap.size ≤ s_.2.2) ∧ (g ≠ s_.2.2) ∧ (s_.2.2 ≠ g) ∧ (gb379 ≠ s_.2.2) ∧ (s_.2.2 ≠ gb379) ∧ (gb393 ≠ s_.2.2) ∧ (s_.2.2 ≠ gb393) ∧ (Iz w0 w' g s0_0 t398) ∧ (Kbt w w' g none) ∧ (Below w0.heap.size w0 w')) ?_ ?_
    rotate_left
    ·intro hCont
     refine two_ (i := 3) (j := 8) (Ni := some 27) (Nj := some 8) #[true, true, true, true, false, false, false, false, false, false, false] #[true, true, true, false, false, false, false, false, true, false, false] rfl rfl rfl rfl (two_of HT_.out (by kernel_rfl)) (by decide) (by decide) (fun K hK => ?_) (fun K hK => ?_)
     ·skip
      refine goes_ Try.func87 (by kernel_rfl) rfl #[.pointer (some ⟨g, 0, none⟩), .agg #[.int .i64 x394000_1, .slice Ao23 x394001_1.length co23, .slice Ao24 x394002_1.length co24]] (by rfl) rfl rfl (by (try simp only [List.map_toArray, List.map_cons, List.map_nil]); first | done | rfl | (simp only [List.length_drop, List.length_take]; rfl)) ?_
      with_reducible refine (spec_l20Deed.calls k1 g s0_0 x1001_1 x394000_1 _ _ x394001_1 _ _ x394002_1 t396 t397 t398 w0 _ ?side1 ?side2 ?side3 ?side4 ?side5 ?side6 ?side7 A20.out).mono ?_
      (case side1 => repeat (with_reducible first | exact HI0.out | refine Iz.below ?_ StB.b | apply Iz.set_1 | refine Iz.far ?_ aX _))
      (case side2 => repeat (with_reducible first | exact HB.out | apply bwX | refine bwS ?_ (Iz.ge HI0.out) | refine bwS ?_ GE379.out | refine bwS ?_ GE393.out))
      (case side3 => repeat (first | exact (Kd.R_reads' HO_394001.out).2.2 | (with_reducible refine Kd.C_alloc ?_ _) | (with_reducible refine Kd.C_drewN ?_ _) | (with_reducible refine Kd.C_drew ?_)))
      (case side4 => exact (Kd.R_reads' HO_394001.out).2.1)
      (case side5 => exact far_slice (Iz.own_ne HI0.out HO_394001.out (by decide)))
      (case side6 => exact Kd.C_foot_own ((Kd.S_R (Iz.apartS (show Iz w0 _ g s0_0 x1001_1 from by repeat (with_reducible first | exact HI0.out | refine Iz.below ?_ StB.b | apply Iz.set_1 | refine Iz.far ?_ aX _)) (by (repeat apply Kd.SS); exact HO_394002.out) (by decide)))) (fun _ h_ => h_.2))
      (case side7 => exact (Kd.S_reads' HO_394002.out).2.1)
      rintro e w26 ⟨rfl, hi, hb, hk⟩
      refine ⟨_, rfl, ?_⟩
      have n0_ := Asd.mk (Kd.R_mono (Kd.R_keep (Iz.apart (show Iz w0 _ g s0_0 x1001_1 from by repeat (with_reducible first | exact HI0.out | refine Iz.below ?_ StB.b | apply Iz.set_1 | refine Iz.far ?_ aX _)) (by (repeat apply Kd.RS); exact HO_394001.out) (by decide)) hk (fun _ h => h.2)) (fun _ h => h.1))
      have n1_ := Asd.mk (Kd.S_mono (Kd.S_keep (Iz.apartS (show Iz w0 _ g s0_0 x1001_1 from by repeat (with_reducible first | exact HI0.out | refine Iz.below ?_ StB.b | apply Iz.set_1 | refine Iz.far ?_ aX _)) (by (repeat apply Kd.SS); exact HO_394002.out) (by decide)) hk (fun _ h => h.2)) (fun _ h => h.1))
      have n2_ := Asd.mk (Kbt.blk hk (g' := gb379) (o := .cells #[.int .i64 0, .slice none 0 0, .slice none 0 0] 58 (0, 0)) (by (repeat apply bkS); exact BK379.out) NB379_0.out (by simp))
      have n3_ := Asd.mk (Kbt.blk hk (g' := gb393) (o := .cells #[.int .i64 x394000_1, .slice Ao23 x394001_1.length co23, .slice Ao24 x394002_1.length co24] 58 (0, 0)) (by (repeat apply bkS); exact BK393.out) NB393_0.out (by simp))
      have n4_ := Asd.mk (Kbt.trans (by repeat (with_reducible first | exact HK.out | apply Kbt.set_ | apply kpX | refine kpF ?_ GW379.out _ | refine kpF ?_ GW393.out _)) hk (.inl rfl))
      have n5_ := Asd.mk (hb)
      have n6_ := Asd.mk (hi)
      clear HO_394001
      clear HO_394002
      clear BK379
      clear BK393
      clear HK
      clear HB
      clear HI0
      have HO_394001 := n0_
      have HO_394002 := n1_
      have BK379 := n2_
      have BK393 := n3_
      have HK := n4_
      have HB := n5_
      have HI0 := n6_
      clear n0_ n1_ n2_ n3_ n4_ n5_ n6_
      (try clear hb)
      (try clear hb2)
      (try clear hk)
      (try clear hi)
      refine hK.out _ _ ⟨(bkC BK393.out 0).trans rfl, (bkC BK393.out 1).trans rfl, (bkC BK393.out 2).trans rfl⟩ (fun hHeld => ?_)
      clear hK K
      refine norm_ (a' := ?_) ?_ ?_
      rotate_left
      ·show Act.put _ (some 27) _ = _
       simp only [Act.put, qA, qB, qC, i64_w, i32_w]
       rfl
      refine two_ (i := 4) (j := 8) (Ni := some 28) (Nj := some 8) #[true, true, true, true, true, false, false, false, false, false, false] #[true, true, true, true, false, false, false, false, true, false, false] rfl rfl rfl rfl (two_of HT_.out (by kernel_rfl)) (by decide) (by decide) (fun K hK => ?_) (fun K hK => ?_)
      ·skip
       refine goes_ Try.func63 (by kernel_rfl) rfl #[.agg #[.int .i64 x394000_1, .slice Ao23 x394001_1.length co23, .slice Ao24 x394002_1.length co24], .agg #[.int .i64 t396, .string t397]] (by rfl) rfl rfl (by (try simp only [List.map_toArray, List.map_cons, List.map_nil]); first | done | rfl | (simp only [List.length_drop, List.length_take]; rfl)) ?_
       with_reducible refine (spec_MindDo.calls k1 x394000_1 _ _ x394001_1 _ _ x394002_1 t396 t397 t399 t400 t403 t406 _ ?side1 ?side2 ?side3 ?side4 A21.out).mono ?_
       (case side1 => repeat (first | exact (Kd.R_reads' HO_394001.out).2.2 | (with_reducible refine Kd.C_alloc ?_ _) | (with_reducible refine Kd.C_drewN ?_ _) | (with_reducible refine Kd.C_drew ?_)))
       (case side2 => exact (Kd.R_reads' HO_394001.out).2.1)
       (case side3 => repeat (first | exact (Kd.S_reads' HO_394002.out).2.2 | (with_reducible refine Kd.C_alloc ?_ _) | (with_reducible refine Kd.C_drewN ?_ _) | (with_reducible refine Kd.C_drew ?_)))
       (case side4 => exact (Kd.S_reads' HO_394002.out).2.1)
       rintro e w27 ⟨v401, v404, rfl, ho0, ho1, hb⟩
       refine ⟨_, rfl, ?_⟩
       have n0_ := Asd.mk (Kd.R_elder' (by (repeat apply Kd.RS); exact HO_394001.out) (Kd.R_base ho0) hb)
       have n1_ := Asd.mk (Kd.S_mono (Kd.S_told (Kd.S_told (Kd.S_old (by (repeat apply Kd.SS); exact HO_394002.out) hb) (Kd.R_base ho0)) (Kd.S_base ho1)) (fun _ h_ => h_.1))
       have n2_ := Asd.mk (Kd.R_lower (Kd.R_new' ho0 (Kd.R_lt (by (repeat apply Kd.RS); exact HO_394001.out))) (kpZ (w := w) (g := g) (row := none) (by repeat (with_reducible first | exact HK.out | apply Kbt.set_ | apply kpX | refine kpF ?_ GW379.out _ | refine kpF ?_ GW393.out _))))
       have n3_ := Asd.mk (Kd.S_lower (Kd.S_new' (Kd.S_new' ho1 (Kd.R_lt (by (repeat apply Kd.RS); exact HO_394001.out))) (Kd.S_lt (by (repeat apply Kd.SS); exact HO_394002.out))) (kpZ (w := w) (g := g) (row := none) (by repeat (with_reducible first | exact HK.out | apply Kbt.set_ | apply kpX | refine kpF ?_ GW379.out _ | refine kpF ?_ GW393.out _))))
       have n4_ := Asd.mk (bkB (g := gb379) (o := .cells #[.int .i64 0, .slice none 0 0, .slice none 0 0] 58 (0, 0)) (by (repeat apply bkS); exact BK379.out) hb)
       have n5_ := Asd.mk (bkB (g := gb393) (o := .cells #[.int .i64 x394000_1, .slice Ao23 x394001_1.length co23, .slice Ao24 x394002_1.length co24] 58 (0, 0)) (by (repeat apply bkS); exact BK393.out) hb)
       have n6_ := Asd.mk (Iz.below (by repeat (with_reducible first | exact HI0.out | refine Iz.below ?_ StB.b | apply Iz.set_1 | refine Iz.far ?_ aX _)) hb)
       have n7_ := Asd.mk (Kbt.trans (by repeat (with_reducible first | exact HK.out | apply Kbt.set_ | apply kpX | refine kpF ?_ GW379.out _ | refine kpF ?_ GW393.out _)) (Kbt.of_below hb g none) (.inl rfl))
       have n8_ := Asd.mk (bwP (by repeat (with_reducible first | exact HB.out | apply bwX | refine bwS ?_ (Iz.ge HI0.out) | refine bwS ?_ GE379.out | refine bwS ?_ GE393.out)) hb)
       clear HO_394001
       clear HO_394002
       clear BK379
       clear BK393
       clear HI0
       clear HK
       clear HB
       have HO_394001 := n0_
       have HO_394002 := n1_
       have HO402 := n2_
       have HO405 := n3_
       have BK379 := n4_
       have BK393 := n5_
       have HI0 := n6_
       have HK := n7_
       have HB := n8_
       clear n0_ n1_ n2_ n3_ n4_ n5_ n6_ n7_ n8_
       (try clear hb)
       (try clear hb2)
       (try clear hk)
       (try clear hi)
       (try clear ho0)
       (try clear ho1)
       refine hK.out _ _ ⟨(bkC BK393.out 0).trans rfl, (bkC BK393.out 1).trans rfl, (bkC BK393.out 2).trans rfl⟩ (fun hHeld => ?_)
       clear hK K
       refine norm_ (a' := ?_) ?_ ?_
       rotate_left
       ·show Act.put _ (some 28) _ = _
        simp only [Act.put, qA, qB, qC, i64_w, i32_w]
        rfl
       refine pure_ (i := 5) (N := some 23) (v := ?_) (a' := ?_) #[true, true, true, true, true, true, false, false, false, false, false] rfl rfl (any_of HT_.out (by kernel_rfl)) (fun _ _ _ h => h) (Or.inl ⟨by rfl, ?_⟩) ?_ ?_
       rotate_left
       ·intro w'
        go_simp
        with_reducible rfl
       rotate_left
       ·simp only [Act.put, qA, qB, qC, i64_w, i32_w]
        rfl
       refine pure_ (i := 6) (N := some 29) (v := ?_) (a' := ?_) #[true, true, true, true, true, true, true, false, false, false, false] rfl rfl (any_of HT_.out (by kernel_rfl)) (fun _ _ _ h => h) (Or.inl ⟨by rfl, ?_⟩) ?_ ?_
       rotate_left
       ·intro w'
        go_simp
        with_reducible rfl
       rotate_left
       ·simp only [Act.put, qA, qB, qC, i64_w, i32_w]
        rfl
       refine pure_ (i := 7) (N := some 30) (v := ?_) (a' := ?_) #[true, true, true, true, true, true, true, true, false, false, false] rfl rfl (any_of HT_.out (by kernel_rfl)) (fun _ _ _ h => h) (Or.inl ⟨by rfl, ?_⟩) ?_ ?_
       rotate_left
       ·intro w'
        go_simp
        with_reducible rfl
       rotate_left
       ·simp only [Act.put, qA, qB, qC, i64_w, i32_w]
        rfl
       refine one_ (i := 8) (N := some 8) #[true, true, true, true, true, true, true, true, true, false, false] rfl rfl (one_of HT_.out (by kernel_rfl)) (by decide) (fun K hK => ?_)
       refine box_step ?hg (N := 8) ?hd (cs := #[.int .i64 0, .slice none 0 0, .slice none 0 0]) (t := 58) ?hr ?_; (case hd => rfl); (case hg => rfl); (case hr => first | (go_simp; done) | (go_simp; rfl))
       intro gb407 hg w28 hbox hb
       have n0_ := Asd.mk (Kd.R_below (by (repeat apply Kd.RS); exact HO_394001.out) hb)
       have n1_ := Asd.mk (Kd.S_below (by (repeat apply Kd.SS); exact HO_394002.out) hb)
       have n2_ := Asd.mk (Kd.R_below (by (repeat apply Kd.RS); exact HO402.out) hb)
       have n3_ := Asd.mk (Kd.S_below (by (repeat apply Kd.SS); exact HO405.out) hb)
       have n4_ := Asd.mk (bkB (g := gb379) (o := .cells #[.int .i64 0, .slice none 0 0, .slice none 0 0] 58 (0, 0)) (by (repeat apply bkS); exact BK379.out) hb)
       have n5_ := Asd.mk (bkB (g := gb393) (o := .cells #[.int .i64 x394000_1, .slice Ao23 x394001_1.length co23, .slice Ao24 x394002_1.length co24] 58 (0, 0)) (by (repeat apply bkS); exact BK393.out) hb)
       have n6_ := Asd.mk (Iz.below (by repeat (with_reducible first | exact HI0.out | refine Iz.below ?_ StB.b | apply Iz.set_1 | refine Iz.far ?_ aX _)) hb)
       have n7_ := Asd.mk (Kbt.trans (by repeat (with_reducible first | exact HK.out | apply Kbt.set_ | apply kpX | refine kpF ?_ GW379.out _ | refine kpF ?_ GW393.out _)) (Kbt.of_below hb g none) (.inl rfl))
       have n8_ := Asd.mk (bwP (by repeat (with_reducible first | exact HB.out | apply bwX | refine bwS ?_ (Iz.ge HI0.out) | refine bwS ?_ GE379.out | refine bwS ?_ GE393.out)) hb)
       have n9_ := Asd.mk (hbox)
       have n10_ := Asd.mk ((by rw [hg]; exact (kpZ (w := w) (g := g) (row := none) (by repeat (with_reducible first | exact HK.out | apply Kbt.set_ | apply kpX | refine kpF ?_ GW379.out _ | refine kpF ?_ GW393.out _))) : w.heap.size ≤ gb407))
       have n11_ := Asd.mk ((Nat.le_trans HW0.out (by rw [hg]; exact (kpZ (w := w) (g := g) (row := none) (by repeat (with_reducible first | exact HK.out | apply Kbt.set_ | apply kpX | refine kpF ?_ GW379.out _ | refine kpF ?_ GW393.out _))) : w.heap.size ≤ gb407) : w0.heap.size ≤ gb407))
       have n12_ := Asd.mk ((by rw [hg]; exact Nat.ne_of_lt (bkL (g := gb379) (o := .cells #[.int .i64 0, .slice none 0 0, .slice none 0 0] 58 (0, 0)) (by (repeat apply bkS); exact BK379.out)) : gb379 ≠ gb407))
       have n13_ := Asd.mk ((by rw [hg]; exact Nat.ne_of_gt (bkL (g := gb379) (o := .cells #[.int .i64 0, .slice none 0 0, .slice none 0 0] 58 (0, 0)) (by (repeat apply bkS); exact BK379.out)) : gb407 ≠ gb379))
       have n14_ := Asd.mk ((by rw [hg]; exact Nat.ne_of_lt (bkL (g := gb393) (o := .cells #[.int .i64 x394000_1, .slice Ao23 x394001_1.length co23, .slice Ao24 x394002_1.length co24] 58 (0, 0)) (by (repeat apply bkS); exact BK393.out)) : gb393 ≠ gb407))
       have n15_ := Asd.mk ((by rw [hg]; exact Nat.ne_of_gt (bkL (g := gb393) (o := .cells #[.int .i64 x394000_1, .slice Ao23 x394001_1.length co23, .slice Ao24 x394002_1.length co24] 58 (0, 0)) (by (repeat apply bkS); exact BK393.out)) : gb407 ≠ gb393))
       have n16_ := Asd.mk ((by rw [hg]; exact Nat.ne_of_lt (Iz.lt (show Iz w0 _ g s0_0 t398 from by repeat (with_reducible first | exact HI0.out | refine Iz.below ?_ StB.b | apply Iz.set_1 | refine Iz.far ?_ aX _))) : g ≠ gb407))
       have n17_ := Asd.mk ((by rw [hg]; exact Nat.ne_of_gt (Iz.lt (show Iz w0 _ g s0_0 t398 from by repeat (with_reducible first | exact HI0.out | refine Iz.below ?_ StB.b | apply Iz.set_1 | refine Iz.far ?_ aX _))) : gb407 ≠ g))
       clear HO_394001
       clear HO_394002
       clear HO402
       clear HO405
       clear BK379
       clear BK393
       clear HI0
       clear HK
       clear HB
       have HO_394001 := n0_
       have HO_394002 := n1_
       have HO402 := n2_
       have HO405 := n3_
       have BK379 := n4_
       have BK393 := n5_
       have HI0 := n6_
       have HK := n7_
       have HB := n8_
       have BK407 := n9_
       have GW407 := n10_
       have GE407 := n11_
       have NB379_407 := n12_
       have NB407_379 := n13_
       have NB393_407 := n14_
       have NB407_393 := n15_
       have NB0_407 := n16_
       have NB407_0 := n17_
       clear n0_ n1_ n2_ n3_ n4_ n5_ n6_ n7_ n8_ n9_ n10_ n11_ n12_ n13_ n14_ n15_ n16_ n17_
       clear hb hbox hg
       refine hK.out _ _ ⟨(bkC BK393.out 0).trans rfl, (bkC BK393.out 1).trans rfl, (bkC BK393.out 2).trans rfl⟩ (fun hHeld => ?_)
       clear hK K
       refine norm_ (a' := ?_) ?_ ?_
       rotate_left
       ·show Act.put _ (some 8) _ = _
        simp only [Act.put, qA, qB, qC, i64_w, i32_w]
        rfl
       exact norm_ (by simp only [putAll, Act.put, qA, qB, qC]) (hCont (v401, v404, gb407) _ ⟨hHeld, (by (repeat apply Kd.RS); exact Kd.R_mono HO402.out (fun _ hk => hk.2)), (by (repeat apply Kd.SS); exact Kd.S_mono HO405.out (fun _ hk => ⟨hk.1.1, ⟨hk.1.2, hk.2⟩⟩)), (by (repeat apply Kd.RS); exact Kd.R_mono HO_394001.out (fun _ hk => hk.2)), (by (repeat apply Kd.SS); exact Kd.S_mono HO_394002.out (fun _ hk => ⟨hk.1.2, ⟨hk.2, hk.1.1⟩⟩)), (by (repeat apply bkS); exact BK379.out), (by (repeat apply bkS); exact BK393.out), (by (repeat apply bkS); exact BK407.out), GW407.out, GE407.out, NB0_407.out, NB407_0.out, NB379_407.out, NB407_379.out, NB393_407.out, NB407_393.out, (by repeat (with_reducible first | exact HI0.out | refine Iz.below ?_ StB.b | apply Iz.set_1 | refine Iz.far ?_ aX _)), (by repeat (with_reducible first | exact HK.out | apply Kbt.set_ | apply kpX | refine kpF ?_ GW379.out _ | refine kpF ?_ GW393.out _ | refine kpF ?_ GW407.out _)), (by repeat (with_reducible first | exact HB.out | apply bwX | refine bwS ?_ (Iz.ge HI0.out) | refine bwS ?_ GE379.out | refine bwS ?_ GE393.out | refine bwS ?_ GE407.out))⟩)
      ·skip
       refine box_step ?hg (N := 8) ?hd (cs := #[.int .i64 0, .slice none 0 0, .slice none 0 0]) (t := 58) ?hr ?_; (case hd => rfl); (case hg => rfl); (case hr => first | (go_simp; done) | (go_simp; rfl))
       intro gb407 hg w27 hbox hb
       have n0_ := Asd.mk (Kd.R_below (by (repeat apply Kd.RS); exact HO_394001.out) hb)
       have n1_ := Asd.mk (Kd.S_below (by (repeat apply Kd.SS); exact HO_394002.out) hb)
       have n2_ := Asd.mk (bkB (g := gb379) (o := .cells #[.int .i64 0, .slice none 0 0, .slice none 0 0] 58 (0, 0)) (by (repeat apply bkS); exact BK379.out) hb)
       have n3_ := Asd.mk (bkB (g := gb393) (o := .cells #[.int .i64 x394000_1, .slice Ao23 x394001_1.length co23, .slice Ao24 x394002_1.length co24] 58 (0, 0)) (by (repeat apply bkS); exact BK393.out) hb)
       have n4_ := Asd.mk (Iz.below (by repeat (with_reducible first | exact HI0.out | refine Iz.below ?_ StB.b | apply Iz.set_1 | refine Iz.far ?_ aX _)) hb)
       have n5_ := Asd.mk (Kbt.trans (by repeat (with_reducible first | exact HK.out | apply Kbt.set_ | apply kpX | refine kpF ?_ GW379.out _ | refine kpF ?_ GW393.out _)) (Kbt.of_below hb g none) (.inl rfl))
       have n6_ := Asd.mk (bwP (by repeat (with_reducible first | exact HB.out | apply bwX | refine bwS ?_ (Iz.ge HI0.out) | refine bwS ?_ GE379.out | refine bwS ?_ GE393.out)) hb)
       have n7_ := Asd.mk (hbox)
       have n8_ := Asd.mk ((by rw [hg]; exact (kpZ (w := w) (g := g) (row := none) (by repeat (with_reducible first | exact HK.out | apply Kbt.set_ | apply kpX | refine kpF ?_ GW379.out _ | refine kpF ?_ GW393.out _))) : w.heap.size ≤ gb407))
       have n9_ := Asd.mk ((Nat.le_trans HW0.out (by rw [hg]; exact (kpZ (w := w) (g := g) (row := none) (by repeat (with_reducible first | exact HK.out | apply Kbt.set_ | apply kpX | refine kpF ?_ GW379.out _ | refine kpF ?_ GW393.out _))) : w.heap.size ≤ gb407) : w0.heap.size ≤ gb407))
       have n10_ := Asd.mk ((by rw [hg]; exact Nat.ne_of_lt (bkL (g := gb379) (o := .cells #[.int .i64 0, .slice none 0 0, .slice none 0 0] 58 (0, 0)) (by (repeat apply bkS); exact BK379.out)) : gb379 ≠ gb407))
       have n11_ := Asd.mk ((by rw [hg]; exact Nat.ne_of_gt (bkL (g := gb379) (o := .cells #[.int .i64 0, .slice none 0 0, .slice none 0 0] 58 (0, 0)) (by (repeat apply bkS); exact BK379.out)) : gb407 ≠ gb379))
       have n12_ := Asd.mk ((by rw [hg]; exact Nat.ne_of_lt (bkL (g := gb393) (o := .cells #[.int .i64 x394000_1, .slice Ao23 x394001_1.length co23, .slice Ao24 x394002_1.length co24] 58 (0, 0)) (by (repeat apply bkS); exact BK393.out)) : gb393 ≠ gb407))
       have n13_ := Asd.mk ((by rw [hg]; exact Nat.ne_of_gt (bkL (g := gb393) (o := .cells #[.int .i64 x394000_1, .slice Ao23 x394001_1.length co23, .slice Ao24 x394002_1.length co24] 58 (0, 0)) (by (repeat apply bkS); exact BK393.out)) : gb407 ≠ gb393))
       have n14_ := Asd.mk ((by rw [hg]; exact Nat.ne_of_lt (Iz.lt (show Iz w0 _ g s0_0 t398 from by repeat (with_reducible first | exact HI0.out | refine Iz.below ?_ StB.b | apply Iz.set_1 | refine Iz.far ?_ aX _))) : g ≠ gb407))
       have n15_ := Asd.mk ((by rw [hg]; exact Nat.ne_of_gt (Iz.lt (show Iz w0 _ g s0_0 t398 from by repeat (with_reducible first | exact HI0.out | refine Iz.below ?_ StB.b | apply Iz.set_1 | refine Iz.far ?_ aX _))) : gb407 ≠ g))
       clear HO_394001
       clear HO_394002
       clear BK379
       clear BK393
       clear HI0
       clear HK
       clear HB
       have HO_394001 := n0_
       have HO_394002 := n1_
       have BK379 := n2_
       have BK393 := n3_
       have HI0 := n4_
       have HK := n5_
       have HB := n6_
       have BK407 := n7_
       have GW407 := n8_
       have GE407 := n9_
       have NB379_407 := n10_
       have NB407_379 := n11_
       have NB393_407 := n12_
       have NB407_393 := n13_
       have NB0_407 := n14_
       have NB407_0 := n15_
       clear n0_ n1_ n2_ n3_ n4_ n5_ n6_ n7_ n8_ n9_ n10_ n11_ n12_ n13_ n14_ n15_
       clear hb hbox hg
       refine hK.out _ _ ⟨(bkC BK393.out 0).trans rfl, (bkC BK393.out 1).trans rfl, (bkC BK393.out 2).trans rfl⟩ (fun hHeld => ?_)
       clear hK K
       refine norm_ (a' := ?_) ?_ ?_
       rotate_left
       ·show Act.put _ (some 8) _ = _
        simp only [Act.put, qA, qB, qC, i64_w, i32_w]
        rfl
       refine one_ (i := 4) (N := some 28) #[true, true, true, true, true, false, false, false, true, false, false] rfl rfl (one_of HT_.out (by kernel_rfl)) (by decide) (fun K hK => ?_)
       refine goes_ Try.func63 (by kernel_rfl) rfl #[.agg #[.int .i64 x394000_1, .slice Ao23 x394001_1.length co23, .slice Ao24 x394002_1.length co24], .agg #[.int .i64 t396, .string t397]] (by rfl) rfl rfl (by (try simp only [List.map_toArray, List.map_cons, List.map_nil]); first | done | rfl | (simp only [List.length_drop, List.length_take]; rfl)) ?_
       with_reducible refine (spec_MindDo.calls k1 x394000_1 _ _ x394001_1 _ _ x394002_1 t396 t397 t399 t400 t403 t406 _ ?side1 ?side2 ?side3 ?side4 A21.out).mono ?_
       (case side1 => repeat (first | exact (Kd.R_reads' HO_394001.out).2.2 | (with_reducible refine Kd.C_alloc ?_ _) | (with_reducible refine Kd.C_drewN ?_ _) | (with_reducible refine Kd.C_drew ?_)))
       (case side2 => exact (Kd.R_reads' HO_394001.out).2.1)
       (case side3 => repeat (first | exact (Kd.S_reads' HO_394002.out).2.2 | (with_reducible refine Kd.C_alloc ?_ _) | (with_reducible refine Kd.C_drewN ?_ _) | (with_reducible refine Kd.C_drew ?_)))
       (case side4 => exact (Kd.S_reads' HO_394002.out).2.1)
       rintro e w28 ⟨v401, v404, rfl, ho0, ho1, hb⟩
       refine ⟨_, rfl, ?_⟩
       have n0_ := Asd.mk (Kd.R_elder' (by (repeat apply Kd.RS); exact HO_394001.out) (Kd.R_base ho0) hb)
       have n1_ := Asd.mk (Kd.S_mono (Kd.S_told (Kd.S_told (Kd.S_old (by (repeat apply Kd.SS); exact HO_394002.out) hb) (Kd.R_base ho0)) (Kd.S_base ho1)) (fun _ h_ => h_.1))
       have n2_ := Asd.mk (Kd.R_lower (Kd.R_new' ho0 (Kd.R_lt (by (repeat apply Kd.RS); exact HO_394001.out))) (kpZ (w := w) (g := g) (row := none) (by repeat (with_reducible first | exact HK.out | apply Kbt.set_ | apply kpX | refine kpF ?_ GW379.out _ | refine kpF ?_ GW393.out _ | refine kpF ?_ GW407.out _))))
       have n3_ := Asd.mk (Kd.S_lower (Kd.S_new' (Kd.S_new' ho1 (Kd.R_lt (by (repeat apply Kd.RS); exact HO_394001.out))) (Kd.S_lt (by (repeat apply Kd.SS); exact HO_394002.out))) (kpZ (w := w) (g := g) (row := none) (by repeat (with_reducible first | exact HK.out | apply Kbt.set_ | apply kpX | refine kpF ?_ GW379.out _ | refine kpF ?_ GW393.out _ | refine kpF ?_ GW407.out _))))
       have n4_ := Asd.mk (bkB (g := gb379) (o := .cells #[.int .i64 0, .slice none 0 0, .slice none 0 0] 58 (0, 0)) (by (repeat apply bkS); exact BK379.out) hb)
       have n5_ := Asd.mk (bkB (g := gb393) (o := .cells #[.int .i64 x394000_1, .slice Ao23 x394001_1.length co23, .slice Ao24 x394002_1.length co24] 58 (0, 0)) (by (repeat apply bkS); exact BK393.out) hb)
       have n6_ := Asd.mk (Iz.below (by repeat (with_reducible first | exact HI0.out | refine Iz.below ?_ StB.b | apply Iz.set_1 | refine Iz.far ?_ aX _)) hb)
       have n7_ := Asd.mk (bkB (g := gb407) (o := .cells #[.int .i64 0, .slice none 0 0, .slice none 0 0] 58 (0, 0)) (by (repeat apply bkS); exact BK407.out) hb)
       have n8_ := Asd.mk (Kbt.trans (by repeat (with_reducible first | exact HK.out | apply Kbt.set_ | apply kpX | refine kpF ?_ GW379.out _ | refine kpF ?_ GW393.out _ | refine kpF ?_ GW407.out _)) (Kbt.of_below hb g none) (.inl rfl))
       have n9_ := Asd.mk (bwP (by repeat (with_reducible first | exact HB.out | apply bwX | refine bwS ?_ (Iz.ge HI0.out) | refine bwS ?_ GE379.out | refine bwS ?_ GE393.out | refine bwS ?_ GE407.out)) hb)
       clear HO_394001
       clear HO_394002
       clear BK379
       clear BK393
       clear HI0
       clear BK407
       clear HK
       clear HB
       have HO_394001 := n0_
       have HO_394002 := n1_
       have HO402 := n2_
       have HO405 := n3_
       have BK379 := n4_
       have BK393 := n5_
       have HI0 := n6_
       have BK407 := n7_
       have HK := n8_
       have HB := n9_
       clear n0_ n1_ n2_ n3_ n4_ n5_ n6_ n7_ n8_ n9_
       (try clear hb)
       (try clear hb2)
       (try clear hk)
       (try clear hi)
       (try clear ho0)
       (try clear ho1)
       refine hK.out _ _ ⟨(bkC BK393.out 0).trans rfl, (bkC BK393.out 1).trans rfl, (bkC BK393.out 2).trans rfl⟩ (fun hHeld => ?_)
       clear hK K
       refine norm_ (a' := ?_) ?_ ?_
       rotate_left
       ·show Act.put _ (some 28) _ = _
        simp only [Act.put, qA, qB, qC, i64_w, i32_w]
        rfl
       refine pure_ (i := 5) (N := some 23) (v := ?_) (a' := ?_) #[true, true, true, true, true, true, false, false, true, false, false] rfl rfl (any_of HT_.out (by kernel_rfl)) (fun _ _ _ h => h) (Or.inl ⟨by rfl, ?_⟩) ?_ ?_
       rotate_left
       ·intro w'
        go_simp
        with_reducible rfl
       rotate_left
       ·simp only [Act.put, qA, qB, qC, i64_w, i32_w]
        rfl
       refine pure_ (i := 6) (N := some 29) (v := ?_) (a' := ?_) #[true, true, true, true, true, true, true, false, true, false, false] rfl rfl (any_of HT_.out (by kernel_rfl)) (fun _ _ _ h => h) (Or.inl ⟨by rfl, ?_⟩) ?_ ?_
       rotate_left
       ·intro w'
        go_simp
        with_reducible rfl
       rotate_left
       ·simp only [Act.put, qA, qB, qC, i64_w, i32_w]
        rfl
       refine pure_ (i := 7) (N := some 30) (v := ?_) (a' := ?_) #[true, true, true, true, true, true, true, true, true, false, false] rfl rfl (any_of HT_.out (by kernel_rfl)) (fun _ _ _ h => h) (Or.inl ⟨by rfl, ?_⟩) ?_ ?_
       rotate_left
       ·intro w'
        go_simp
        with_reducible rfl
       rotate_left
       ·simp only [Act.put, qA, qB, qC, i64_w, i32_w]
        rfl
       exact norm_ (by simp only [putAll, Act.put, qA, qB, qC]) (hCont (v401, v404, gb407) _ ⟨hHeld, (by (repeat apply Kd.RS); exact Kd.R_mono HO402.out (fun _ hk => hk.2)), (by (repeat apply Kd.SS); exact Kd.S_mono HO405.out (fun _ hk => ⟨hk.1.1, ⟨hk.1.2, hk.2⟩⟩)), (by (repeat apply Kd.RS); exact Kd.R_mono HO_394001.out (fun _ hk => hk.2)), (by (repeat apply Kd.SS); exact Kd.S_mono HO_394002.out (fun _ hk => ⟨hk.1.2, ⟨hk.2, hk.1.1⟩⟩)), (by (repeat apply bkS); exact BK379.out), (by (repeat apply bkS); exact BK393.out), (by (repeat apply bkS); exact BK407.out), GW407.out, GE407.out, NB0_407.out, NB407_0.out, NB379_407.out, NB407_379.out, NB393_407.out, NB407_393.out, (by repeat (with_reducible first | exact HI0.out | refine Iz.below ?_ StB.b | apply Iz.set_1 | refine Iz.far ?_ aX _)), (by repeat (with_reducible first | exact HK.out | apply Kbt.set_ | apply kpX | refine kpF ?_ GW379.out _ | refine kpF ?_ GW393.out _ | refine kpF ?_ GW407.out _)), (by repeat (with_reducible first | exact HB.out | apply bwX | refine bwS ?_ (Iz.ge HI0.out) | refine bwS ?_ GE379.out | refine bwS ?_ GE393.out | refine bwS ?_ GE407.out))⟩)
     ·skip
      refine box_step ?hg (N := 8) ?hd (cs := #[.int .i64 0, .slice none 0 0, .slice none 0 0]) (t := 58) ?hr ?_; (case hd => rfl); (case hg => rfl); (case hr => first | (go_simp; done) | (go_simp; rfl))
      intro gb407 hg w26 hbox hb
      have n0_ := Asd.mk (Kd.R_below (by (repeat apply Kd.RS); exact HO_394001.out) hb)
      have n1_ := Asd.mk (Kd.S_below (by (repeat apply Kd.SS); exact HO_394002.out) hb)
      have n2_ := Asd.mk (bkB (g := gb379) (o := .cells #[.int .i64 0, .slice none 0 0, .slice none 0 0] 58 (0, 0)) (by (repeat apply bkS); exact BK379.out) hb)
      have n3_ := Asd.mk (bkB (g := gb393) (o := .cells #[.int .i64 x394000_1, .slice Ao23 x394001_1.length co23, .slice Ao24 x394002_1.length co24] 58 (0, 0)) (by (repeat apply bkS); exact BK393.out) hb)
      have n4_ := Asd.mk (Iz.below (by repeat (with_reducible first | exact HI0.out | refine Iz.below ?_ StB.b | apply Iz.set_1 | refine Iz.far ?_ aX _)) hb)
      have n5_ := Asd.mk (Kbt.trans (by repeat (with_reducible first | exact HK.out | apply Kbt.set_ | apply kpX | refine kpF ?_ GW379.out _ | refine kpF ?_ GW393.out _)) (Kbt.of_below hb g none) (.inl rfl))
      have n6_ := Asd.mk (bwP (by repeat (with_reducible first | exact HB.out | apply bwX | refine bwS ?_ (Iz.ge HI0.out) | refine bwS ?_ GE379.out | refine bwS ?_ GE393.out)) hb)
      have n7_ := Asd.mk (hbox)
      have n8_ := Asd.mk ((by rw [hg]; exact (kpZ (w := w) (g := g) (row := none) (by repeat (with_reducible first | exact HK.out | apply Kbt.set_ | apply kpX | refine kpF ?_ GW379.out _ | refine kpF ?_ GW393.out _))) : w.heap.size ≤ gb407))
      have n9_ := Asd.mk ((Nat.le_trans HW0.out (by rw [hg]; exact (kpZ (w := w) (g := g) (row := none) (by repeat (with_reducible first | exact HK.out | apply Kbt.set_ | apply kpX | refine kpF ?_ GW379.out _ | refine kpF ?_ GW393.out _))) : w.heap.size ≤ gb407) : w0.heap.size ≤ gb407))
      have n10_ := Asd.mk ((by rw [hg]; exact Nat.ne_of_lt (bkL (g := gb379) (o := .cells #[.int .i64 0, .slice none 0 0, .slice none 0 0] 58 (0, 0)) (by (repeat apply bkS); exact BK379.out)) : gb379 ≠ gb407))
      have n11_ := Asd.mk ((by rw [hg]; exact Nat.ne_of_gt (bkL (g := gb379) (o := .cells #[.int .i64 0, .slice none 0 0, .slice none 0 0] 58 (0, 0)) (by (repeat apply bkS); exact BK379.out)) : gb407 ≠ gb379))
      have n12_ := Asd.mk ((by rw [hg]; exact Nat.ne_of_lt (bkL (g := gb393) (o := .cells #[.int .i64 x394000_1, .slice Ao23 x394001_1.length co23, .slice Ao24 x394002_1.length co24] 58 (0, 0)) (by (repeat apply bkS); exact BK393.out)) : gb393 ≠ gb407))
      have n13_ := Asd.mk ((by rw [hg]; exact Nat.ne_of_gt (bkL (g := gb393) (o := .cells #[.int .i64 x394000_1, .slice Ao23 x394001_1.length co23, .slice Ao24 x394002_1.length co24] 58 (0, 0)) (by (repeat apply bkS); exact BK393.out)) : gb407 ≠ gb393))
      have n14_ := Asd.mk ((by rw [hg]; exact Nat.ne_of_lt (Iz.lt (show Iz w0 _ g s0_0 x1001_1 from by repeat (with_reducible first | exact HI0.out | refine Iz.below ?_ StB.b | apply Iz.set_1 | refine Iz.far ?_ aX _))) : g ≠ gb407))
      have n15_ := Asd.mk ((by rw [hg]; exact Nat.ne_of_gt (Iz.lt (show Iz w0 _ g s0_0 x1001_1 from by repeat (with_reducible first | exact HI0.out | refine Iz.below ?_ StB.b | apply Iz.set_1 | refine Iz.far ?_ aX _))) : gb407 ≠ g))
      clear HO_394001
      clear HO_394002
      clear BK379
      clear BK393
      clear HI0
      clear HK
      clear HB
      have HO_394001 := n0_
      have HO_394002 := n1_
      have BK379 := n2_
      have BK393 := n3_
      have HI0 := n4_
      have HK := n5_
      have HB := n6_
      have BK407 := n7_
      have GW407 := n8_
      have GE407 := n9_
      have NB379_407 := n10_
      have NB407_379 := n11_
      have NB393_407 := n12_
      have NB407_393 := n13_
      have NB0_407 := n14_
      have NB407_0 := n15_
      clear n0_ n1_ n2_ n3_ n4_ n5_ n6_ n7_ n8_ n9_ n10_ n11_ n12_ n13_ n14_ n15_
      clear hb hbox hg
      refine hK.out _ _ ⟨(bkC BK393.out 0).trans rfl, (bkC BK393.out 1).trans rfl, (bkC BK393.out 2).trans rfl⟩ (fun hHeld => ?_)
      clear hK K
      refine norm_ (a' := ?_) ?_ ?_
      rotate_left
      ·show Act.put _ (some 8) _ = _
       simp only [Act.put, qA, qB, qC, i64_w, i32_w]
       rfl
      refine one_ (i := 3) (N := some 27) #[true, true, true, true, false, false, false, false, true, false, false] rfl rfl (one_of HT_.out (by kernel_rfl)) (by decide) (fun K hK => ?_)
      refine goes_ Try.func87 (by kernel_rfl) rfl #[.pointer (some ⟨g, 0, none⟩), .agg #[.int .i64 x394000_1, .slice Ao23 x394001_1.length co23, .slice Ao24 x394002_1.length co24]] (by rfl) rfl rfl (by (try simp only [List.map_toArray, List.map_cons, List.map_nil]); first | done | rfl | (simp only [List.length_drop, List.length_take]; rfl)) ?_
      with_reducible refine (spec_l20Deed.calls k1 g s0_0 x1001_1 x394000_1 _ _ x394001_1 _ _ x394002_1 t396 t397 t398 w0 _ ?side1 ?side2 ?side3 ?side4 ?side5 ?side6 ?side7 A20.out).mono ?_
      (case side1 => repeat (with_reducible first | exact HI0.out | refine Iz.below ?_ StB.b | apply Iz.set_1 | refine Iz.far ?_ aX _))
      (case side2 => repeat (with_reducible first | exact HB.out | apply bwX | refine bwS ?_ (Iz.ge HI0.out) | refine bwS ?_ GE379.out | refine bwS ?_ GE393.out | refine bwS ?_ GE407.out))
      (case side3 => repeat (first | exact (Kd.R_reads' HO_394001.out).2.2 | (with_reducible refine Kd.C_alloc ?_ _) | (with_reducible refine Kd.C_drewN ?_ _) | (with_reducible refine Kd.C_drew ?_)))
      (case side4 => exact (Kd.R_reads' HO_394001.out).2.1)
      (case side5 => exact far_slice (Iz.own_ne HI0.out HO_394001.out (by decide)))
      (case side6 => exact Kd.C_foot_own ((Kd.S_R (Iz.apartS (show Iz w0 _ g s0_0 x1001_1 from by repeat (with_reducible first | exact HI0.out | refine Iz.below ?_ StB.b | apply Iz.set_1 | refine Iz.far ?_ aX _)) (by (repeat apply Kd.SS); exact HO_394002.out) (by decide)))) (fun _ h_ => h_.2))
      (case side7 => exact (Kd.S_reads' HO_394002.out).2.1)
      rintro e w27 ⟨rfl, hi, hb, hk⟩
      refine ⟨_, rfl, ?_⟩
      have n0_ := Asd.mk (Kd.R_mono (Kd.R_keep (Iz.apart (show Iz w0 _ g s0_0 x1001_1 from by repeat (with_reducible first | exact HI0.out | refine Iz.below ?_ StB.b | apply Iz.set_1 | refine Iz.far ?_ aX _)) (by (repeat apply Kd.RS); exact HO_394001.out) (by decide)) hk (fun _ h => h.2)) (fun _ h => h.1))
      have n1_ := Asd.mk (Kd.S_mono (Kd.S_keep (Iz.apartS (show Iz w0 _ g s0_0 x1001_1 from by repeat (with_reducible first | exact HI0.out | refine Iz.below ?_ StB.b | apply Iz.set_1 | refine Iz.far ?_ aX _)) (by (repeat apply Kd.SS); exact HO_394002.out) (by decide)) hk (fun _ h => h.2)) (fun _ h => h.1))
      have n2_ := Asd.mk (Kbt.blk hk (g' := gb379) (o := .cells #[.int .i64 0, .slice none 0 0, .slice none 0 0] 58 (0, 0)) (by (repeat apply bkS); exact BK379.out) NB379_0.out (by simp))
      have n3_ := Asd.mk (Kbt.blk hk (g' := gb393) (o := .cells #[.int .i64 x394000_1, .slice Ao23 x394001_1.length co23, .slice Ao24 x394002_1.length co24] 58 (0, 0)) (by (repeat apply bkS); exact BK393.out) NB393_0.out (by simp))
      have n4_ := Asd.mk (Kbt.blk hk (g' := gb407) (o := .cells #[.int .i64 0, .slice none 0 0, .slice none 0 0] 58 (0, 0)) (by (repeat apply bkS); exact BK407.out) NB407_0.out (by simp))
      have n5_ := Asd.mk (Kbt.trans (by repeat (with_reducible first | exact HK.out | apply Kbt.set_ | apply kpX | refine kpF ?_ GW379.out _ | refine kpF ?_ GW393.out _ | refine kpF ?_ GW407.out _)) hk (.inl rfl))
      have n6_ := Asd.mk (hb)
      have n7_ := Asd.mk (hi)
      clear HO_394001
      clear HO_394002
      clear BK379
      clear BK393
      clear BK407
      clear HK
      clear HB
      clear HI0
      have HO_394001 := n0_
      have HO_394002 := n1_
      have BK379 := n2_
      have BK393 := n3_
      have BK407 := n4_
      have HK := n5_
      have HB := n6_
      have HI0 := n7_
      clear n0_ n1_ n2_ n3_ n4_ n5_ n6_ n7_
      (try clear hb)
      (try clear hb2)
      (try clear hk)
      (try clear hi)
      refine hK.out _ _ ⟨(bkC BK393.out 0).trans rfl, (bkC BK393.out 1).trans rfl, (bkC BK393.out 2).trans rfl⟩ (fun hHeld => ?_)
      clear hK K
      refine norm_ (a' := ?_) ?_ ?_
      rotate_left
      ·show Act.put _ (some 27) _ = _
       simp only [Act.put, qA, qB, qC, i64_w, i32_w]
       rfl
      refine one_ (i := 4) (N := some 28) #[true, true, true, true, true, false, false, false, true, false, false] rfl rfl (one_of HT_.out (by kernel_rfl)) (by decide) (fun K hK => ?_)
      refine goes_ Try.func63 (by kernel_rfl) rfl #[.agg #[.int .i64 x394000_1, .slice Ao23 x394001_1.length co23, .slice Ao24 x394002_1.length co24], .agg #[.int .i64 t396, .string t397]] (by rfl) rfl rfl (by (try simp only [List.map_toArray, List.map_cons, List.map_nil]); first | done | rfl | (simp only [List.length_drop, List.length_take]; rfl)) ?_
      with_reducible refine (spec_MindDo.calls k1 x394000_1 _ _ x394001_1 _ _ x394002_1 t396 t397 t399 t400 t403 t406 _ ?side1 ?side2 ?side3 ?side4 A21.out).mono ?_
      (case side1 => repeat (first | exact (Kd.R_reads' HO_394001.out).2.2 | (with_reducible refine Kd.C_alloc ?_ _) | (with_reducible refine Kd.C_drewN ?_ _) | (with_reducible refine Kd.C_drew ?_)))
      (case side2 => exact (Kd.R_reads' HO_394001.out).2.1)
      (case side3 => repeat (first | exact (Kd.S_reads' HO_394002.out).2.2 | (with_reducible refine Kd.C_alloc ?_ _) | (with_reducible refine Kd.C_drewN ?_ _) | (with_reducible refine Kd.C_drew ?_)))
      (case side4 => exact (Kd.S_reads' HO_394002.out).2.1)
      rintro e w28 ⟨v401, v404, rfl, ho0, ho1, hb⟩
      refine ⟨_, rfl, ?_⟩
      have n0_ := Asd.mk (Kd.R_elder' (by (repeat apply Kd.RS); exact HO_394001.out) (Kd.R_base ho0) hb)
      have n1_ := Asd.mk (Kd.S_mono (Kd.S_told (Kd.S_told (Kd.S_old (by (repeat apply Kd.SS); exact HO_394002.out) hb) (Kd.R_base ho0)) (Kd.S_base ho1)) (fun _ h_ => h_.1))
      have n2_ := Asd.mk (Kd.R_lower (Kd.R_new' ho0 (Kd.R_lt (by (repeat apply Kd.RS); exact HO_394001.out))) (kpZ (w := w) (g := g) (row := none) (by repeat (with_reducible first | exact HK.out | apply Kbt.set_ | apply kpX | refine kpF ?_ GW379.out _ | refine kpF ?_ GW393.out _ | refine kpF ?_ GW407.out _))))
      have n3_ := Asd.mk (Kd.S_lower (Kd.S_new' (Kd.S_new' ho1 (Kd.R_lt (by (repeat apply Kd.RS); exact HO_394001.out))) (Kd.S_lt (by (repeat apply Kd.SS); exact HO_394002.out))) (kpZ (w := w) (g := g) (row := none) (by repeat (with_reducible first | exact HK.out | apply Kbt.set_ | apply kpX | refine kpF ?_ GW379.out _ | refine kpF ?_ GW393.out _ | refine kpF ?_ GW407.out _))))
      have n4_ := Asd.mk (bkB (g := gb379) (o := .cells #[.int .i64 0, .slice none 0 0, .slice none 0 0] 58 (0, 0)) (by (repeat apply bkS); exact BK379.out) hb)
      have n5_ := Asd.mk (bkB (g := gb393) (o := .cells #[.int .i64 x394000_1, .slice Ao23 x394001_1.length co23, .slice Ao24 x394002_1.length co24] 58 (0, 0)) (by (repeat apply bkS); exact BK393.out) hb)
      have n6_ := Asd.mk (Iz.below (by repeat (with_reducible first | exact HI0.out | refine Iz.below ?_ StB.b | apply Iz.set_1 | refine Iz.far ?_ aX _)) hb)
      have n7_ := Asd.mk (bkB (g := gb407) (o := .cells #[.int .i64 0, .slice none 0 0, .slice none 0 0] 58 (0, 0)) (by (repeat apply bkS); exact BK407.out) hb)
      have n8_ := Asd.mk (Kbt.trans (by repeat (with_reducible first | exact HK.out | apply Kbt.set_ | apply kpX | refine kpF ?_ GW379.out _ | refine kpF ?_ GW393.out _ | refine kpF ?_ GW407.out _)) (Kbt.of_below hb g none) (.inl rfl))
      have n9_ := Asd.mk (bwP (by repeat (with_reducible first | exact HB.out | apply bwX | refine bwS ?_ (Iz.ge HI0.out) | refine bwS ?_ GE379.out | refine bwS ?_ GE393.out | refine bwS ?_ GE407.out)) hb)
      clear HO_394001
      clear HO_394002
      clear BK379
      clear BK393
      clear HI0
      clear BK407
      clear HK
      clear HB
      have HO_394001 := n0_
      have HO_394002 := n1_
      have HO402 := n2_
      have HO405 := n3_
      have BK379 := n4_
      have BK393 := n5_
      have HI0 := n6_
      have BK407 := n7_
      have HK := n8_
      have HB := n9_
      clear n0_ n1_ n2_ n3_ n4_ n5_ n6_ n7_ n8_ n9_
      (try clear hb)
      (try clear hb2)
      (try clear hk)
      (try clear hi)
      (try clear ho0)
      (try clear ho1)
      refine hK.out _ _ ⟨(bkC BK393.out 0).trans rfl, (bkC BK393.out 1).trans rfl, (bkC BK393.out 2).trans rfl⟩ (fun hHeld => ?_)
      clear hK K
      refine norm_ (a' := ?_) ?_ ?_
      rotate_left
      ·show Act.put _ (some 28) _ = _
       simp only [Act.put, qA, qB, qC, i64_w, i32_w]
       rfl
      refine pure_ (i := 5) (N := some 23) (v := ?_) (a' := ?_) #[true, true, true, true, true, true, false, false, true, false, false] rfl rfl (any_of HT_.out (by kernel_rfl)) (fun _ _ _ h => h) (Or.inl ⟨by rfl, ?_⟩) ?_ ?_
      rotate_left
      ·intro w'
       go_simp
       with_reducible rfl
      rotate_left
      ·simp only [Act.put, qA, qB, qC, i64_w, i32_w]
       rfl
      refine pure_ (i := 6) (N := some 29) (v := ?_) (a' := ?_) #[true, true, true, true, true, true, true, false, true, false, false] rfl rfl (any_of HT_.out (by kernel_rfl)) (fun _ _ _ h => h) (Or.inl ⟨by rfl, ?_⟩) ?_ ?_
      rotate_left
      ·intro w'
       go_simp
       with_reducible rfl
      rotate_left
      ·simp only [Act.put, qA, qB, qC, i64_w, i32_w]
       rfl
      refine pure_ (i := 7) (N := some 30) (v := ?_) (a' := ?_) #[true, true, true, true, true, true, true, true, true, false, false] rfl rfl (any_of HT_.out (by kernel_rfl)) (fun _ _ _ h => h) (Or.inl ⟨by rfl, ?_⟩) ?_ ?_
      rotate_left
      ·intro w'
       go_simp
       with_reducible rfl
      rotate_left
      ·simp only [Act.put, qA, qB, qC, i64_w, i32_w]
       rfl
      exact norm_ (by simp only [putAll, Act.put, qA, qB, qC]) (hCont (v401, v404, gb407) _ ⟨hHeld, (by (repeat apply Kd.RS); exact Kd.R_mono HO402.out (fun _ hk => hk.2)), (by (repeat apply Kd.SS); exact Kd.S_mono HO405.out (fun _ hk => ⟨hk.1.1, ⟨hk.1.2, hk.2⟩⟩)), (by (repeat apply Kd.RS); exact Kd.R_mono HO_394001.out (fun _ hk => hk.2)), (by (repeat apply Kd.SS); exact Kd.S_mono HO_394002.out (fun _ hk => ⟨hk.1.2, ⟨hk.2, hk.1.1⟩⟩)), (by (repeat apply bkS); exact BK379.out), (by (repeat apply bkS); exact BK393.out), (by (repeat apply bkS); exact BK407.out), GW407.out, GE407.out, NB0_407.out, NB407_0.out, NB379_407.out, NB407_379.out, NB393_407.out, NB407_393.out, (by repeat (with_reducible first | exact HI0.out | refine Iz.below ?_ StB.b | apply Iz.set_1 | refine Iz.far ?_ aX _)), (by repeat (with_reducible first | exact HK.out | apply Kbt.set_ | apply kpX | refine kpF ?_ GW379.out _ | refine kpF ?_ GW393.out _ | refine kpF ?_ GW407.out _)), (by repeat (with_reducible first | exact HB.out | apply bwX | refine bwS ?_ (Iz.ge HI0.out) | refine bwS ?_ GE379.out | refine bwS ?_ GE393.out | refine bwS ?_ GE407.out))⟩)
    rintro ⟨v401, v404, gb407⟩ w29 ⟨hS_, h0_, h1_, h2_, h3_, h4_, h5_, h6_, h7_, h8_, h9_, h10_, h11_, h12_, h13_, h14_, h15_, h16_, h17_⟩
    have n0_ : Asd (Kd.R (Kd.int .i64) 3 w29 w.heap.size (fun k_ => some k_ ≠ (.slice Ao23 x394001_1.length co23 : Value).ownBlock) v401 t400) := ⟨h0_⟩
    have n1_ : Asd (Kd.S (Kd.slice 3 (Kd.int .i64)) 55 w29 w.heap.size (fun k_ => some k_ ≠ (v401 : Value).ownBlock ∧ some k_ ≠ (.slice Ao23 x394001_1.length co23 : Value).ownBlock ∧ some k_ ≠ (.slice Ao24 x394002_1.length co24 : Value).ownBlock) v404 t403) := ⟨h1_⟩
    have n2_ : Asd (Kd.R (Kd.int .i64) 3 w29 w.heap.size (fun k_ => some k_ ≠ (v401 : Value).ownBlock) (.slice Ao23 x394001_1.length co23) x394001_1) := ⟨h2_⟩
    have n3_ : Asd (Kd.S (Kd.slice 3 (Kd.int .i64)) 55 w29 w.heap.size (fun k_ => some k_ ≠ (v401 : Value).ownBlock ∧ some k_ ≠ (v404 : Value).ownBlock ∧ some k_ ≠ (.slice Ao23 x394001_1.length co23 : Value).ownBlock) (.slice Ao24 x394002_1.length co24) x394002_1) := ⟨h3_⟩
    have n4_ : Asd (w29.heap[gb379]? = some (.cells #[.int .i64 0, .slice none 0 0, .slice none 0 0] 58 (0, 0))) := ⟨h4_⟩
    have n5_ : Asd (w29.heap[gb393]? = some (.cells #[.int .i64 x394000_1, .slice Ao23 x394001_1.length co23, .slice Ao24 x394002_1.length co24] 58 (0, 0))) := ⟨h5_⟩
    have n6_ : Asd (w29.heap[gb407]? = some (.cells #[.int .i64 0, .slice none 0 0, .slice none 0 0] 58 (0, 0))) := ⟨h6_⟩
    have n7_ : Asd (w.heap.size ≤ gb407) := ⟨h7_⟩
    have n8_ : Asd (w0.heap.size ≤ gb407) := ⟨h8_⟩
    have n9_ : Asd (g ≠ gb407) := ⟨h9_⟩
    have n10_ : Asd (gb407 ≠ g) := ⟨h10_⟩
    have n11_ : Asd (gb379 ≠ gb407) := ⟨h11_⟩
    have n12_ : Asd (gb407 ≠ gb379) := ⟨h12_⟩
    have n13_ : Asd (gb393 ≠ gb407) := ⟨h13_⟩
    have n14_ : Asd (gb407 ≠ gb393) := ⟨h14_⟩
    have n15_ : Asd (Iz w0 w29 g s0_0 t398) := ⟨h15_⟩
    have n16_ : Asd (Kbt w w29 g none) := ⟨h16_⟩
    have n17_ : Asd (Below w0.heap.size w0 w29) := ⟨h17_⟩
    clear HO_394001
    clear HO_394002
    clear BK379
    clear BK393
    clear HI0
    clear HK
    clear HB
    clear h0_ h1_ h2_ h3_ h4_ h5_ h6_ h7_ h8_ h9_ h10_ h11_ h12_ h13_ h14_ h15_ h16_ h17_
    have HO402 := n0_
    have HO405 := n1_
    have HO_394001 := n2_
    have HO_394002 := n3_
    have BK379 := n4_
    have BK393 := n5_
    have BK407 := n6_
    have GW407 := n7_
    have GE407 := n8_
    have NB0_407 := n9_
    have NB407_0 := n10_
    have NB379_407 := n11_
    have NB407_379 := n12_
    have NB393_407 := n13_
    have NB407_393 := n14_
    have HI0 := n15_
    have HK := n16_
    have HB := n17_
    clear n0_ n1_ n2_ n3_ n4_ n5_ n6_ n7_ n8_ n9_ n10_ n11_ n12_ n13_ n14_ n15_ n16_ n17_
    have hHeld : w29.cell? ⟨gb393, 0, none⟩ = some (.int .i64 x394000_1) ∧ w29.cell? ⟨gb393, 1, none⟩ = some (.slice Ao23 x394001_1.length co23) ∧ w29.cell? ⟨gb393, 2, none⟩ = some (.slice Ao24 x394002_1.length co24) := hS_
    obtain ⟨Ao31, co31, eo31⟩ := Kd.R_slice HO402.out
    (first | subst eo31 | (injection eo31 with f1_ f2_ f3_; have f4_ := f1_.symm; have f5_ := f3_.symm; clear f1_ f2_ f3_; subst f4_; subst f5_))
    obtain ⟨Ao33, co33, eo33⟩ := Kd.S_slice HO405.out
    (first | subst eo33 | (injection eo33 with f1_ f2_ f3_; have f4_ := f1_.symm; have f5_ := f3_.symm; clear f1_ f2_ f3_; subst f4_; subst f5_))
    refine norm_ (a' := ?_) ?_ ?_
    rotate_left
    ·simp only [putAll, Act.put, qA, qB, qC]
     rfl
    refine one_ (i := 9) (N := none) #[true, true, true, true, true, true, true, true, true, true, false] rfl rfl (one_of HT_.out (by kernel_rfl)) (by decide) (fun K hK => ?_)
    have hs30 : w29.cell? ⟨gb407, 0, none⟩ = some (.int .i64 0) := (bkC BK407.out 0).trans rfl
    have hfs30 := bkF BK407.out 0
    have hns30_0 := NB379_407.out
    have hns30_1 := NB393_407.out
    have hms30_0 := NB407_379.out
    have hms30_1 := NB407_393.out
    have hs32 : w29.cell? ⟨gb407, 1, none⟩ = some (.slice none 0 0) := (bkC BK407.out 1).trans rfl
    have hfs32 := bkF BK407.out 1
    have hns32_0 := NB379_407.out
    have hns32_1 := NB393_407.out
    have hms32_0 := NB407_379.out
    have hms32_1 := NB407_393.out
    have hs34 : w29.cell? ⟨gb407, 2, none⟩ = some (.slice none 0 0) := (bkC BK407.out 2).trans rfl
    have hfs34 := bkF BK407.out 2
    have hns34_0 := NB379_407.out
    have hns34_1 := NB393_407.out
    have hms34_0 := NB407_379.out
    have hms34_1 := NB407_393.out
    refine skip_ (w1 := ?_) (by rfl) rfl ?_ ?_
    rotate_left
    ·go_simp
     rfl
    refine hK.out _ _ ⟨((cell_far (p := ⟨gb407, _, none⟩) NB393_407.out _).trans (((cell_far (p := ⟨gb407, _, none⟩) NB393_407.out _).trans (((cell_far (p := ⟨gb407, _, none⟩) NB393_407.out _).trans (hHeld.1)))))), ((cell_far (p := ⟨gb407, _, none⟩) NB393_407.out _).trans (((cell_far (p := ⟨gb407, _, none⟩) NB393_407.out _).trans (((cell_far (p := ⟨gb407, _, none⟩) NB393_407.out _).trans (hHeld.2.1)))))), ((cell_far (p := ⟨gb407, _, none⟩) NB393_407.out _).trans (((cell_far (p := ⟨gb407, _, none⟩) NB393_407.out _).trans (((cell_far (p := ⟨gb407, _, none⟩) NB393_407.out _).trans (hHeld.2.2))))))⟩ (fun hHeld => ?_)
    clear hK K
    refine pure_ (i := 10) (N := some 9) (v := ?_) (a' := ?_) #[true, true, true, true, true, true, true, true, true, true, true] rfl rfl (any_of HT_.out (by kernel_rfl)) (fun _ _ _ h => h) (Or.inl ⟨by rfl, ?_⟩) ?_ ?_
    rotate_left
    ·intro w'
     go_simp
     with_reducible rfl
    rotate_left
    ·simp only [Act.put, qA, qB, qC, i64_w, i32_w]
     rfl
    refine done_ (done_of HT_.out (by kernel_rfl)) ?_
    by_cases c22 : t406 = true
    ·subst c22
     rw [if_pos rfl] at H
     have H' := Asd.mk H
     clear H
     have hnb35 := NB407_379.out
     have hnc35 := NB379_407.out
     have hnb36 := NB407_393.out
     have hnc36 := NB393_407.out
     have hnb37 := NB407_0.out
     have hnc37 := NB0_407.out
     have hcz38_0 : w29.cell? ⟨gb407, 0, none⟩ = some (.int .i64 0) := (bkC BK407.out 0).trans rfl
     have hcz38_1 : w29.cell? ⟨gb407, 1, none⟩ = some (.slice none 0 0) := (bkC BK407.out 1).trans rfl
     have hcz38_2 : w29.cell? ⟨gb407, 2, none⟩ = some (.slice none 0 0) := (bkC BK407.out 2).trans rfl
     have hfz38_0 := bkF BK407.out 0
     have hfz38_1 := bkF BK407.out 1
     have hfz38_2 := bkF BK407.out 2
     have hnb39 := NB393_379.out
     have hnc39 := NB379_393.out
     have hnb40 := NB393_0.out
     have hnc40 := NB0_393.out
     have hcz41_0 : w29.cell? ⟨gb393, 0, none⟩ = some (.int .i64 x394000_1) := (bkC BK393.out 0).trans rfl
     have hcz41_1 : w29.cell? ⟨gb393, 1, none⟩ = some (.slice Ao23 x394001_1.length co23) := (bkC BK393.out 1).trans rfl
     have hcz41_2 : w29.cell? ⟨gb393, 2, none⟩ = some (.slice Ao24 x394002_1.length co24) := (bkC BK393.out 2).trans rfl
     have hfz41_0 := bkF BK393.out 0
     have hfz41_1 := bkF BK393.out 1
     have hfz41_2 := bkF BK393.out 2
     try go_wp2
     go_roundg k1
     case measure => have := HK1.out; omega
     case rel => exact ⟨(wrap64 (x7_1 - 1)), (t398), (t399), (t400), (t403), (.slice Ao31 t400.length co31), (.slice Ao33 t403.length co33), (by first | rfl | (simp; done) | (simp [*]; done)), H', ⟨by have := HK1.out; omega⟩, ⟨by (repeat apply Kd.RS); exact Kd.R_mono (Kd.R_far (p := ⟨gb393, 2, none⟩) (Kd.R_far (p := ⟨gb393, 1, none⟩) (Kd.R_far (p := ⟨gb393, 0, none⟩) (Kd.R_far (p := ⟨gb407, 2, none⟩) (Kd.R_far (p := ⟨gb407, 1, none⟩) (Kd.R_far (p := ⟨gb407, 0, none⟩) (Kd.R_types (Kd.R_types HO402.out BK407.out (by decide)) BK393.out (by decide)) (fun _ hk => hk.1.2) (.int .i64 t399)) (fun _ hk => hk.1.2) (.slice Ao31 t400.length co31)) (fun _ hk => hk.1.2) (.slice Ao33 t403.length co33)) (fun _ hk => hk.2) (.int .i64 t399)) (fun _ hk => hk.2) (.slice Ao31 t400.length co31)) (fun _ hk => hk.2) (.slice Ao33 t403.length co33)) (fun _ hk => trivial)⟩, ⟨by (repeat apply Kd.SS); exact Kd.S_mono (Kd.S_far (p := ⟨gb393, 2, none⟩) (Kd.S_far (p := ⟨gb393, 1, none⟩) (Kd.S_far (p := ⟨gb393, 0, none⟩) (Kd.S_far (p := ⟨gb407, 2, none⟩) (Kd.S_far (p := ⟨gb407, 1, none⟩) (Kd.S_far (p := ⟨gb407, 0, none⟩) (Kd.S_types (Kd.S_types HO405.out BK407.out (by decide)) BK393.out (by decide)) (fun _ hk => hk.1.2) (.int .i64 t399)) (fun _ hk => hk.1.2) (.slice Ao31 t400.length co31)) (fun _ hk => hk.1.2) (.slice Ao33 t403.length co33)) (fun _ hk => hk.2) (.int .i64 t399)) (fun _ hk => hk.2) (.slice Ao31 t400.length co31)) (fun _ hk => hk.2) (.slice Ao33 t403.length co33)) (fun _ hk => hk.1.1.1)⟩, ⟨by (repeat apply bkS); refine bkR ?_ NB379_393.out _; (repeat apply bkS); refine bkR ?_ NB379_393.out _; (repeat apply bkS); refine bkR ?_ NB379_393.out _; (repeat apply bkS); refine bkR ?_ NB379_407.out _; (repeat apply bkS); refine bkR ?_ NB379_407.out _; (repeat apply bkS); refine bkR ?_ NB379_407.out _; (repeat apply bkS); exact BK379.out⟩, ⟨by (repeat apply bkS); refine bkP (cs := #[.int .i64 t399, .slice Ao31 t400.length co31, .slice Ao24 x394002_1.length co24]) ?_ 2 _ rfl; (repeat apply bkS); refine bkP (cs := #[.int .i64 t399, .slice Ao23 x394001_1.length co23, .slice Ao24 x394002_1.length co24]) ?_ 1 _ rfl; (repeat apply bkS); refine bkP (cs := #[.int .i64 x394000_1, .slice Ao23 x394001_1.length co23, .slice Ao24 x394002_1.length co24]) ?_ 0 _ rfl; (repeat apply bkS); refine bkR ?_ NB393_407.out _; (repeat apply bkS); refine bkR ?_ NB393_407.out _; (repeat apply bkS); refine bkR ?_ NB393_407.out _; (repeat apply bkS); exact BK393.out⟩, ⟨by repeat (with_reducible first | exact HI0.out | refine Iz.below ?_ StB.b | apply Iz.set_1 | refine Iz.far ?_ aX _)⟩, ⟨by repeat (with_reducible first | exact HK.out | apply Kbt.set_ | apply kpX | refine kpF ?_ GW379.out _ | refine kpF ?_ GW393.out _ | refine kpF ?_ GW407.out _)⟩, ⟨by repeat (with_reducible first | exact HB.out | apply bwX | refine bwS ?_ (Iz.ge HI0.out) | refine bwS ?_ GE379.out | refine bwS ?_ GE393.out | refine bwS ?_ GE407.out)⟩⟩
    ·replace c22 := Bool.eq_false_iff.mpr c22
     subst c22
     rw [if_neg (show ¬ (false = true) by decide)] at H
     have H' := Asd.mk H
     clear H
     try go_wp2
     go_roundg k1
     case measure => have := HK1.out; omega
     case rel => exact ⟨(wrap64 (x7_1 - 1)), (t398), (x394000_1), (x394001_1), (x394002_1), (.slice Ao23 x394001_1.length co23), (.slice Ao24 x394002_1.length co24), (by first | rfl | (simp; done) | (simp [*]; done)), H', ⟨by have := HK1.out; omega⟩, ⟨by (repeat apply Kd.RS); exact Kd.R_mono (Kd.R_far (p := ⟨gb407, 2, none⟩) (Kd.R_far (p := ⟨gb407, 1, none⟩) (Kd.R_far (p := ⟨gb407, 0, none⟩) (Kd.R_types HO_394001.out BK407.out (by decide)) (fun _ hk => hk.2) (.int .i64 t399)) (fun _ hk => hk.2) (.slice Ao31 t400.length co31)) (fun _ hk => hk.2) (.slice Ao33 t403.length co33)) (fun _ hk => trivial)⟩, ⟨by (repeat apply Kd.SS); exact Kd.S_mono (Kd.S_far (p := ⟨gb407, 2, none⟩) (Kd.S_far (p := ⟨gb407, 1, none⟩) (Kd.S_far (p := ⟨gb407, 0, none⟩) (Kd.S_types HO_394002.out BK407.out (by decide)) (fun _ hk => hk.2) (.int .i64 t399)) (fun _ hk => hk.2) (.slice Ao31 t400.length co31)) (fun _ hk => hk.2) (.slice Ao33 t403.length co33)) (fun _ hk => hk.1.2.2)⟩, ⟨by (repeat apply bkS); refine bkR ?_ NB379_407.out _; (repeat apply bkS); refine bkR ?_ NB379_407.out _; (repeat apply bkS); refine bkR ?_ NB379_407.out _; (repeat apply bkS); exact BK379.out⟩, ⟨by (repeat apply bkS); refine bkR ?_ NB393_407.out _; (repeat apply bkS); refine bkR ?_ NB393_407.out _; (repeat apply bkS); refine bkR ?_ NB393_407.out _; (repeat apply bkS); exact BK393.out⟩, ⟨by repeat (with_reducible first | exact HI0.out | refine Iz.below ?_ StB.b | apply Iz.set_1 | refine Iz.far ?_ aX _)⟩, ⟨by repeat (with_reducible first | exact HK.out | apply Kbt.set_ | apply kpX | refine kpF ?_ GW379.out _ | refine kpF ?_ GW393.out _ | refine kpF ?_ GW407.out _)⟩, ⟨by repeat (with_reducible first | exact HB.out | apply bwX | refine bwS ?_ (Iz.ge HI0.out) | refine bwS ?_ GE379.out | refine bwS ?_ GE393.out | refine bwS ?_ GE407.out)⟩⟩
   ·rw [if_neg c19] at H
    have c19b0 : decide (0 < x7_1) = false := decide_eq_false c19
    clear c19
    replace H := Option.bind_eq_some_iff.mp H
    obtain ⟨⟨t408, t409⟩, A540, H⟩ := H
    try dsimp only at H
    have A54 := Asd.mk A540
    clear A540
    by_cases c55 : t408 = true
    ·subst c55
     rw [if_pos rfl] at H
     replace H := Option.bind_eq_some_iff.mp H
     obtain ⟨⟨t410, t411⟩, A560, H⟩ := H
     try dsimp only at H
     have A56 := Asd.mk A560
     clear A560
     by_cases c57 : t410 = 0
     ·rw [if_pos c57] at H
      have c57b0 : (t410 == 0) = true := beq_iff_eq.mpr c57
      have c57b1 : (t410 != 0) = false := bne_eq_false_iff_eq.mpr c57
      clear c57
      simp only [Option.some.injEq, Prod.mk.injEq] at H
      obtain ⟨rfl, rfl, rfl, rfl⟩ := H
      go_wp2_with (first | ((with_reducible refine gate_callee (f := 81) rfl ?_); refine gsM (some 35) rfl rfl Try.func81 (by kernel_rfl) rfl #[.pointer (some ⟨g, 0, none⟩), .int .i64 a1] rfl ?_; (with_reducible refine (spec_l20Rd_odd.calls k1 g s0_0 x1001_1 a1 true t409 w0 _ ?side1 ?side2 A54.out).mono ?_); (case side1 => repeat (with_reducible first | exact HI0.out | refine Iz.below ?_ StB.b | apply Iz.set_1 | refine Iz.far ?_ aX _)); (case side2 => repeat (with_reducible first | exact HB.out | apply bwX | refine bwS ?_ (Iz.ge HI0.out) | refine bwS ?_ GE379.out | refine bwS ?_ GE393.out)); rintro e w58 ⟨rfl, hi, hb, hk⟩; refine ⟨_, rfl, ?_⟩; have n0_ := Asd.mk (Kd.R_mono (Kd.R_keep (Iz.apart (show Iz w0 _ g s0_0 x1001_1 from by repeat (with_reducible first | exact HI0.out | refine Iz.below ?_ StB.b | apply Iz.set_1 | refine Iz.far ?_ aX _)) (by (repeat apply Kd.RS); exact HO_394001.out) (by decide)) hk (fun _ h => h.2)) (fun _ h => h.1)); have n1_ := Asd.mk (Kd.S_mono (Kd.S_keep (Iz.apartS (show Iz w0 _ g s0_0 x1001_1 from by repeat (with_reducible first | exact HI0.out | refine Iz.below ?_ StB.b | apply Iz.set_1 | refine Iz.far ?_ aX _)) (by (repeat apply Kd.SS); exact HO_394002.out) (by decide)) hk (fun _ h => h.2)) (fun _ h => h.1)); have n2_ := Asd.mk (Kbt.blk hk (g' := gb379) (o := .cells #[.int .i64 0, .slice none 0 0, .slice none 0 0] 58 (0, 0)) (by (repeat apply bkS); exact BK379.out) NB379_0.out (by simp)); have n3_ := Asd.mk (Kbt.blk hk (g' := gb393) (o := .cells #[.int .i64 x394000_1, u394001, u394002] 58 (0, 0)) (by (repeat apply bkS); exact BK393.out) NB393_0.out (by simp)); have n4_ := Asd.mk (Kbt.trans (by repeat (with_reducible first | exact HK.out | apply Kbt.set_ | apply kpX | refine kpF ?_ GW379.out _ | refine kpF ?_ GW393.out _)) hk (.inl rfl)); have n5_ := Asd.mk (hb); have n6_ := Asd.mk (hi); clear HO_394001; clear HO_394002; clear BK379; clear BK393; clear HK; clear HB; clear HI0; have HO_394001 := n0_; have HO_394002 := n1_; have BK379 := n2_; have BK393 := n3_; have HK := n4_; have HB := n5_; have HI0 := n6_; clear n0_ n1_ n2_ n3_ n4_ n5_ n6_; (try clear hb); (try clear hb2); (try clear hk); (try clear hi)) | ((with_reducible refine gate_callee (f := 82) rfl ?_); refine gsM (some 37) rfl rfl Try.func82 (by kernel_rfl) rfl #[.pointer (some ⟨g, 0, none⟩), .int .i64 3] rfl ?_; (with_reducible refine (spec_l20Rd_pick.calls k1 g s0_0 t409 3 t410 t411 w0 _ ?side1 ?side2 A56.out).mono ?_); (case side1 => repeat (with_reducible first | exact HI0.out | refine Iz.below ?_ StB.b | apply Iz.set_1 | refine Iz.far ?_ aX _)); (case side2 => repeat (with_reducible first | exact HB.out | apply bwX | refine bwS ?_ (Iz.ge HI0.out) | refine bwS ?_ GE379.out | refine bwS ?_ GE393.out)); rintro e w59 ⟨rfl, hi, hb, hk⟩; refine ⟨_, rfl, ?_⟩; have n0_ := Asd.mk (Kd.R_mono (Kd.R_keep (Iz.apart (show Iz w0 _ g s0_0 t409 from by repeat (with_reducible first | exact HI0.out | refine Iz.below ?_ StB.b | apply Iz.set_1 | refine Iz.far ?_ aX _)) (by (repeat apply Kd.RS); exact HO_394001.out) (by decide)) hk (fun _ h => h.2)) (fun _ h => h.1)); have n1_ := Asd.mk (Kd.S_mono (Kd.S_keep (Iz.apartS (show Iz w0 _ g s0_0 t409 from by repeat (with_reducible first | exact HI0.out | refine Iz.below ?_ StB.b | apply Iz.set_1 | refine Iz.far ?_ aX _)) (by (repeat apply Kd.SS); exact HO_394002.out) (by decide)) hk (fun _ h => h.2)) (fun _ h => h.1)); have n2_ := Asd.mk (Kbt.blk hk (g' := gb379) (o := .cells #[.int .i64 0, .slice none 0 0, .slice none 0 0] 58 (0, 0)) (by (repeat apply bkS); exact BK379.out) NB379_0.out (by simp)); have n3_ := Asd.mk (Kbt.blk hk (g' := gb393) (o := .cells #[.int .i64 x394000_1, u394001, u394002] 58 (0, 0)) (by (repeat apply bkS); exact BK393.out) NB393_0.out (by simp)); have n4_ := Asd.mk (Kbt.trans (by repeat (with_reducible first | exact HK.out | apply Kbt.set_ | apply kpX | refine kpF ?_ GW379.out _ | refine kpF ?_ GW393.out _)) hk (.inl rfl)); have n5_ := Asd.mk (hb); have n6_ := Asd.mk (hi); clear HO_394001; clear HO_394002; clear BK379; clear BK393; clear HK; clear HB; clear HI0; have HO_394001 := n0_; have HO_394002 := n1_; have BK379 := n2_; have BK393 := n3_; have HK := n4_; have HB := n5_; have HI0 := n6_; clear n0_ n1_ n2_ n3_ n4_ n5_ n6_; (try clear hb); (try clear hb2); (try clear hk); (try clear hi); have hnb60 := NB393_379.out; have hnc60 := NB379_393.out; have hnb61 := NB393_0.out; have hnc61 := NB0_393.out; have hcz62_0 : w59.cell? ⟨gb393, 0, none⟩ = some (.int .i64 x394000_1) := (bkC BK393.out 0).trans rfl; have hcz62_1 : w59.cell? ⟨gb393, 1, none⟩ = some (u394001) := (bkC BK393.out 1).trans rfl; have hcz62_2 : w59.cell? ⟨gb393, 2, none⟩ = some (u394002) := (bkC BK393.out 2).trans rfl; have hfz62_0 := bkF BK393.out 0; have hfz62_1 := bkF BK393.out 1; have hfz62_2 := bkF BK393.out 2; have hnb63 := NB379_0.out; have hnc63 := NB0_379.out; have hcz64_0 : w59.cell? ⟨gb379, 0, none⟩ = some (.int .i64 0) := (bkC BK379.out 0).trans rfl; have hcz64_1 : w59.cell? ⟨gb379, 1, none⟩ = some (.slice none 0 0) := (bkC BK379.out 1).trans rfl; have hcz64_2 : w59.cell? ⟨gb379, 2, none⟩ = some (.slice none 0 0) := (bkC BK379.out 2).trans rfl; have hfz64_0 := bkF BK379.out 0; have hfz64_1 := bkF BK379.out 1; have hfz64_2 := bkF BK379.out 2; obtain ⟨Ao65, co65, eo65⟩ := Kd.R_slice HO_394001.out; subst eo65; obtain ⟨Ao66, co66, eo66⟩ := Kd.S_slice HO_394002.out; subst eo66))
      refine bodyPost_ret (results_cell_row rfl _ _ gb379 58 #[.int .i64 4, .slice Ao65 x394001_1.length co65, .slice Ao66 x394002_1.length co66] (0, 0) _ rfl (by (repeat apply bkS); refine bkP (cs := #[.int .i64 4, .slice Ao65 x394001_1.length co65, .slice none 0 0]) ?_ 2 _ rfl; (repeat apply bkS); refine bkP (cs := #[.int .i64 4, .slice none 0 0, .slice none 0 0]) ?_ 1 _ rfl; (repeat apply bkS); refine bkP (cs := #[.int .i64 0, .slice none 0 0, .slice none 0 0]) ?_ 0 _ rfl; (repeat apply bkS); refine bkR ?_ NB379_393.out _; (repeat apply bkS); exact BK379.out) Try.underlying58 rfl (by kernel_rfl)) rfl ?_
      exact ⟨_, _, by first | rfl | (simp [*, errW_none, errW_some] <;> rfl), by (repeat apply Kd.RS); exact Kd.R_mono (Kd.R_far (p := ⟨gb379, 2, none⟩) (Kd.R_far (p := ⟨gb379, 1, none⟩) (Kd.R_far (p := ⟨gb379, 0, none⟩) (Kd.R_far (p := ⟨gb393, 0, none⟩) (Kd.R_types (Kd.R_types HO_394001.out BK393.out (by decide)) BK379.out (by decide)) (fun _ hk => hk.1.2) (.int .i64 4)) (fun _ hk => hk.2) (.int .i64 4)) (fun _ hk => hk.2) (.slice Ao65 x394001_1.length co65)) (fun _ hk => hk.2) (.slice Ao66 x394002_1.length co66)) (fun _ hk => trivial), by (repeat apply Kd.SS); exact Kd.S_mono (Kd.S_far (p := ⟨gb379, 2, none⟩) (Kd.S_far (p := ⟨gb379, 1, none⟩) (Kd.S_far (p := ⟨gb379, 0, none⟩) (Kd.S_far (p := ⟨gb393, 0, none⟩) (Kd.S_types (Kd.S_types HO_394002.out BK393.out (by decide)) BK379.out (by decide)) (fun _ hk => hk.1.2) (.int .i64 4)) (fun _ hk => hk.2) (.int .i64 4)) (fun _ hk => hk.2) (.slice Ao65 x394001_1.length co65)) (fun _ hk => hk.2) (.slice Ao66 x394002_1.length co66)) (fun _ hk => hk.1.1), by repeat (with_reducible first | exact HI0.out | refine Iz.below ?_ StB.b | apply Iz.set_1 | refine Iz.far ?_ aX _), by repeat (with_reducible first | exact HB.out | apply bwX | refine bwS ?_ (Iz.ge HI0.out) | refine bwS ?_ GE379.out | refine bwS ?_ GE393.out), by repeat (with_reducible first | exact HK.out | apply Kbt.set_ | apply kpX | refine kpF ?_ GW379.out _ | refine kpF ?_ GW393.out _)⟩
     ·rw [if_neg c57] at H
      have c57b0 : (t410 == 0) = false := beq_eq_false_iff_ne.mpr c57
      have c57b1 : (t410 != 0) = true := bne_iff_ne.mpr c57
      by_cases c67 : t410 = 1
      ·rw [if_pos c67] at H
       have c67b0 : (t410 == 1) = true := beq_iff_eq.mpr c67
       have c67b1 : (t410 != 1) = false := bne_eq_false_iff_eq.mpr c67
       clear c67
       by_cases c68 : 0 < (x394001_1.length : Int); rotate_left; (rw [if_neg c68] at H; exact absurd H (by simp))
       rw [if_pos c68] at H
       have c68b0 : decide (0 < (x394001_1.length : Int)) = true := decide_eq_true c68
       have c68b1 : decide (0 < x394001_1.length) = true := decide_eq_true (by omega)
       clear c68
       obtain ⟨y412, hy412⟩ : ∃ y_ : List Int, y_ = (x394001_1.set (0 : Int).toNat 9) := ⟨_, rfl⟩
       replace H : (some (x394000_1, y412, x394002_1, t411)) = some (r1, r2, r3, r4) := by first | (rw [hy412]; with_reducible exact H) | (have H2_ := (Option.bind_some _ _).symm.trans H; rw [hy412]; with_reducible exact H2_) | (have H2_ := (Option.bind_some _ _).symm.trans H; with_reducible exact H2_) | with_reducible exact H | (rw [hy412]; exact H) | exact H
       have Ny412 := Asd.mk hy412
       clear hy412
       simp only [Option.some.injEq, Prod.mk.injEq] at H
       obtain ⟨rfl, rfl, rfl, rfl⟩ := H
       go_wp2_with (first | ((with_reducible refine gate_callee (f := 81) rfl ?_); refine gsM (some 35) rfl rfl Try.func81 (by kernel_rfl) rfl #[.pointer (some ⟨g, 0, none⟩), .int .i64 a1] rfl ?_; (with_reducible refine (spec_l20Rd_odd.calls k1 g s0_0 x1001_1 a1 true t409 w0 _ ?side1 ?side2 A54.out).mono ?_); (case side1 => repeat (with_reducible first | exact HI0.out | refine Iz.below ?_ StB.b | apply Iz.set_1 | refine Iz.far ?_ aX _)); (case side2 => repeat (with_reducible first | exact HB.out | apply bwX | refine bwS ?_ (Iz.ge HI0.out) | refine bwS ?_ GE379.out | refine bwS ?_ GE393.out)); rintro e w70 ⟨rfl, hi, hb, hk⟩; refine ⟨_, rfl, ?_⟩; have n0_ := Asd.mk (Kd.R_mono (Kd.R_keep (Iz.apart (show Iz w0 _ g s0_0 x1001_1 from by repeat (with_reducible first | exact HI0.out | refine Iz.below ?_ StB.b | apply Iz.set_1 | refine Iz.far ?_ aX _)) (by (repeat apply Kd.RS); exact HO_394001.out) (by decide)) hk (fun _ h => h.2)) (fun _ h => h.1)); have n1_ := Asd.mk (Kd.S_mono (Kd.S_keep (Iz.apartS (show Iz w0 _ g s0_0 x1001_1 from by repeat (with_reducible first | exact HI0.out | refine Iz.below ?_ StB.b | apply Iz.set_1 | refine Iz.far ?_ aX _)) (by (repeat apply Kd.SS); exact HO_394002.out) (by decide)) hk (fun _ h => h.2)) (fun _ h => h.1)); have n2_ := Asd.mk (Kbt.blk hk (g' := gb379) (o := .cells #[.int .i64 0, .slice none 0 0, .slice none 0 0] 58 (0, 0)) (by (repeat apply bkS); exact BK379.out) NB379_0.out (by simp)); have n3_ := Asd.mk (Kbt.blk hk (g' := gb393) (o := .cells #[.int .i64 x394000_1, u394001, u394002] 58 (0, 0)) (by (repeat apply bkS); exact BK393.out) NB393_0.out (by simp)); have n4_ := Asd.mk (Kbt.trans (by repeat (with_reducible first | exact HK.out | apply Kbt.set_ | apply kpX | refine kpF ?_ GW379.out _ | refine kpF ?_ GW393.out _)) hk (.inl rfl)); have n5_ := Asd.mk (hb); have n6_ := Asd.mk (hi); clear HO_394001; clear HO_394002; clear BK379; clear BK393; clear HK; clear HB; clear HI0; have HO_394001 := n0_; have HO_394002 := n1_; have BK379 := n2_; have BK393 := n3_; have HK := n4_; have HB := n5_; have HI0 := n6_; clear n0_ n1_ n2_ n3_ n4_ n5_ n6_; (try clear hb); (try clear hb2); (try clear hk); (try clear hi)) | ((with_reducible refine gate_callee (f := 82) rfl ?_); refine gsM (some 37) rfl rfl Try.func82 (by kernel_rfl) rfl #[.pointer (some ⟨g, 0, none⟩), .int .i64 3] rfl ?_; (with_reducible refine (spec_l20Rd_pick.calls k1 g s0_0 t409 3 t410 t411 w0 _ ?side1 ?side2 A56.out).mono ?_); (case side1 => repeat (with_reducible first | exact HI0.out | refine Iz.below ?_ StB.b | apply Iz.set_1 | refine Iz.far ?_ aX _)); (case side2 => repeat (with_reducible first | exact HB.out | apply bwX | refine bwS ?_ (Iz.ge HI0.out) | refine bwS ?_ GE379.out | refine bwS ?_ GE393.out)); rintro e w71 ⟨rfl, hi, hb, hk⟩; refine ⟨_, rfl, ?_⟩; have n0_ := Asd.mk (Kd.R_mono (Kd.R_keep (Iz.apart (show Iz w0 _ g s0_0 t409 from by repeat (with_reducible first | exact HI0.out | refine Iz.below ?_ StB.b | apply Iz.set_1 | refine Iz.far ?_ aX _)) (by (repeat apply Kd.RS); exact HO_394001.out) (by decide)) hk (fun _ h => h.2)) (fun _ h => h.1)); have n1_ := Asd.mk (Kd.S_mono (Kd.S_keep (Iz.apartS (show Iz w0 _ g s0_0 t409 from by repeat (with_reducible first | exact HI0.out | refine Iz.below ?_ StB.b | apply Iz.set_1 | refine Iz.far ?_ aX _)) (by (repeat apply Kd.SS); exact HO_394002.out) (by decide)) hk (fun _ h => h.2)) (fun _ h => h.1)); have n2_ := Asd.mk (Kbt.blk hk (g' := gb379) (o := .cells #[.int .i64 0, .slice none 0 0, .slice none 0 0] 58 (0, 0)) (by (repeat apply bkS); exact BK379.out) NB379_0.out (by simp)); have n3_ := Asd.mk (Kbt.blk hk (g' := gb393) (o := .cells #[.int .i64 x394000_1, u394001, u394002] 58 (0, 0)) (by (repeat apply bkS); exact BK393.out) NB393_0.out (by simp)); have n4_ := Asd.mk (Kbt.trans (by repeat (with_reducible first | exact HK.out | apply Kbt.set_ | apply kpX | refine kpF ?_ GW379.out _ | refine kpF ?_ GW393.out _)) hk (.inl rfl)); have n5_ := Asd.mk (hb); have n6_ := Asd.mk (hi); clear HO_394001; clear HO_394002; clear BK379; clear BK393; clear HK; clear HB; clear HI0; have HO_394001 := n0_; have HO_394002 := n1_; have BK379 := n2_; have BK393 := n3_; have HK := n4_; have HB := n5_; have HI0 := n6_; clear n0_ n1_ n2_ n3_ n4_ n5_ n6_; (try clear hb); (try clear hb2); (try clear hk); (try clear hi); have hnb72 := NB393_379.out; have hnc72 := NB379_393.out; have hnb73 := NB393_0.out; have hnc73 := NB0_393.out; have hcz74_0 : w71.cell? ⟨gb393, 0, none⟩ = some (.int .i64 x394000_1) := (bkC BK393.out 0).trans rfl; have hcz74_1 : w71.cell? ⟨gb393, 1, none⟩ = some (u394001) := (bkC BK393.out 1).trans rfl; have hcz74_2 : w71.cell? ⟨gb393, 2, none⟩ = some (u394002) := (bkC BK393.out 2).trans rfl; have hfz74_0 := bkF BK393.out 0; have hfz74_1 := bkF BK393.out 1; have hfz74_2 := bkF BK393.out 2; have p69 : 0 ≤ (0 : Int) := (by omega); have q69 : (0 : Int) < ((x394001_1.length : Int) : Int) := odt; have qi69 : (0 < x394001_1.length) = True := eq_true (by omega); obtain ⟨go69, co69, eo69, gb69, gl69, cl69, HG69⟩ := Kd.R_form HO_394001.out (by omega); (first | cases eo69 | (injection eo69 with ea_ en_ ec_; (first | subst ea_ | (injection ea_ with ea_; subst ea_)); subst ec_; clear en_)); have GB69 := Asd.mk gb69; have GG69 := Asd.mk HG69; clear gb69 gl69 HG69; obtain ⟨hx69_0, hf69_0⟩ := Kd.R_celln 0 HO_394001.out (0 : Int) p69 q69; (try rw [show ((0 : Int)).toNat = 0 from rfl] at hx69_0); (try simp only [Nat.reduceMul, Nat.zero_mul, Nat.zero_add, Nat.reduceAdd] at hx69_0); (try rw [show ((0 : Int)).toNat = 0 from rfl] at hf69_0); (try simp only [Nat.reduceMul, Nat.zero_mul, Nat.zero_add, Nat.reduceAdd] at hf69_0); replace p69 := eq_true p69; replace q69 := eq_true q69; obtain ⟨hy75_, hz75_⟩ := Kd.R_celln 0 HO_394001.out (0 : Int) (by omega) (odt); (try simp only [Int.reduceToNat, Int.toNat_zero, Int.toNat_ofNat, Nat.reduceMul, Nat.zero_mul, Nat.zero_add] at hy75_ hz75_); (try rw [show ((0 : Int)).toNat = 0 from rfl] at hy75_); (try rw [show ((0 : Int)).toNat = 0 from rfl] at hz75_); have HP75 := Kd.R_putg HO_394001.out (0 : Int) 9) | ((with_reducible refine gate_store (t := 3) (p := 51) rfl ?_); refine store_event (t := 3) (p := 51) (v := ?vo_w76) (w1 := (w71.setCell ⟨go69, (0 : Int).toNat, none⟩ (.int .i64 9))) ?hg ?ho ?hn ?hr ?_; (case ho => rfl); (case hg => rfl); (case hn => rfl); (case hr => first | (go_simp; done) | (go_simp; rfl)); intro w76 hw; have hg : w71.grownBy w76 (some go69) := (by rw [hw]; exact HP75.2); have hp_ : Kd.R (Kd.int .i64) 3 w76 w.heap.size (fun _ => True) (.slice (some ⟨go69, 0, none⟩) x394001_1.length co69) y412 := (by rw [hw, Ny412.out]; exact HP75.1); clear HP75; have n0_ := Asd.mk (hp_); have n1_ := Asd.mk (Kd.S_after (v := (.slice (some ⟨go69, 0, none⟩) x394001_1.length co69)) (v1 := (.slice (some ⟨go69, 0, none⟩) x394001_1.length co69)) (ok := (fun _ => True)) (by (repeat apply Kd.SS); exact Kd.S_mono HO_394002.out (fun _ hk => ⟨trivial, hk⟩)) hg (.inl rfl)); have n2_ := Asd.mk (blk_grown (g := gb379) (o := .cells #[.int .i64 0, .slice none 0 0, .slice none 0 0] 58 (0, 0)) (by (repeat apply bkS); exact BK379.out) hg (Kd.R_ne HO_394001.out BK379.out (by decide))); have n3_ := Asd.mk (blk_grown (g := gb393) (o := .cells #[.int .i64 x394000_1, .slice (some ⟨go69, 0, none⟩) x394001_1.length co69, u394002] 58 (0, 0)) (by (repeat apply bkS); exact BK393.out) hg (Kd.R_ne HO_394001.out BK393.out (by decide))); have n4_ := Asd.mk (Iz.grown (by repeat (with_reducible first | exact HI0.out | refine Iz.below ?_ StB.b | apply Iz.set_1 | refine Iz.far ?_ aX _)) hg (Iz.own_ne HI0.out HO_394001.out (by decide))); have n5_ := Asd.mk ((by rw [hw]; exact bwS (HB.out) (Nat.le_trans HL.out GB69.out) : Below w0.heap.size w0 w76)); have n6_ := Asd.mk (Kbt.trans (by repeat (with_reducible first | exact HK.out | apply Kbt.set_ | apply kpX | refine kpF ?_ GW379.out _ | refine kpF ?_ GW393.out _)) (Kbt.of_grown hg g) (Kd.R_base2 HO_394001.out)); clear HO_394001; clear HO_394002; clear BK379; clear BK393; clear HI0; clear HB; clear HK; have HO_394001 := n0_; have HO_394002 := n1_; have BK379 := n2_; have BK393 := n3_; have HI0 := n4_; have HB := n5_; have HK := n6_; clear n0_ n1_ n2_ n3_ n4_ n5_ n6_; clear hg hw hp_; have hcz77_0 : w76.cell? ⟨gb393, 0, none⟩ = some (.int .i64 x394000_1) := (bkC BK393.out 0).trans rfl; have hcz77_1 : w76.cell? ⟨gb393, 1, none⟩ = some (.slice (some ⟨go69, 0, none⟩) x394001_1.length co69) := (bkC BK393.out 1).trans rfl; have hcz77_2 : w76.cell? ⟨gb393, 2, none⟩ = some (u394002) := (bkC BK393.out 2).trans rfl; have hfz77_0 := bkF BK393.out 0; have hfz77_1 := bkF BK393.out 1; have hfz77_2 := bkF BK393.out 2; have hnb78 := NB379_0.out; have hnc78 := NB0_379.out; have hcz79_0 : w76.cell? ⟨gb379, 0, none⟩ = some (.int .i64 0) := (bkC BK379.out 0).trans rfl; have hcz79_1 : w76.cell? ⟨gb379, 1, none⟩ = some (.slice none 0 0) := (bkC BK379.out 1).trans rfl; have hcz79_2 : w76.cell? ⟨gb379, 2, none⟩ = some (.slice none 0 0) := (bkC BK379.out 2).trans rfl; have hfz79_0 := bkF BK379.out 0; have hfz79_1 := bkF BK379.out 1; have hfz79_2 := bkF BK379.out 2; obtain ⟨Ao80, co80, eo80⟩ := Kd.S_slice HO_394002.out; subst eo80))
       refine bodyPost_ret (results_cell_row rfl _ _ gb379 58 #[.int .i64 x394000_1, .slice (some ⟨go69, 0, none⟩) x394001_1.length co69, .slice Ao80 x394002_1.length co80] (0, 0) _ rfl (by (repeat apply bkS); refine bkP (cs := #[.int .i64 x394000_1, .slice (some ⟨go69, 0, none⟩) x394001_1.length co69, .slice none 0 0]) ?_ 2 _ rfl; (repeat apply bkS); refine bkP (cs := #[.int .i64 x394000_1, .slice none 0 0, .slice none 0 0]) ?_ 1 _ rfl; (repeat apply bkS); refine bkP (cs := #[.int .i64 0, .slice none 0 0, .slice none 0 0]) ?_ 0 _ rfl; (repeat apply bkS); exact BK379.out) Try.underlying58 rfl (by kernel_rfl)) rfl ?_
       exact ⟨_, _, by first | rfl | (simp [*, errW_none, errW_some] <;> rfl), by (repeat apply Kd.RS); exact Kd.R_mono (Kd.R_far (p := ⟨gb379, 2, none⟩) (Kd.R_far (p := ⟨gb379, 1, none⟩) (Kd.R_far (p := ⟨gb379, 0, none⟩) (Kd.R_types HO_394001.out BK379.out (by decide)) (fun _ hk => hk.2) (.int .i64 x394000_1)) (fun _ hk => hk.2) (.slice (some ⟨go69, 0, none⟩) x394001_1.length co69)) (fun _ hk => hk.2) (.slice Ao80 x394002_1.length co80)) (fun _ hk => trivial), by (repeat apply Kd.SS); exact Kd.S_mono (Kd.S_far (p := ⟨gb379, 2, none⟩) (Kd.S_far (p := ⟨gb379, 1, none⟩) (Kd.S_far (p := ⟨gb379, 0, none⟩) (Kd.S_types HO_394002.out BK379.out (by decide)) (fun _ hk => hk.2) (.int .i64 x394000_1)) (fun _ hk => hk.2) (.slice (some ⟨go69, 0, none⟩) x394001_1.length co69)) (fun _ hk => hk.2) (.slice Ao80 x394002_1.length co80)) (fun _ hk => hk.1.2), by repeat (with_reducible first | exact HI0.out | refine Iz.below ?_ StB.b | apply Iz.set_1 | refine Iz.far ?_ aX _), by repeat (with_reducible first | exact HB.out | apply bwX | refine bwS ?_ (Iz.ge HI0.out) | refine bwS ?_ GE379.out | refine bwS ?_ GE393.out), by repeat (with_reducible first | exact HK.out | apply Kbt.set_ | apply kpX | refine kpF ?_ GW379.out _ | refine kpF ?_ GW393.out _)⟩
      ·rw [if_neg c67] at H
       have c67b0 : (t410 == 1) = false := beq_eq_false_iff_ne.mpr c67
       have c67b1 : (t410 != 1) = true := bne_iff_ne.mpr c67
       obtain ⟨y413, hy413⟩ : ∃ y_ : List Int, y_ = (([1] : List Int)) := ⟨_, rfl⟩
       replace H : (if x394002_1.length < 5864062014805 then (some (x394000_1, x394001_1, (x394002_1 ++ [y413]), t411)) else (none)) = some (r1, r2, r3, r4) := by first | (rw [hy413]; with_reducible exact H) | (have H2_ := (Option.bind_some _ _).symm.trans H; rw [hy413]; with_reducible exact H2_) | (have H2_ := (Option.bind_some _ _).symm.trans H; with_reducible exact H2_) | with_reducible exact H | (rw [hy413]; exact H) | exact H
       have Ny413 := Asd.mk hy413
       clear hy413
       by_cases c81 : x394002_1.length < 5864062014805; rotate_left; (rw [if_neg c81] at H; exact absurd H (by simp))
       rw [if_pos c81] at H
       have LMc81 := Asd.mk c81
       clear c81
       obtain ⟨y416, hy416⟩ : ∃ y_ : List (List Int), y_ = (x394002_1 ++ [y413]) := ⟨_, rfl⟩
       replace H : (some (x394000_1, x394001_1, y416, t411)) = some (r1, r2, r3, r4) := by first | (rw [hy416]; with_reducible exact H) | (have H2_ := (Option.bind_some _ _).symm.trans H; rw [hy416]; with_reducible exact H2_) | (have H2_ := (Option.bind_some _ _).symm.trans H; with_reducible exact H2_) | with_reducible exact H | (rw [hy416]; exact H) | exact H
       have Ny416 := Asd.mk hy416
       clear hy416
       simp only [Option.some.injEq, Prod.mk.injEq] at H
       obtain ⟨rfl, rfl, rfl, rfl⟩ := H
       go_wp2_with (first | ((with_reducible refine gate_callee (f := 81) rfl ?_); refine gsM (some 35) rfl rfl Try.func81 (by kernel_rfl) rfl #[.pointer (some ⟨g, 0, none⟩), .int .i64 a1] rfl ?_; (with_reducible refine (spec_l20Rd_odd.calls k1 g s0_0 x1001_1 a1 true t409 w0 _ ?side1 ?side2 A54.out).mono ?_); (case side1 => repeat (with_reducible first | exact HI0.out | refine Iz.below ?_ StB.b | apply Iz.set_1 | refine Iz.far ?_ aX _)); (case side2 => repeat (with_reducible first | exact HB.out | apply bwX | refine bwS ?_ (Iz.ge HI0.out) | refine bwS ?_ GE379.out | refine bwS ?_ GE393.out)); rintro e w82 ⟨rfl, hi, hb, hk⟩; refine ⟨_, rfl, ?_⟩; have n0_ := Asd.mk (Kd.R_mono (Kd.R_keep (Iz.apart (show Iz w0 _ g s0_0 x1001_1 from by repeat (with_reducible first | exact HI0.out | refine Iz.below ?_ StB.b | apply Iz.set_1 | refine Iz.far ?_ aX _)) (by (repeat apply Kd.RS); exact HO_394001.out) (by decide)) hk (fun _ h => h.2)) (fun _ h => h.1)); have n1_ := Asd.mk (Kd.S_mono (Kd.S_keep (Iz.apartS (show Iz w0 _ g s0_0 x1001_1 from by repeat (with_reducible first | exact HI0.out | refine Iz.below ?_ StB.b | apply Iz.set_1 | refine Iz.far ?_ aX _)) (by (repeat apply Kd.SS); exact HO_394002.out) (by decide)) hk (fun _ h => h.2)) (fun _ h => h.1)); have n2_ := Asd.mk (Kbt.blk hk (g' := gb379) (o := .cells #[.int .i64 0, .slice none 0 0, .slice none 0 0] 58 (0, 0)) (by (repeat apply bkS); exact BK379.out) NB379_0.out (by simp)); have n3_ := Asd.mk (Kbt.blk hk (g' := gb393) (o := .cells #[.int .i64 x394000_1, u394001, u394002] 58 (0, 0)) (by (repeat apply bkS); exact BK393.out) NB393_0.out (by simp)); have n4_ := Asd.mk (Kbt.trans (by repeat (with_reducible first | exact HK.out | apply Kbt.set_ | apply kpX | refine kpF ?_ GW379.out _ | refine kpF ?_ GW393.out _)) hk (.inl rfl)); have n5_ := Asd.mk (hb); have n6_ := Asd.mk (hi); clear HO_394001; clear HO_394002; clear BK379; clear BK393; clear HK; clear HB; clear HI0; have HO_394001 := n0_; have HO_394002 := n1_; have BK379 := n2_; have BK393 := n3_; have HK := n4_; have HB := n5_; have HI0 := n6_; clear n0_ n1_ n2_ n3_ n4_ n5_ n6_; (try clear hb); (try clear hb2); (try clear hk); (try clear hi)) | ((with_reducible refine gate_callee (f := 82) rfl ?_); refine gsM (some 37) rfl rfl Try.func82 (by kernel_rfl) rfl #[.pointer (some ⟨g, 0, none⟩), .int .i64 3] rfl ?_; (with_reducible refine (spec_l20Rd_pick.calls k1 g s0_0 t409 3 t410 t411 w0 _ ?side1 ?side2 A56.out).mono ?_); (case side1 => repeat (with_reducible first | exact HI0.out | refine Iz.below ?_ StB.b | apply Iz.set_1 | refine Iz.far ?_ aX _)); (case side2 => repeat (with_reducible first | exact HB.out | apply bwX | refine bwS ?_ (Iz.ge HI0.out) | refine bwS ?_ GE379.out | refine bwS ?_ GE393.out)); rintro e w83 ⟨rfl, hi, hb, hk⟩; refine ⟨_, rfl, ?_⟩; have n0_ := Asd.mk (Kd.R_mono (Kd.R_keep (Iz.apart (show Iz w0 _ g s0_0 t409 from by repeat (with_reducible first | exact HI0.out | refine Iz.below ?_ StB.b | apply Iz.set_1 | refine Iz.far ?_ aX _)) (by (repeat apply Kd.RS); exact HO_394001.out) (by decide)) hk (fun _ h => h.2)) (fun _ h => h.1)); have n1_ := Asd.mk (Kd.S_mono (Kd.S_keep (Iz.apartS (show Iz w0 _ g s0_0 t409 from by repeat (with_reducible first | exact HI0.out | refine Iz.below ?_ StB.b | apply Iz.set_1 | refine Iz.far ?_ aX _)) (by (repeat apply Kd.SS); exact HO_394002.out) (by decide)) hk (fun _ h => h.2)) (fun _ h => h.1)); have n2_ := Asd.mk (Kbt.blk hk (g' := gb379) (o := .cells #[.int .i64 0, .slice none 0 0, .slice none 0 0] 58 (0, 0)) (by (repeat apply bkS); exact BK379.out) NB379_0.out (by simp)); have n3_ := Asd.mk (Kbt.blk hk (g' := gb393) (o := .cells #[.int .i64 x394000_1, u394001, u394002] 58 (0, 0)) (by (repeat apply bkS); exact BK393.out) NB393_0.out (by simp)); have n4_ := Asd.mk (Kbt.trans (by repeat (with_reducible first | exact HK.out | apply Kbt.set_ | apply kpX | refine kpF ?_ GW379.out _ | refine kpF ?_ GW393.out _)) hk (.inl rfl)); have n5_ := Asd.mk (hb); have n6_ := Asd.mk (hi); clear HO_394001; clear HO_394002; clear BK379; clear BK393; clear HK; clear HB; clear HI0; have HO_394001 := n0_; have HO_394002 := n1_; have BK379 := n2_; have BK393 := n3_; have HK := n4_; have HB := n5_; have HI0 := n6_; clear n0_ n1_ n2_ n3_ n4_ n5_ n6_; (try clear hb); (try clear hb2); (try clear hk); (try clear hi); have hnb84 := NB393_379.out; have hnc84 := NB379_393.out; have hnb85 := NB393_0.out; have hnc85 := NB0_393.out; have hcz86_0 : w83.cell? ⟨gb393, 0, none⟩ = some (.int .i64 x394000_1) := (bkC BK393.out 0).trans rfl; have hcz86_1 : w83.cell? ⟨gb393, 1, none⟩ = some (u394001) := (bkC BK393.out 1).trans rfl; have hcz86_2 : w83.cell? ⟨gb393, 2, none⟩ = some (u394002) := (bkC BK393.out 2).trans rfl; have hfz86_0 := bkF BK393.out 0; have hfz86_1 := bkF BK393.out 1; have hfz86_2 := bkF BK393.out 2) | ((with_reducible refine gate_dst (N := 40) rfl ?_); refine Kd.R_lit (Kd.int .i64) _ 3 ?hg (N := 40) ?hd (xs := ([1] : List Int)) (inner := [.int .i64 1]) (ok := fun _ => True) (okp := fun _ => True) ?hr ?hp (fun _ hk => hk) trivial (Below.refl _ _) (Nat.le_refl _) (by simp) ?_; (case hd => rfl); (case hg => rfl); (case hr => first | (go_simp; done) | (go_simp; rfl)); (case hp => exact (Reps.one (show Kd.M (Kd.int .i64) _ _ _ 1 [.int .i64 1] from rfl) (Reps.none _ _))); intro v414 w87 ho88 hb hg_ hnew_; clear hg_ hnew_; (first | rw [← Ny413.out] at ho88 | (simp only [Int.reduceToNat] at ho88; rw [← Ny413.out] at ho88)); have n0_ := Asd.mk (Kd.R_elder' (by (repeat apply Kd.RS); exact HO_394001.out) (Kd.R_base ho88) hb); have n1_ := Asd.mk (Kd.S_elder' (by (repeat apply Kd.SS); exact HO_394002.out) (Kd.R_base ho88) hb); have n2_ := Asd.mk (Kd.R_lower (Kd.R_new' ho88 (Kd.R_lt (by (repeat apply Kd.RS); exact HO_394001.out))) (kpZ (w := w) (g := g) (row := none) (by repeat (with_reducible first | exact HK.out | apply Kbt.set_ | apply kpX | refine kpF ?_ GW379.out _ | refine kpF ?_ GW393.out _)))); have n3_ := Asd.mk (bkB (g := gb379) (o := .cells #[.int .i64 0, .slice none 0 0, .slice none 0 0] 58 (0, 0)) (by (repeat apply bkS); exact BK379.out) hb); have n4_ := Asd.mk (bkB (g := gb393) (o := .cells #[.int .i64 x394000_1, u394001, u394002] 58 (0, 0)) (by (repeat apply bkS); exact BK393.out) hb); have n5_ := Asd.mk (Iz.below (by repeat (with_reducible first | exact HI0.out | refine Iz.below ?_ StB.b | apply Iz.set_1 | refine Iz.far ?_ aX _)) hb); have n6_ := Asd.mk (Kbt.trans (by repeat (with_reducible first | exact HK.out | apply Kbt.set_ | apply kpX | refine kpF ?_ GW379.out _ | refine kpF ?_ GW393.out _)) (Kbt.of_below hb g none) (.inl rfl)); have n7_ := Asd.mk (bwP (by repeat (with_reducible first | exact HB.out | apply bwX | refine bwS ?_ (Iz.ge HI0.out) | refine bwS ?_ GE379.out | refine bwS ?_ GE393.out)) hb); clear HO_394001; clear HO_394002; clear BK379; clear BK393; clear HI0; clear HK; clear HB; have HO_394001 := n0_; have HO_394002 := n1_; have HO415 := n2_; have BK379 := n3_; have BK393 := n4_; have HI0 := n5_; have HK := n6_; have HB := n7_; clear n0_ n1_ n2_ n3_ n4_ n5_ n6_ n7_; clear hb ho88; obtain ⟨Ao90, co90, eo90⟩ := Kd.R_slice HO415.out; subst eo90) | ((with_reducible refine gate_builtin (b := .append) (xs := #[.tmp 39, .tmp 41]) rfl ?_); at_builtin; refine Kd.S_append (Kd.slice 3 (Kd.int .i64)) w.heap.size rfl (.tmp 39) (.tmp 41) 56 55 (.slice none 0 0) 24 rfl Try.underlying56 info55 rfl (by decide) (by omega) u394002 x394002_1 y413 [.slice Ao90 y413.length co90] (fun k_ => some k_ ≠ (u394001 : Value).ownBlock) (fun k_ => some k_ = (.slice Ao90 y413.length co90 : Value).ownBlock) rfl rfl ?aP (fun k_ hk_ => ((Kd.R_mono (ok' := fun k_ => ((fun k_ => some k_ ≠ (u394001 : Value).ownBlock)) k_ ∧ some k_ ≠ (u394002 : Value).ownBlock) (Kd.R_apart' (HO415.out) (Kd.S_typed HO_394002.out) (by decide)) (fun k_ hk => ⟨hk.1.2, hk.2⟩))).1 k_ hk_.symm) ?aF ?aO (Below.refl _ _) ?aS ?aL ?_; (case aP => exact Kd.M_row (Kd.R_mono (Kd.R_tight rfl (Kd.R_mono (ok' := fun k_ => ((fun k_ => some k_ ≠ (u394001 : Value).ownBlock)) k_ ∧ some k_ ≠ (u394002 : Value).ownBlock) (Kd.R_apart' (HO415.out) (Kd.S_typed HO_394002.out) (by decide)) (fun k_ hk => ⟨hk.1.2, hk.2⟩))) (fun _ h_ => h_))); (case aF => exact (fun k_ hk => Kd.fresh' (Kd.R_lt (by (repeat apply Kd.RS); exact HO_394001.out)) k_ hk)); (case aO => exact (by (repeat apply Kd.SS); exact Kd.S_mono HO_394002.out (fun k_ hk => ⟨hk.1, fun e_ => hk.2 e_⟩))); (case aS => exact (kpZ (w := w) (g := g) (row := none) (by repeat (with_reducible first | exact HK.out | apply Kbt.set_ | apply kpX | refine kpF ?_ GW379.out _ | refine kpF ?_ GW393.out _)))); (case aL => have := LMc81.out; omega); intro v417 w89 ho hb hg hat; rw [← Ny416.out] at ho; have n0_ := Asd.mk (Kd.R_over' (by (repeat apply Kd.RS); exact HO_394001.out) (Kd.S_typed (by (repeat apply Kd.SS); exact HO_394002.out)) (by decide) hg); have n1_ := Asd.mk (blk_grown (g := gb379) (o := .cells #[.int .i64 0, .slice none 0 0, .slice none 0 0] 58 (0, 0)) (by (repeat apply bkS); exact BK379.out) hg (Kd.S_ne HO_394002.out BK379.out (by decide))); have n2_ := Asd.mk (blk_grown (g := gb393) (o := .cells #[.int .i64 x394000_1, u394001, u394002] 58 (0, 0)) (by (repeat apply bkS); exact BK393.out) hg (Kd.S_ne HO_394002.out BK393.out (by decide))); have n3_ := Asd.mk (Iz.grown (by repeat (with_reducible first | exact HI0.out | refine Iz.below ?_ StB.b | apply Iz.set_1 | refine Iz.far ?_ aX _)) hg (Iz.own_neS HI0.out HO_394002.out (by decide))); have n4_ := Asd.mk (below_weaken (by repeat (with_reducible first | exact HB.out | apply bwX | refine bwS ?_ (Iz.ge HI0.out) | refine bwS ?_ GE379.out | refine bwS ?_ GE393.out)) HL.out hb); have n5_ := Asd.mk (Kbt.trans (by repeat (with_reducible first | exact HK.out | apply Kbt.set_ | apply kpX | refine kpF ?_ GW379.out _ | refine kpF ?_ GW393.out _)) (Kbt.of_grown hg g) (Kd.S_base2 HO_394002.out)); have n6_ := Asd.mk (ho); clear HO_394001; clear BK379; clear BK393; clear HI0; clear HB; clear HK; clear HO_394002; clear HO415; have HO_394001 := n0_; have BK379 := n1_; have BK393 := n2_; have HI0 := n3_; have HB := n4_; have HK := n5_; have HO418 := n6_; clear n0_ n1_ n2_ n3_ n4_ n5_ n6_; clear ho hb hg hat; obtain ⟨Ao91, co91, eo91⟩ := Kd.S_slice HO418.out; subst eo91; have hcz92_0 : w89.cell? ⟨gb393, 0, none⟩ = some (.int .i64 x394000_1) := (bkC BK393.out 0).trans rfl; have hcz92_1 : w89.cell? ⟨gb393, 1, none⟩ = some (u394001) := (bkC BK393.out 1).trans rfl; have hcz92_2 : w89.cell? ⟨gb393, 2, none⟩ = some (u394002) := (bkC BK393.out 2).trans rfl; have hfz92_0 := bkF BK393.out 0; have hfz92_1 := bkF BK393.out 1; have hfz92_2 := bkF BK393.out 2; have hnb93 := NB379_0.out; have hnc93 := NB0_379.out; have hcz94_0 : w89.cell? ⟨gb379, 0, none⟩ = some (.int .i64 0) := (bkC BK379.out 0).trans rfl; have hcz94_1 : w89.cell? ⟨gb379, 1, none⟩ = some (.slice none 0 0) := (bkC BK379.out 1).trans rfl; have hcz94_2 : w89.cell? ⟨gb379, 2, none⟩ = some (.slice none 0 0) := (bkC BK379.out 2).trans rfl; have hfz94_0 := bkF BK379.out 0; have hfz94_1 := bkF BK379.out 1; have hfz94_2 := bkF BK379.out 2; obtain ⟨Ao95, co95, eo95⟩ := Kd.R_slice HO_394001.out; subst eo95))
       refine bodyPost_ret (results_cell_row rfl _ _ gb379 58 #[.int .i64 x394000_1, .slice Ao95 x394001_1.length co95, .slice Ao91 y416.length co91] (0, 0) _ rfl (by (repeat apply bkS); refine bkP (cs := #[.int .i64 x394000_1, .slice Ao95 x394001_1.length co95, .slice none 0 0]) ?_ 2 _ rfl; (repeat apply bkS); refine bkP (cs := #[.int .i64 x394000_1, .slice none 0 0, .slice none 0 0]) ?_ 1 _ rfl; (repeat apply bkS); refine bkP (cs := #[.int .i64 0, .slice none 0 0, .slice none 0 0]) ?_ 0 _ rfl; (repeat apply bkS); refine bkR ?_ NB379_393.out _; (repeat apply bkS); exact BK379.out) Try.underlying58 rfl (by kernel_rfl)) rfl ?_
       exact ⟨_, _, by first | rfl | (simp [*, errW_none, errW_some] <;> rfl), by (repeat apply Kd.RS); exact Kd.R_mono (Kd.R_far (p := ⟨gb379, 2, none⟩) (Kd.R_far (p := ⟨gb379, 1, none⟩) (Kd.R_far (p := ⟨gb379, 0, none⟩) (Kd.R_far (p := ⟨gb393, 2, none⟩) (Kd.R_types (Kd.R_types HO_394001.out BK393.out (by decide)) BK379.out (by decide)) (fun _ hk => hk.1.2) (.slice Ao91 y416.length co91)) (fun _ hk => hk.2) (.int .i64 x394000_1)) (fun _ hk => hk.2) (.slice Ao95 x394001_1.length co95)) (fun _ hk => hk.2) (.slice Ao91 y416.length co91)) (fun _ hk => trivial), by (repeat apply Kd.SS); exact Kd.S_mono (Kd.S_far (p := ⟨gb379, 2, none⟩) (Kd.S_far (p := ⟨gb379, 1, none⟩) (Kd.S_far (p := ⟨gb379, 0, none⟩) (Kd.S_far (p := ⟨gb393, 2, none⟩) (Kd.S_types (Kd.S_types HO418.out BK393.out (by decide)) BK379.out (by decide)) (fun _ hk => hk.1.2) (.slice Ao91 y416.length co91)) (fun _ hk => hk.2) (.int .i64 x394000_1)) (fun _ hk => hk.2) (.slice Ao95 x394001_1.length co95)) (fun _ hk => hk.2) (.slice Ao91 y416.length co91)) (fun _ hk => hk.1.1), by repeat (with_reducible first | exact HI0.out | refine Iz.below ?_ StB.b | apply Iz.set_1 | refine Iz.far ?_ aX _), by repeat (with_reducible first | exact HB.out | apply bwX | refine bwS ?_ (Iz.ge HI0.out) | refine bwS ?_ GE379.out | refine bwS ?_ GE393.out), by repeat (with_reducible first | exact HK.out | apply Kbt.set_ | apply kpX | refine kpF ?_ GW379.out _ | refine kpF ?_ GW393.out _)⟩
    ·replace c55 := Bool.eq_false_iff.mpr c55
     subst c55
     rw [if_neg (show ¬ (false = true) by decide)] at H
     simp only [Option.some.injEq, Prod.mk.injEq] at H
     obtain ⟨rfl, rfl, rfl, rfl⟩ := H
     go_wp2_with (first | ((with_reducible refine gate_callee (f := 81) rfl ?_); refine gsM (some 35) rfl rfl Try.func81 (by kernel_rfl) rfl #[.pointer (some ⟨g, 0, none⟩), .int .i64 a1] rfl ?_; (with_reducible refine (spec_l20Rd_odd.calls k1 g s0_0 x1001_1 a1 false t409 w0 _ ?side1 ?side2 A54.out).mono ?_); (case side1 => repeat (with_reducible first | exact HI0.out | refine Iz.below ?_ StB.b | apply Iz.set_1 | refine Iz.far ?_ aX _)); (case side2 => repeat (with_reducible first | exact HB.out | apply bwX | refine bwS ?_ (Iz.ge HI0.out) | refine bwS ?_ GE379.out | refine bwS ?_ GE393.out)); rintro e w96 ⟨rfl, hi, hb, hk⟩; refine ⟨_, rfl, ?_⟩; have n0_ := Asd.mk (Kd.R_mono (Kd.R_keep (Iz.apart (show Iz w0 _ g s0_0 x1001_1 from by repeat (with_reducible first | exact HI0.out | refine Iz.below ?_ StB.b | apply Iz.set_1 | refine Iz.far ?_ aX _)) (by (repeat apply Kd.RS); exact HO_394001.out) (by decide)) hk (fun _ h => h.2)) (fun _ h => h.1)); have n1_ := Asd.mk (Kd.S_mono (Kd.S_keep (Iz.apartS (show Iz w0 _ g s0_0 x1001_1 from by repeat (with_reducible first | exact HI0.out | refine Iz.below ?_ StB.b | apply Iz.set_1 | refine Iz.far ?_ aX _)) (by (repeat apply Kd.SS); exact HO_394002.out) (by decide)) hk (fun _ h => h.2)) (fun _ h => h.1)); have n2_ := Asd.mk (Kbt.blk hk (g' := gb379) (o := .cells #[.int .i64 0, .slice none 0 0, .slice none 0 0] 58 (0, 0)) (by (repeat apply bkS); exact BK379.out) NB379_0.out (by simp)); have n3_ := Asd.mk (Kbt.blk hk (g' := gb393) (o := .cells #[.int .i64 x394000_1, u394001, u394002] 58 (0, 0)) (by (repeat apply bkS); exact BK393.out) NB393_0.out (by simp)); have n4_ := Asd.mk (Kbt.trans (by repeat (with_reducible first | exact HK.out | apply Kbt.set_ | apply kpX | refine kpF ?_ GW379.out _ | refine kpF ?_ GW393.out _)) hk (.inl rfl)); have n5_ := Asd.mk (hb); have n6_ := Asd.mk (hi); clear HO_394001; clear HO_394002; clear BK379; clear BK393; clear HK; clear HB; clear HI0; have HO_394001 := n0_; have HO_394002 := n1_; have BK379 := n2_; have BK393 := n3_; have HK := n4_; have HB := n5_; have HI0 := n6_; clear n0_ n1_ n2_ n3_ n4_ n5_ n6_; (try clear hb); (try clear hb2); (try clear hk); (try clear hi); have hnb97 := NB393_379.out; have hnc97 := NB379_393.out; have hnb98 := NB393_0.out; have hnc98 := NB0_393.out; have hcz99_0 : w96.cell? ⟨gb393, 0, none⟩ = some (.int .i64 x394000_1) := (bkC BK393.out 0).trans rfl; have hcz99_1 : w96.cell? ⟨gb393, 1, none⟩ = some (u394001) := (bkC BK393.out 1).trans rfl; have hcz99_2 : w96.cell? ⟨gb393, 2, none⟩ = some (u394002) := (bkC BK393.out 2).trans rfl; have hfz99_0 := bkF BK393.out 0; have hfz99_1 := bkF BK393.out 1; have hfz99_2 := bkF BK393.out 2; have hnb100 := NB379_0.out; have hnc100 := NB0_379.out; have hcz101_0 : w96.cell? ⟨gb379, 0, none⟩ = some (.int .i64 0) := (bkC BK379.out 0).trans rfl; have hcz101_1 : w96.cell? ⟨gb379, 1, none⟩ = some (.slice none 0 0) := (bkC BK379.out 1).trans rfl; have hcz101_2 : w96.cell? ⟨gb379, 2, none⟩ = some (.slice none 0 0) := (bkC BK379.out 2).trans rfl; have hfz101_0 := bkF BK379.out 0; have hfz101_1 := bkF BK379.out 1; have hfz101_2 := bkF BK379.out 2; obtain ⟨Ao102, co102, eo102⟩ := Kd.R_slice HO_394001.out; subst eo102; obtain ⟨Ao103, co103, eo103⟩ := Kd.S_slice HO_394002.out; subst eo103))
     refine bodyPost_ret (results_cell_row rfl _ _ gb379 58 #[.int .i64 x394000_1, .slice Ao102 x394001_1.length co102, .slice Ao103 x394002_1.length co103] (0, 0) _ rfl (by (repeat apply bkS); refine bkP (cs := #[.int .i64 x394000_1, .slice Ao102 x394001_1.length co102, .slice none 0 0]) ?_ 2 _ rfl; (repeat apply bkS); refine bkP (cs := #[.int .i64 x394000_1, .slice none 0 0, .slice none 0 0]) ?_ 1 _ rfl; (repeat apply bkS); refine bkP (cs := #[.int .i64 0, .slice none 0 0, .slice none 0 0]) ?_ 0 _ rfl; (repeat apply bkS); exact BK379.out) Try.underlying58 rfl (by kernel_rfl)) rfl ?_
     exact ⟨_, _, by first | rfl | (simp [*, errW_none, errW_some] <;> rfl), by (repeat apply Kd.RS); exact Kd.R_mono (Kd.R_far (p := ⟨gb379, 2, none⟩) (Kd.R_far (p := ⟨gb379, 1, none⟩) (Kd.R_far (p := ⟨gb379, 0, none⟩) (Kd.R_types HO_394001.out BK379.out (by decide)) (fun _ hk => hk.2) (.int .i64 x394000_1)) (fun _ hk => hk.2) (.slice Ao102 x394001_1.length co102)) (fun _ hk => hk.2) (.slice Ao103 x394002_1.length co103)) (fun _ hk => trivial), by (repeat apply Kd.SS); exact Kd.S_mono (Kd.S_far (p := ⟨gb379, 2, none⟩) (Kd.S_far (p := ⟨gb379, 1, none⟩) (Kd.S_far (p := ⟨gb379, 0, none⟩) (Kd.S_types HO_394002.out BK379.out (by decide)) (fun _ hk => hk.2) (.int .i64 x394000_1)) (fun _ hk => hk.2) (.slice Ao102 x394001_1.length co102)) (fun _ hk => hk.2) (.slice Ao103 x394002_1.length co103)) (fun _ hk => hk.1), by repeat (with_reducible first | exact HI0.out | refine Iz.below ?_ StB.b | apply Iz.set_1 | refine Iz.far ?_ aX _), by repeat (with_reducible first | exact HB.out | apply bwX | refine bwS ?_ (Iz.ge HI0.out) | refine bwS ?_ GE379.out | refine bwS ?_ GE393.out), by repeat (with_reducible first | exact HK.out | apply Kbt.set_ | apply kpX | refine kpF ?_ GW379.out _ | refine kpF ?_ GW393.out _)⟩

end Go.Proofs.Ytihgpkohglcijaa.P
