-- Written by a program of this session (wip/hook.py), which runs the kit's printer; Lean checks it.
import Derived.Test.YtihgpkohglcijaaPx0
import Derived.Test.YtihgpkohglcijaaPx4
import Derived.Test.YtihgpkohglcijaaPx9
import Derived.Test.YtihgpkohglcijaaPx10
import Derived.Test.YtihgpkohglcijaaPx11
import Derived.Test.YtihgpkohglcijaaPx12
namespace Go.Proofs.Ytihgpkohglcijaa.P
open Go.RowKit Go.Proofs.YtihgpkohglcijaaW.PrintWords Go.Proofs.YtihgpkohglcijaaW.PrintLast Go.Proofs.YtihgpkohglcijaaW.PrintMore
attribute [local go_sem] max2_int min2_int max_two min_two max_three min_three max_four min_four   -- for this text's walks alone
set_option linter.unusedVariables false
set_option linter.unusedSimpArgs false

/-! ### spec_l20Mind: function 88 -/
def spec_l20Mind.l0 : Nat → Int → Int → List Int → Int → Int → List Int → List (List Int) → Option (Int × List Int × (List (List Int)) × Int)
 | 0, _, _, _, _, _, _, _ => none
 | k + 1, x1, x7, x1000, x1001, x404000, x404001, x404002 => if x7 > 0 then ((spec_l20Deed.f k x1000 x1001 x404000 x404001 x404002).bind fun bt406 => ((spec_MindDo.f k x404000 x404001 x404002 bt406.1 bt406.2.1).bind fun bt409 => (if bt409.2.2.2 = true then (spec_l20Mind.l0 k x1 (wrap64 (x7 - 1)) x1000 bt406.2.2 bt409.1 bt409.2.1 bt409.2.2.1) else (spec_l20Mind.l0 k x1 (wrap64 (x7 - 1)) x1000 bt406.2.2 x404000 x404001 x404002)))) else ((spec_l20Rd_odd.f k x1000 x1001 x1).bind fun bt418 => (if bt418.1 = true then ((spec_l20Rd_pick.f k x1000 bt418.2 3).bind fun bt420 => (if bt420.1 = 0 then (some (4, x404001, x404002, bt420.2)) else (if bt420.1 = 1 then (if 0 < (x404001.length : Int) then (some (x404000, (x404001.set (0 : Int).toNat 9), x404002, bt420.2)) else (none)) else (if x404002.length < 5864062014805 then (some (x404000, x404001, (x404002 ++ [(([1] : List Int))]), bt420.2)) else (none))))) else (some (x404000, x404001, x404002, bt418.2))))
def spec_l20Mind.f (k : Nat) (s0_0 : List Int) (s0_1 : Int) (a1 : Int) : Option (Int × List Int × (List (List Int)) × Int) := (spec_l20Things.f k s0_0 s0_1 0).bind fun bt390 => ((spec_l20Rank.f k s0_0 bt390.2 bt390.1 0).bind fun bt392 => ((spec_MindNew.f k bt390.1 bt392.1).bind fun bt396 => ((spec_l20Rd_pick.f k s0_0 bt392.2 6).bind fun bt404 => (spec_l20Mind.l0 k a1 bt404.1 s0_0 bt404.2 bt396.1 bt396.2.1 bt396.2.2))))
theorem spec_l20Mind.mono_l : ∀ k, (∀ y0 y1 y2 y3 y4 y5 y6, LeO (spec_l20Mind.l0 k y0 y1 y2 y3 y4 y5 y6) (spec_l20Mind.l0 (k + 1) y0 y1 y2 y3 y4 y5 y6))
 | 0 => fun _ _ _ _ _ _ _ r h => by simp [spec_l20Mind.l0] at h
 | k + 1 => by
  have ih0 := spec_l20Mind.mono_l k
  ·intro y0 y1 y2 y3 y4 y5 y6
   unfold spec_l20Mind.l0
   repeat' first
   | (with_reducible exact ih0 _ _ _ _ _ _ _)
   | (with_reducible exact spec_MindDo.mono _ _ _ _ _ _)
   | (with_reducible exact spec_MindNew.mono _ _ _)
   | (with_reducible exact spec_l20Deed.mono _ _ _ _ _ _)
   | (with_reducible exact spec_l20Rank.mono _ _ _ _ _)
   | (with_reducible exact spec_l20Rd_odd.mono _ _ _ _)
   | (with_reducible exact spec_l20Rd_pick.mono _ _ _ _)
   | (with_reducible exact spec_l20Things.mono _ _ _ _)
   | (with_reducible exact LeO.refl _)
   | (with_reducible exact LeO.none _)
   | (with_reducible refine LeO.ite ?_ ?_)
   | (with_reducible refine LeO.bind ?_ (fun _ => ?_))
   | refine LeO.ite ?_ ?_
   | refine LeO.bind ?_ (fun _ => ?_)
theorem spec_l20Mind.mono : ∀ a0 a1 a2 k, LeO (spec_l20Mind.f k a0 a1 a2) (spec_l20Mind.f (k + 1) a0 a1 a2) := by
 intro a0 a1 a2 k
 have ih0 := spec_l20Mind.mono_l k
 unfold spec_l20Mind.f
 repeat' first
   | (with_reducible exact ih0 _ _ _ _ _ _ _)
   | (with_reducible exact spec_MindDo.mono _ _ _ _ _ _)
   | (with_reducible exact spec_MindNew.mono _ _ _)
   | (with_reducible exact spec_l20Deed.mono _ _ _ _ _ _)
   | (with_reducible exact spec_l20Rank.mono _ _ _ _ _)
   | (with_reducible exact spec_l20Rd_odd.mono _ _ _ _)
   | (with_reducible exact spec_l20Rd_pick.mono _ _ _ _)
   | (with_reducible exact spec_l20Things.mono _ _ _ _)
   | (with_reducible exact LeO.refl _)
   | (with_reducible exact LeO.none _)
   | (with_reducible refine LeO.ite ?_ ?_)
   | (with_reducible refine LeO.bind ?_ (fun _ => ?_))
   | refine LeO.ite ?_ ?_
   | refine LeO.bind ?_ (fun _ => ?_)
def spec_l20Mind.T6 : Bool × List (List Nat × List Nat) := (true, [([], []), ([], []), ([], []), ([1, 2], [1, 2]), ([0, 3, 3], [0, 3]), ([4], [4]), ([5], [5]), ([5], [5]), ([], []), ([8, 6, 4, 0, 1, 2, 3, 4, 5, 6, 8], [6, 8]), ([7, 9, 0, 1, 2, 3, 4, 5, 6, 7, 8, 9], [7])])
def spec_l20Mind.B6 : List Nat := [0, 0, 0, 6, 15, 31, 63, 63, 0, 383, 1023]
theorem spec_l20Mind.tab6 : rtab .any (opsOf Try.f88 6) = spec_l20Mind.T6 := by kernel_rfl
theorem spec_l20Mind.bits6 : waitsOk spec_l20Mind.T6.2 spec_l20Mind.B6 = true := by kernel_rfl
set_option maxHeartbeats 8000000 in
set_option maxRecDepth 100000 in
theorem spec_l20Mind.calls (k : Nat) (g : Nat) (s0_0 : List Int) (s0_1 : Int) (a1 : Int) (r1 : Int) (r2 : List Int) (r3 : List (List Int)) (r4 : Int) (w0 w : World) (hI : Iz w0 w g s0_0 s0_1) (hB : Below w0.heap.size w0 w) (h : spec_l20Mind.f k s0_0 s0_1 a1 = some (r1, r2, r3, r4)) :
  Calls Try.prog 88 #[.pointer (some ⟨g, 0, none⟩), .int .i64 a1] w fun e w' => ∃ v1_ v2_ : Value, e = .returned (.agg #[.int .i64 r1, v1_, v2_]) ∧ Kd.R (Kd.int .i64) 3 w' w.heap.size (fun _ => True) v1_ r2 ∧ Kd.S (Kd.slice 3 (Kd.int .i64)) 55 w' w.heap.size (fun k_ => some k_ ≠ (v1_ : Value).ownBlock) v2_ r3 ∧ Iz w0 w' g s0_0 r4 ∧ Below w0.heap.size w0 w' ∧ Kbt w w' g none := by
 have hu58 := Try.underlying58
 have HI0 := Asd.mk hI
 have HK := Asd.mk (Kbt.refl w g none)
 have HL := Asd.mk hB.size
 clear hI
 have HW0 := Asd.mk hB.size
 have HB := Asd.mk hB
 clear hB
 have H : ((spec_l20Things.f k s0_0 s0_1 0).bind fun bt390 => ((spec_l20Rank.f k s0_0 bt390.2 bt390.1 0).bind fun bt392 => ((spec_MindNew.f k bt390.1 bt392.1).bind fun bt396 => ((spec_l20Rd_pick.f k s0_0 bt392.2 6).bind fun bt404 => (spec_l20Mind.l0 k a1 bt404.1 s0_0 bt404.2 bt396.1 bt396.2.1 bt396.2.2))))) = some (r1, r2, r3, r4) := h
 clear h
 replace H := Option.bind_eq_some_iff.mp H
 obtain ⟨⟨t390, t391⟩, A30, H⟩ := H
 try dsimp only at H
 have A3 := Asd.mk A30
 clear A30
 replace H := Option.bind_eq_some_iff.mp H
 obtain ⟨⟨t392, t395⟩, A40, H⟩ := H
 try dsimp only at H
 have A4 := Asd.mk A40
 clear A40
 replace H := Option.bind_eq_some_iff.mp H
 obtain ⟨⟨t396, t397, t400⟩, A50, H⟩ := H
 try dsimp only at H
 have A5 := Asd.mk A50
 clear A50
 replace H := Option.bind_eq_some_iff.mp H
 obtain ⟨⟨t404, t405⟩, A60, H⟩ := H
 try dsimp only at H
 have A6 := Asd.mk A60
 clear A60
 have H' := Asd.mk H
 clear H
 go_enter Try.func88, Try.ntmps88
 go_wp2_with (first | ((with_reducible refine gate_dst (N := 4) rfl ?_); refine bxE ?hg (N := 4) ?hd (cs := #[.int .i64 0, .slice none 0 0, .slice none 0 0]) (t := 58) ?hr ?_; (case hd => rfl); (case hg => rfl); (case hr => first | (go_simp; done) | (go_simp; rfl)); intro gb389 hg w7 hbox hb; have n0_ := Asd.mk (Iz.below (by repeat (with_reducible first | exact HI0.out | refine Iz.below ?_ StB.b | apply Iz.set_1)) hb); have n1_ := Asd.mk (Kbt.trans (by repeat (with_reducible first | exact HK.out | apply Kbt.set_ | apply kpX)) (Kbt.of_below hb g none) (.inl rfl)); have n2_ := Asd.mk (bwP (by repeat (with_reducible first | exact HB.out | apply bwX | refine bwS ?_ (Iz.ge HI0.out))) hb); have n3_ := Asd.mk (hbox); have n4_ := Asd.mk ((by rw [hg]; exact (kpZ (w := w) (g := g) (row := none) (by repeat (with_reducible first | exact HK.out | apply Kbt.set_ | apply kpX))) : w.heap.size ≤ gb389)); have n5_ := Asd.mk ((Nat.le_trans HW0.out (by rw [hg]; exact (kpZ (w := w) (g := g) (row := none) (by repeat (with_reducible first | exact HK.out | apply Kbt.set_ | apply kpX))) : w.heap.size ≤ gb389) : w0.heap.size ≤ gb389)); have n6_ := Asd.mk ((by rw [hg]; exact Nat.ne_of_lt (Iz.lt (show Iz w0 _ g s0_0 s0_1 from by repeat (with_reducible first | exact HI0.out | refine Iz.below ?_ StB.b | apply Iz.set_1))) : g ≠ gb389)); have n7_ := Asd.mk ((by rw [hg]; exact Nat.ne_of_gt (Iz.lt (show Iz w0 _ g s0_0 s0_1 from by repeat (with_reducible first | exact HI0.out | refine Iz.below ?_ StB.b | apply Iz.set_1))) : gb389 ≠ g)); clear HI0; clear HK; clear HB; have HI0 := n0_; have HK := n1_; have HB := n2_; have BK389 := n3_; have GW389 := n4_; have GE389 := n5_; have NB0_389 := n6_; have NB389_0 := n7_; clear n0_ n1_ n2_ n3_ n4_ n5_ n6_ n7_; clear hb hbox hg) | ((with_reducible refine gate_callee (f := 79) rfl ?_); refine gsM (some 11) rfl rfl Try.func79 (by kernel_rfl) rfl #[.pointer (some ⟨g, 0, none⟩), .int .i64 0] rfl ?_; (with_reducible refine (spec_l20Things.calls k g s0_0 s0_1 0 t390 t391 w0 _ ?side1 ?side2 A3.out).mono ?_); (case side1 => repeat (with_reducible first | exact HI0.out | refine Iz.below ?_ StB.b | apply Iz.set_1 | refine Iz.far ?_ aX _)); (case side2 => repeat (with_reducible first | exact HB.out | apply bwX | refine bwS ?_ (Iz.ge HI0.out) | refine bwS ?_ GE389.out)); rintro e w8 ⟨rfl, hi, hb, hk⟩; refine ⟨_, rfl, ?_⟩; have n0_ := Asd.mk (Kbt.blk hk (g' := gb389) (o := .cells #[.int .i64 0, .slice none 0 0, .slice none 0 0] 58 (0, 0)) (by (repeat apply bkS); exact BK389.out) NB389_0.out (by simp)); have n1_ := Asd.mk (Kbt.trans (by repeat (with_reducible first | exact HK.out | apply Kbt.set_ | apply kpX | refine kpF ?_ GW389.out _)) hk (.inl rfl)); have n2_ := Asd.mk (hb); have n3_ := Asd.mk (hi); clear BK389; clear HK; clear HB; clear HI0; have BK389 := n0_; have HK := n1_; have HB := n2_; have HI0 := n3_; clear n0_ n1_ n2_ n3_; (try clear hb); (try clear hb2); (try clear hk); (try clear hi)) | ((with_reducible refine gate_callee (f := 103) rfl ?_); refine gsM (some 15) rfl rfl Try.func103 (by kernel_rfl) rfl #[.pointer (some ⟨g, 0, none⟩), .int .i64 t390, .int .i64 0] rfl ?_; (with_reducible refine (spec_l20Rank.calls k g s0_0 t391 t390 0 t392 t395 w0 _ ?side1 ?side2 A4.out).mono ?_); (case side1 => repeat (with_reducible first | exact HI0.out | refine Iz.below ?_ StB.b | apply Iz.set_1 | refine Iz.far ?_ aX _)); (case side2 => repeat (with_reducible first | exact HB.out | apply bwX | refine bwS ?_ (Iz.ge HI0.out) | refine bwS ?_ GE389.out)); rintro e w9 ⟨v393, rfl, ho0, hi, hb, hk⟩; refine ⟨_, rfl, ?_⟩; have n0_ := Asd.mk (Kbt.blk hk (g' := gb389) (o := .cells #[.int .i64 0, .slice none 0 0, .slice none 0 0] 58 (0, 0)) (by (repeat apply bkS); exact BK389.out) NB389_0.out (by simp)); have n1_ := Asd.mk (Kd.R_lower ho0 (kpZ (w := w) (g := g) (row := none) (by repeat (with_reducible first | exact HK.out | apply Kbt.set_ | apply kpX | refine kpF ?_ GW389.out _)))); have n2_ := Asd.mk (Kbt.trans (by repeat (with_reducible first | exact HK.out | apply Kbt.set_ | apply kpX | refine kpF ?_ GW389.out _)) hk (.inl rfl)); have n3_ := Asd.mk (hb); have n4_ := Asd.mk (hi); clear BK389; clear HK; clear HB; clear HI0; have BK389 := n0_; have HO394 := n1_; have HK := n2_; have HB := n3_; have HI0 := n4_; clear n0_ n1_ n2_ n3_ n4_; (try clear hb); (try clear hb2); (try clear hk); (try clear hi); (try clear ho0); obtain ⟨Ao10, co10, eo10⟩ := Kd.R_slice HO394.out; subst eo10) | ((with_reducible refine gate_callee (f := 42) rfl ?_); refine gsM (some 16) rfl rfl Try.func42 (by kernel_rfl) rfl #[.int .i64 t390, .slice Ao10 t392.length co10] rfl ?_; (with_reducible refine (spec_MindNew.calls k t390 _ _ t392 t396 t397 t400 _ ?side1 ?side2 A5.out).mono ?_); (case side1 => repeat (first | exact (Kd.R_reads' HO394.out).2.2 | (with_reducible refine Kd.C_alloc ?_ _) | (with_reducible refine Kd.C_drewN ?_ _) | (with_reducible refine Kd.C_drew ?_))); (case side2 => exact (Kd.R_reads' HO394.out).2.1); rintro e w11 ⟨v398, v401, rfl, ho0, ho1, hb⟩; refine ⟨_, rfl, ?_⟩; have n0_ := Asd.mk (Kd.R_elder' (by (repeat apply Kd.RS); exact HO394.out) (Kd.R_base ho0) hb); have n1_ := Asd.mk (Kd.R_lower (Kd.R_new' ho0 (Kd.R_lt (by (repeat apply Kd.RS); exact HO394.out))) (kpZ (w := w) (g := g) (row := none) (by repeat (with_reducible first | exact HK.out | apply Kbt.set_ | apply kpX | refine kpF ?_ GW389.out _)))); have n2_ := Asd.mk (Kd.S_lower (Kd.S_new' ho1 (Kd.R_lt (by (repeat apply Kd.RS); exact HO394.out))) (kpZ (w := w) (g := g) (row := none) (by repeat (with_reducible first | exact HK.out | apply Kbt.set_ | apply kpX | refine kpF ?_ GW389.out _)))); have n3_ := Asd.mk (Iz.below (by repeat (with_reducible first | exact HI0.out | refine Iz.below ?_ StB.b | apply Iz.set_1 | refine Iz.far ?_ aX _)) hb); have n4_ := Asd.mk (bkB (g := gb389) (o := .cells #[.int .i64 0, .slice none 0 0, .slice none 0 0] 58 (0, 0)) (by (repeat apply bkS); exact BK389.out) hb); have n5_ := Asd.mk (Kbt.trans (by repeat (with_reducible first | exact HK.out | apply Kbt.set_ | apply kpX | refine kpF ?_ GW389.out _)) (Kbt.of_below hb g none) (.inl rfl)); have n6_ := Asd.mk (bwP (by repeat (with_reducible first | exact HB.out | apply bwX | refine bwS ?_ (Iz.ge HI0.out) | refine bwS ?_ GE389.out)) hb); clear HO394; clear HI0; clear BK389; clear HK; clear HB; have HO394 := n0_; have HO399 := n1_; have HO402 := n2_; have HI0 := n3_; have BK389 := n4_; have HK := n5_; have HB := n6_; clear n0_ n1_ n2_ n3_ n4_ n5_ n6_; (try clear hb); (try clear hb2); (try clear hk); (try clear hi); (try clear ho0); (try clear ho1)) | ((with_reducible refine gate_dst (N := 6) rfl ?_); refine bxE ?hg (N := 6) ?hd (cs := #[.int .i64 0, .slice none 0 0, .slice none 0 0]) (t := 58) ?hr ?_; (case hd => rfl); (case hg => rfl); (case hr => first | (go_simp; done) | (go_simp; rfl)); intro gb403 hg w12 hbox hb; have n0_ := Asd.mk (Kd.R_below (by (repeat apply Kd.RS); exact HO394.out) hb); have n1_ := Asd.mk (Kd.R_below (by (repeat apply Kd.RS); exact HO399.out) hb); have n2_ := Asd.mk (Kd.S_below (by (repeat apply Kd.SS); exact HO402.out) hb); have n3_ := Asd.mk (Iz.below (by repeat (with_reducible first | exact HI0.out | refine Iz.below ?_ StB.b | apply Iz.set_1 | refine Iz.far ?_ aX _)) hb); have n4_ := Asd.mk (bkB (g := gb389) (o := .cells #[.int .i64 0, .slice none 0 0, .slice none 0 0] 58 (0, 0)) (by (repeat apply bkS); exact BK389.out) hb); have n5_ := Asd.mk (Kbt.trans (by repeat (with_reducible first | exact HK.out | apply Kbt.set_ | apply kpX | refine kpF ?_ GW389.out _)) (Kbt.of_below hb g none) (.inl rfl)); have n6_ := Asd.mk (bwP (by repeat (with_reducible first | exact HB.out | apply bwX | refine bwS ?_ (Iz.ge HI0.out) | refine bwS ?_ GE389.out)) hb); have n7_ := Asd.mk (hbox); have n8_ := Asd.mk ((by rw [hg]; exact (kpZ (w := w) (g := g) (row := none) (by repeat (with_reducible first | exact HK.out | apply Kbt.set_ | apply kpX | refine kpF ?_ GW389.out _))) : w.heap.size ≤ gb403)); have n9_ := Asd.mk ((Nat.le_trans HW0.out (by rw [hg]; exact (kpZ (w := w) (g := g) (row := none) (by repeat (with_reducible first | exact HK.out | apply Kbt.set_ | apply kpX | refine kpF ?_ GW389.out _))) : w.heap.size ≤ gb403) : w0.heap.size ≤ gb403)); have n10_ := Asd.mk ((by rw [hg]; exact Nat.ne_of_lt (bkL (g := gb389) (o := .cells #[.int .i64 0, .slice none 0 0, .slice none 0 0] 58 (0, 0)) (by (repeat apply bkS); exact BK389.out)) : gb389 ≠ gb403)); have n11_ := Asd.mk ((by rw [hg]; exact Nat.ne_of_gt (bkL (g := gb389) (o := .cells #[.int .i64 0, .slice none 0 0, .slice none 0 0] 58 (0, 0)) (by (repeat apply bkS); exact BK389.out)) : gb403 ≠ gb389)); have n12_ := Asd.mk ((by rw [hg]; exact Nat.ne_of_lt (Iz.lt (show Iz w0 _ g s0_0 t395 from by repeat (with_reducible first | exact HI0.out | refine Iz.below ?_ StB.b | apply Iz.set_1 | refine Iz.far ?_ aX _))) : g ≠ gb403)); have n13_ := Asd.mk ((by rw [hg]; exact Nat.ne_of_gt (Iz.lt (show Iz w0 _ g s0_0 t395 from by repeat (with_reducible first | exact HI0.out | refine Iz.below ?_ StB.b | apply Iz.set_1 | refine Iz.far ?_ aX _))) : gb403 ≠ g)); clear HO394; clear HO399; clear HO402; clear HI0; clear BK389; clear HK; clear HB; have HO394 := n0_; have HO399 := n1_; have HO402 := n2_; have HI0 := n3_; have BK389 := n4_; have HK := n5_; have HB := n6_; have BK403 := n7_; have GW403 := n8_; have GE403 := n9_; have NB389_403 := n10_; have NB403_389 := n11_; have NB0_403 := n12_; have NB403_0 := n13_; clear n0_ n1_ n2_ n3_ n4_ n5_ n6_ n7_ n8_ n9_ n10_ n11_ n12_ n13_; clear hb hbox hg; have hnb13 := NB403_389.out; have hnc13 := NB389_403.out; have hnb14 := NB403_0.out; have hnc14 := NB0_403.out; have hcz15_0 : w12.cell? ⟨gb403, 0, none⟩ = some (.int .i64 0) := (bkC BK403.out 0).trans rfl; have hcz15_1 : w12.cell? ⟨gb403, 1, none⟩ = some (.slice none 0 0) := (bkC BK403.out 1).trans rfl; have hcz15_2 : w12.cell? ⟨gb403, 2, none⟩ = some (.slice none 0 0) := (bkC BK403.out 2).trans rfl; have hfz15_0 := bkF BK403.out 0; have hfz15_1 := bkF BK403.out 1; have hfz15_2 := bkF BK403.out 2; obtain ⟨Ao16, co16, eo16⟩ := Kd.R_slice HO399.out; subst eo16; obtain ⟨Ao17, co17, eo17⟩ := Kd.S_slice HO402.out; subst eo17) | ((with_reducible refine gate_callee (f := 82) rfl ?_); refine gsM (some 18) rfl rfl Try.func82 (by kernel_rfl) rfl #[.pointer (some ⟨g, 0, none⟩), .int .i64 6] rfl ?_; (with_reducible refine (spec_l20Rd_pick.calls k g s0_0 t395 6 t404 t405 w0 _ ?side1 ?side2 A6.out).mono ?_); (case side1 => repeat (with_reducible first | exact HI0.out | refine Iz.below ?_ StB.b | apply Iz.set_1 | refine Iz.far ?_ aX _)); (case side2 => repeat (with_reducible first | exact HB.out | apply bwX | refine bwS ?_ (Iz.ge HI0.out) | refine bwS ?_ GE389.out | refine bwS ?_ GE403.out)); rintro e w18 ⟨rfl, hi, hb, hk⟩; refine ⟨_, rfl, ?_⟩; have n0_ := Asd.mk (Kbt.blk hk (g' := gb389) (o := .cells #[.int .i64 0, .slice none 0 0, .slice none 0 0] 58 (0, 0)) (by (repeat apply bkS); refine bkR ?_ NB389_403.out _; (repeat apply bkS); refine bkR ?_ NB389_403.out _; (repeat apply bkS); refine bkR ?_ NB389_403.out _; (repeat apply bkS); exact BK389.out) NB389_0.out (by simp)); have n1_ := Asd.mk (Kd.R_mono (Kd.R_keep (Iz.apart (show Iz w0 _ g s0_0 t395 from by repeat (with_reducible first | exact HI0.out | refine Iz.below ?_ StB.b | apply Iz.set_1 | refine Iz.far ?_ aX _)) (by (repeat apply Kd.RS); exact (Kd.R_mono (Kd.R_far (p := ⟨gb403, 2, none⟩) (Kd.R_far (p := ⟨gb403, 1, none⟩) (Kd.R_far (p := ⟨gb403, 0, none⟩) (Kd.R_types HO394.out BK403.out (by decide)) (fun _ hk => hk.2) (.int .i64 t396)) (fun _ hk => hk.2) (.slice Ao16 t397.length co16)) (fun _ hk => hk.2) (.slice Ao17 t400.length co17)) (fun _ h_ => h_.1))) (by decide)) hk (fun _ h => h.2)) (fun _ h => h.1)); have n2_ := Asd.mk (Kd.R_mono (Kd.R_keep (Iz.apart (show Iz w0 _ g s0_0 t395 from by repeat (with_reducible first | exact HI0.out | refine Iz.below ?_ StB.b | apply Iz.set_1 | refine Iz.far ?_ aX _)) (by (repeat apply Kd.RS); exact (Kd.R_mono (Kd.R_far (p := ⟨gb403, 2, none⟩) (Kd.R_far (p := ⟨gb403, 1, none⟩) (Kd.R_far (p := ⟨gb403, 0, none⟩) (Kd.R_types HO399.out BK403.out (by decide)) (fun _ hk => hk.2) (.int .i64 t396)) (fun _ hk => hk.2) (.slice Ao16 t397.length co16)) (fun _ hk => hk.2) (.slice Ao17 t400.length co17)) (fun _ h_ => h_.1))) (by decide)) hk (fun _ h => h.2)) (fun _ h => h.1)); have n3_ := Asd.mk (Kd.S_mono (Kd.S_keep (Iz.apartS (show Iz w0 _ g s0_0 t395 from by repeat (with_reducible first | exact HI0.out | refine Iz.below ?_ StB.b | apply Iz.set_1 | refine Iz.far ?_ aX _)) (by (repeat apply Kd.SS); exact (Kd.S_mono (Kd.S_far (p := ⟨gb403, 2, none⟩) (Kd.S_far (p := ⟨gb403, 1, none⟩) (Kd.S_far (p := ⟨gb403, 0, none⟩) (Kd.S_types HO402.out BK403.out (by decide)) (fun _ hk => hk.2) (.int .i64 t396)) (fun _ hk => hk.2) (.slice Ao16 t397.length co16)) (fun _ hk => hk.2) (.slice Ao17 t400.length co17)) (fun _ h_ => h_.1))) (by decide)) hk (fun _ h => h.2)) (fun _ h => h.1)); have n4_ := Asd.mk (Kbt.blk hk (g' := gb403) (o := .cells #[.int .i64 t396, .slice Ao16 t397.length co16, .slice Ao17 t400.length co17] 58 (0, 0)) (by (repeat apply bkS); refine bkP (cs := #[.int .i64 t396, .slice Ao16 t397.length co16, .slice none 0 0]) ?_ 2 _ rfl; (repeat apply bkS); refine bkP (cs := #[.int .i64 t396, .slice none 0 0, .slice none 0 0]) ?_ 1 _ rfl; (repeat apply bkS); refine bkP (cs := #[.int .i64 0, .slice none 0 0, .slice none 0 0]) ?_ 0 _ rfl; (repeat apply bkS); exact BK403.out) NB403_0.out (by simp)); have n5_ := Asd.mk (Kbt.trans (by repeat (with_reducible first | exact HK.out | apply Kbt.set_ | apply kpX | refine kpF ?_ GW389.out _ | refine kpF ?_ GW403.out _)) hk (.inl rfl)); have n6_ := Asd.mk (hb); have n7_ := Asd.mk (hi); clear BK389; clear HO394; clear HO399; clear HO402; clear BK403; clear HK; clear HB; clear HI0; have BK389 := n0_; have HO394 := n1_; have HO399 := n2_; have HO402 := n3_; have BK403 := n4_; have HK := n5_; have HB := n6_; have HI0 := n7_; clear n0_ n1_ n2_ n3_ n4_ n5_ n6_ n7_; (try clear hb); (try clear hb2); (try clear hk); (try clear hi)))
 go_loopg [7] k (fun kq v7 w' => ∃ (x7_1 : Int) (x1001_1 : Int) (x404000_1 : Int) (x404001_1 : List Int) (x404002_1 : List (List Int)) (u404001 : Value) (u404002 : Value), v7 = .int .i64 x7_1 ∧ Asd (spec_l20Mind.l0 kq a1 x7_1 s0_0 x1001_1 x404000_1 x404001_1 x404002_1 = some (r1, r2, r3, r4)) ∧ Asd (kq ≤ k) ∧ Asd (Kd.R (Kd.int .i64) 3 w' w.heap.size (fun _ => True) u404001 x404001_1) ∧ Asd (Kd.S (Kd.slice 3 (Kd.int .i64)) 55 w' w.heap.size (fun k_ => some k_ ≠ (u404001 : Value).ownBlock) u404002 x404002_1) ∧ Asd (w'.heap[gb389]? = some (.cells #[.int .i64 0, (.slice none 0 0), (.slice none 0 0)] 58 (0, 0))) ∧ Asd (w'.heap[gb403]? = some (.cells #[.int .i64 x404000_1, u404001, u404002] 58 (0, 0))) ∧ Asd (Iz w0 w' g s0_0 x1001_1) ∧ Asd (Kbt w w' g none) ∧ Asd (Below w0.heap.size w0 w'))
 case atStart => exact ⟨(t404), (t405), (t396), (t397), (t400), (.slice Ao16 t397.length co16), (.slice Ao17 t400.length co17), (by first | rfl | (simp; done) | (simp [*]; done)), H', ⟨Nat.le_refl _⟩, ⟨by (repeat apply Kd.RS); exact Kd.R_mono HO399.out (fun _ hk => trivial)⟩, ⟨by (repeat apply Kd.SS); exact Kd.S_mono HO402.out (fun _ hk => hk.1)⟩, ⟨by (repeat apply bkS); exact BK389.out⟩, ⟨by (repeat apply bkS); exact BK403.out⟩, ⟨by repeat (with_reducible first | exact HI0.out | refine Iz.below ?_ StB.b | apply Iz.set_1 | refine Iz.far ?_ aX _)⟩, ⟨by repeat (with_reducible first | exact HK.out | apply Kbt.set_ | apply kpX | refine kpF ?_ GW389.out _ | refine kpF ?_ GW403.out _)⟩, ⟨by repeat (with_reducible first | exact HB.out | apply bwX | refine bwS ?_ (Iz.ge HI0.out) | refine bwS ?_ GE389.out | refine bwS ?_ GE403.out)⟩⟩
 case round =>
  clear H'
  obtain ⟨x7_1, x1001_1, x404000_1, x404001_1, x404002_1, u404001, u404002, rfl, HA, HK1, HO_404001, HO_404002, BK389, BK403, HI0, HK, HB⟩ := hrel
  cases gk with
  | zero => exact absurd HA.out (by simp [spec_l20Mind.l0])
  | succ k1 =>
   have H := HA.out
   clear HA
   simp only [spec_l20Mind.l0] at H
   by_cases c19 : x7_1 > 0
   ·rw [if_pos c19] at H
    have c19b0 : decide (0 < x7_1) = true := decide_eq_true c19
    clear c19
    replace H := Option.bind_eq_some_iff.mp H
    obtain ⟨⟨t406, t407, t408⟩, A200, H⟩ := H
    try dsimp only at H
    have A20 := Asd.mk A200
    clear A200
    replace H := Option.bind_eq_some_iff.mp H
    obtain ⟨⟨t409, t410, t413, t416⟩, A210, H⟩ := H
    try dsimp only at H
    have A21 := Asd.mk A210
    clear A210
    obtain ⟨Ao23, co23, eo23⟩ := Kd.R_slice HO_404001.out
    subst eo23
    obtain ⟨Ao24, co24, eo24⟩ := Kd.S_slice HO_404002.out
    subst eo24
    try go_wp2
    have n0_ := Asd.mk (Kd.R_drew HO_404001.out)
    have n1_ := Asd.mk (Kd.S_drew HO_404002.out)
    have n2_ := Asd.mk (bkD BK389.out)
    have n3_ := Asd.mk (bkD BK403.out)
    have n4_ := Asd.mk (Iz.drew HI0.out)
    have n5_ := Asd.mk (kpD HK.out)
    have n6_ := Asd.mk (bwD HB.out)
    clear HO_404001
    clear HO_404002
    clear BK389
    clear BK403
    clear HI0
    clear HK
    clear HB
    have HO_404001 := n0_
    have HO_404002 := n1_
    have BK389 := n2_
    have BK403 := n3_
    have HI0 := n4_
    have HK := n5_
    have HB := n6_
    clear n0_ n1_ n2_ n3_ n4_ n5_ n6_
    refine start_ (n := 11) (S := fun w' => w'.cell? ⟨gb403, 0, none⟩ = some (.int .i64 x404000_1) ∧ w'.cell? ⟨gb403, 1, none⟩ = some (.slice Ao23 x404001_1.length co23) ∧ w'.cell? ⟨gb403, 2, none⟩ = some (.slice Ao24 x404002_1.length co24)) (ds := []) #[false, false, false, false, false, false, false, false, false, false, false] (by kernel_rfl) rfl rfl ⟨(bkC BK403.out 0).trans rfl, (bkC BK403.out 1).trans rfl, (bkC BK403.out 2).trans rfl⟩ (fun hHeld => ?_); refine with_tabW spec_l20Mind.tab6 spec_l20Mind.bits6 (fun HT_ HW_ => ?_)
    generalize wr.drew = w25 at HO_404001 HO_404002 BK389 BK403 HI0 HK HB hHeld ⊢
    refine pure_ (i := 1) (N := some 25) (v := ?_) (a' := ?_) #[false, true, false, false, false, false, false, false, false, false, false] rfl rfl (any_of HT_.out (by kernel_rfl)) (fun _ _ _ h => h) (Or.inl ⟨by rfl, ?_⟩) ?_ ?_
    rotate_left
    ·intro w'
     go_simp
     with_reducible rfl
    rotate_left
    ·simp only [Act.put, qA, qB, qC, i64_w, i32_w]
     rfl
    refine take_ (i := 0) (N := some 24) (v := ?_) (a' := ?_) #[true, true, false, false, false, false, false, false, false, false, false] rfl rfl (take_ofW HT_.out HW_.out (by kernel_rfl)) (fun _ _ _ h => h) (Or.inl ⟨by rfl, ?_⟩) hHeld ?_ ?_
    rotate_left
    ·rintro w' ⟨s0, s1, s2⟩
     go_simp
     with_reducible rfl
    rotate_left
    ·simp only [Act.put, qA, qB, qC, i64_w, i32_w]
     rfl
    refine take_ (i := 2) (N := some 26) (v := ?_) (a' := ?_) #[true, true, true, false, false, false, false, false, false, false, false] rfl rfl (take_ofW HT_.out HW_.out (by kernel_rfl)) (fun _ _ _ h => h) (Or.inl ⟨by rfl, ?_⟩) hHeld ?_ ?_
    rotate_left
    ·rintro w' ⟨s0, s1, s2⟩
     go_simp
     with_reducible rfl
    rotate_left
    ·simp only [Act.put, qA, qB, qC, i64_w, i32_w]
     rfl
    refine join_ (σ := Value × Value × Nat) 2 #[true, true, true, true, true, true, true, true, true, false, false] (fun s_ => [(27, .agg #[.int .i64 t406, .string t407]), (28, .tuple #[.agg #[.int .i64 t409, s_.1, s_.2.1], .bool t416]), (8, .pointer (some ⟨s_.2.2, 0, none⟩)), (23, .tuple #[.agg #[.int .i64 t409, s_.1, s_.2.1], .bool t416]), (29, .agg #[.int .i64 t409, s_.1, s_.2.1]), (30, .bool t416)]) (fun s_ w' => (w'.cell? ⟨gb403, 0, none⟩ = some (.int .i64 x404000_1) ∧ w'.cell? ⟨gb403, 1, none⟩ = some (.slice Ao23 x404001_1.length co23) ∧ w'.cell? ⟨gb403, 2, none⟩ = some (.slice Ao24 x404002_1.length co24)) ∧ (Kd.R (Kd.int .i64) 3 w' w.heap.size (fun k_ => some k_ ≠ (.slice Ao23 x404001_1.length co23 : Value).ownBlock) s_.1 t410) ∧ (Kd.S (Kd.slice 3 (Kd.int .i64)) 55 w' w.heap.size (fun k_ => some k_ ≠ (s_.1 : Value).ownBlock ∧ some k_ ≠ (.slice Ao23 x404001_1.length co23 : Value).ownBlock ∧ some k_ ≠ (.slice Ao24 x404002_1.length co24 : Value).ownBlock) s_.2.1 t413) ∧ (Kd.R (Kd.int .i64) 3 w' w.heap.size (fun k_ => some k_ ≠ (s_.1 : Value).ownBlock) (.slice Ao23 x404001_1.length co23) x404001_1) ∧ (Kd.S (Kd.slice 3 (Kd.int .i64)) 55 w' w.heap.size (fun k_ => some k_ ≠ (s_.1 : Value).ownBlock ∧ some k_ ≠ (s_.2.1 : Value).ownBlock ∧ some k_ ≠ (.slice Ao23 x404001_1.length co23 : Value).ownBlock) (.slice Ao24 x404002_1.length co24) x404002_1) ∧ (w'.heap[gb389]? = some (.cells #[.int .i64 0, .slice none 0 0, .slice none 0 0] 58 (0, 0))) ∧ (w'.heap[gb403]? = some (.cells #[.int .i64 x404000_1, .slice Ao23 x404001_1.length co23, .slice Ao24 x404002_1.length co24] 58 (0, 0))) ∧ (w'.heap[s_.2.2]? = some (.cells #[.int .i64 0, .slice none 0 0, .slice none 0 0] 58 (0, 0))) ∧ (w.heap.size ≤ s_.2.2) ∧ (w0.heap.size ≤ s_.2.2) ∧ (g ≠ s_.2.2) ∧ (s_.2.2 ≠ g) ∧ (gb389 ≠ s_.2.2) ∧ (s_.2.2 ≠ gb389) ∧ (gb403 ≠ s_.2.2) ∧ (s_.2.2 ≠ gb403) ∧ (Iz w0 w' g s0_0 t408) ∧ (Kbt w w' g none) ∧ (Below w0.heap.size w0 w')) ?_ ?_
    rotate_left
    ·intro hCont
     refine two_ (i := 3) (j := 8) (Ni := some 27) (Nj := some 8) #[true, true, true, true, false, false, false, false, false, false, false] #[true, true, true, false, false, false, false, false, true, false, false] rfl rfl rfl rfl (two_of HT_.out (by kernel_rfl)) (by decide) (by decide) (fun K hK => ?_) (fun K hK => ?_)
     ·skip
      refine goes_ Try.func87 (by kernel_rfl) rfl #[.pointer (some ⟨g, 0, none⟩), .agg #[.int .i64 x404000_1, .slice Ao23 x404001_1.length co23, .slice Ao24 x404002_1.length co24]] (by rfl) rfl rfl (by (try simp only [List.map_toArray, List.map_cons, List.map_nil]); first | done | rfl | (simp only [List.length_drop, List.length_take]; rfl)) ?_
      with_reducible refine (spec_l20Deed.calls k1 g s0_0 x1001_1 x404000_1 _ _ x404001_1 _ _ x404002_1 t406 t407 t408 w0 _ ?side1 ?side2 ?side3 ?side4 ?side5 ?side6 ?side7 A20.out).mono ?_
      (case side1 => repeat (with_reducible first | exact HI0.out | refine Iz.below ?_ StB.b | apply Iz.set_1 | refine Iz.far ?_ aX _))
      (case side2 => repeat (with_reducible first | exact HB.out | apply bwX | refine bwS ?_ (Iz.ge HI0.out) | refine bwS ?_ GE389.out | refine bwS ?_ GE403.out))
      (case side3 => repeat (first | exact (Kd.R_reads' HO_404001.out).2.2 | (with_reducible refine Kd.C_alloc ?_ _) | (with_reducible refine Kd.C_drewN ?_ _) | (with_reducible refine Kd.C_drew ?_)))
      (case side4 => exact (Kd.R_reads' HO_404001.out).2.1)
      (case side5 => exact far_slice (Iz.own_ne HI0.out HO_404001.out (by decide)))
      (case side6 => exact Kd.C_foot_own ((Kd.S_R (Iz.apartS (show Iz w0 _ g s0_0 x1001_1 from by repeat (with_reducible first | exact HI0.out | refine Iz.below ?_ StB.b | apply Iz.set_1 | refine Iz.far ?_ aX _)) (by (repeat apply Kd.SS); exact HO_404002.out) (by decide)))) (fun _ h_ => h_.2))
      (case side7 => exact (Kd.S_reads' HO_404002.out).2.1)
      rintro e w26 ⟨rfl, hi, hb, hk⟩
      refine ⟨_, rfl, ?_⟩
      have n0_ := Asd.mk (Kd.R_mono (Kd.R_keep (Iz.apart (show Iz w0 _ g s0_0 x1001_1 from by repeat (with_reducible first | exact HI0.out | refine Iz.below ?_ StB.b | apply Iz.set_1 | refine Iz.far ?_ aX _)) (by (repeat apply Kd.RS); exact HO_404001.out) (by decide)) hk (fun _ h => h.2)) (fun _ h => h.1))
      have n1_ := Asd.mk (Kd.S_mono (Kd.S_keep (Iz.apartS (show Iz w0 _ g s0_0 x1001_1 from by repeat (with_reducible first | exact HI0.out | refine Iz.below ?_ StB.b | apply Iz.set_1 | refine Iz.far ?_ aX _)) (by (repeat apply Kd.SS); exact HO_404002.out) (by decide)) hk (fun _ h => h.2)) (fun _ h => h.1))
      have n2_ := Asd.mk (Kbt.blk hk (g' := gb389) (o := .cells #[.int .i64 0, .slice none 0 0, .slice none 0 0] 58 (0, 0)) (by (repeat apply bkS); exact BK389.out) NB389_0.out (by simp))
      have n3_ := Asd.mk (Kbt.blk hk (g' := gb403) (o := .cells #[.int .i64 x404000_1, .slice Ao23 x404001_1.length co23, .slice Ao24 x404002_1.length co24] 58 (0, 0)) (by (repeat apply bkS); exact BK403.out) NB403_0.out (by simp))
      have n4_ := Asd.mk (Kbt.trans (by repeat (with_reducible first | exact HK.out | apply Kbt.set_ | apply kpX | refine kpF ?_ GW389.out _ | refine kpF ?_ GW403.out _)) hk (.inl rfl))
      have n5_ := Asd.mk (hb)
      have n6_ := Asd.mk (hi)
      clear HO_404001
      clear HO_404002
      clear BK389
      clear BK403
      clear HK
      clear HB
      clear HI0
      have HO_404001 := n0_
      have HO_404002 := n1_
      have BK389 := n2_
      have BK403 := n3_
      have HK := n4_
      have HB := n5_
      have HI0 := n6_
      clear n0_ n1_ n2_ n3_ n4_ n5_ n6_
      (try clear hb)
      (try clear hb2)
      (try clear hk)
      (try clear hi)
      refine hK.out _ _ ⟨(bkC BK403.out 0).trans rfl, (bkC BK403.out 1).trans rfl, (bkC BK403.out 2).trans rfl⟩ (fun hHeld => ?_)
      clear hK K
      refine norm_ (a' := ?_) ?_ ?_
      rotate_left
      ·show Act.put _ (some 27) _ = _
       simp only [Act.put, qA, qB, qC, i64_w, i32_w]
       rfl
      refine two_ (i := 4) (j := 8) (Ni := some 28) (Nj := some 8) #[true, true, true, true, true, false, false, false, false, false, false] #[true, true, true, true, false, false, false, false, true, false, false] rfl rfl rfl rfl (two_of HT_.out (by kernel_rfl)) (by decide) (by decide) (fun K hK => ?_) (fun K hK => ?_)
      ·skip
       refine goes_ Try.func63 (by kernel_rfl) rfl #[.agg #[.int .i64 x404000_1, .slice Ao23 x404001_1.length co23, .slice Ao24 x404002_1.length co24], .agg #[.int .i64 t406, .string t407]] (by rfl) rfl rfl (by (try simp only [List.map_toArray, List.map_cons, List.map_nil]); first | done | rfl | (simp only [List.length_drop, List.length_take]; rfl)) ?_
       with_reducible refine (spec_MindDo.calls k1 x404000_1 _ _ x404001_1 _ _ x404002_1 t406 t407 t409 t410 t413 t416 _ ?side1 ?side2 ?side3 ?side4 A21.out).mono ?_
       (case side1 => repeat (first | exact (Kd.R_reads' HO_404001.out).2.2 | (with_reducible refine Kd.C_alloc ?_ _) | (with_reducible refine Kd.C_drewN ?_ _) | (with_reducible refine Kd.C_drew ?_)))
       (case side2 => exact (Kd.R_reads' HO_404001.out).2.1)
       (case side3 => repeat (first | exact (Kd.S_reads' HO_404002.out).2.2 | (with_reducible refine Kd.C_alloc ?_ _) | (with_reducible refine Kd.C_drewN ?_ _) | (with_reducible refine Kd.C_drew ?_)))
       (case side4 => exact (Kd.S_reads' HO_404002.out).2.1)
       rintro e w27 ⟨v411, v414, rfl, ho0, ho1, hb⟩
       refine ⟨_, rfl, ?_⟩
       have n0_ := Asd.mk (Kd.R_elder' (by (repeat apply Kd.RS); exact HO_404001.out) (Kd.R_base ho0) hb)
       have n1_ := Asd.mk (Kd.S_mono (Kd.S_told (Kd.S_told (Kd.S_old (by (repeat apply Kd.SS); exact HO_404002.out) hb) (Kd.R_base ho0)) (Kd.S_base ho1)) (fun _ h_ => h_.1))
       have n2_ := Asd.mk (Kd.R_lower (Kd.R_new' ho0 (Kd.R_lt (by (repeat apply Kd.RS); exact HO_404001.out))) (kpZ (w := w) (g := g) (row := none) (by repeat (with_reducible first | exact HK.out | apply Kbt.set_ | apply kpX | refine kpF ?_ GW389.out _ | refine kpF ?_ GW403.out _))))
       have n3_ := Asd.mk (Kd.S_lower (Kd.S_new' (Kd.S_new' ho1 (Kd.R_lt (by (repeat apply Kd.RS); exact HO_404001.out))) (Kd.S_lt (by (repeat apply Kd.SS); exact HO_404002.out))) (kpZ (w := w) (g := g) (row := none) (by repeat (with_reducible first | exact HK.out | apply Kbt.set_ | apply kpX | refine kpF ?_ GW389.out _ | refine kpF ?_ GW403.out _))))
       have n4_ := Asd.mk (bkB (g := gb389) (o := .cells #[.int .i64 0, .slice none 0 0, .slice none 0 0] 58 (0, 0)) (by (repeat apply bkS); exact BK389.out) hb)
       have n5_ := Asd.mk (bkB (g := gb403) (o := .cells #[.int .i64 x404000_1, .slice Ao23 x404001_1.length co23, .slice Ao24 x404002_1.length co24] 58 (0, 0)) (by (repeat apply bkS); exact BK403.out) hb)
       have n6_ := Asd.mk (Iz.below (by repeat (with_reducible first | exact HI0.out | refine Iz.below ?_ StB.b | apply Iz.set_1 | refine Iz.far ?_ aX _)) hb)
       have n7_ := Asd.mk (Kbt.trans (by repeat (with_reducible first | exact HK.out | apply Kbt.set_ | apply kpX | refine kpF ?_ GW389.out _ | refine kpF ?_ GW403.out _)) (Kbt.of_below hb g none) (.inl rfl))
       have n8_ := Asd.mk (bwP (by repeat (with_reducible first | exact HB.out | apply bwX | refine bwS ?_ (Iz.ge HI0.out) | refine bwS ?_ GE389.out | refine bwS ?_ GE403.out)) hb)
       clear HO_404001
       clear HO_404002
       clear BK389
       clear BK403
       clear HI0
       clear HK
       clear HB
       have HO_404001 := n0_
       have HO_404002 := n1_
       have HO412 := n2_
       have HO415 := n3_
       have BK389 := n4_
       have BK403 := n5_
       have HI0 := n6_
       have HK := n7_
       have HB := n8_
       clear n0_ n1_ n2_ n3_ n4_ n5_ n6_ n7_ n8_
       (try clear hb)
       (try clear hb2)
       (try clear hk)
       (try clear hi)
       (try clear ho0)
       (try clear ho1)
       refine hK.out _ _ ⟨(bkC BK403.out 0).trans rfl, (bkC BK403.out 1).trans rfl, (bkC BK403.out 2).trans rfl⟩ (fun hHeld => ?_)
       clear hK K
       refine norm_ (a' := ?_) ?_ ?_
       rotate_left
       ·show Act.put _ (some 28) _ = _
        simp only [Act.put, qA, qB, qC, i64_w, i32_w]
        rfl
       refine pure_ (i := 5) (N := some 23) (v := ?_) (a' := ?_) #[true, true, true, true, true, true, false, false, false, false, false] rfl rfl (any_of HT_.out (by kernel_rfl)) (fun _ _ _ h => h) (Or.inl ⟨by rfl, ?_⟩) ?_ ?_
       rotate_left
       ·intro w'
        go_simp
        with_reducible rfl
       rotate_left
       ·simp only [Act.put, qA, qB, qC, i64_w, i32_w]
        rfl
       refine pure_ (i := 6) (N := some 29) (v := ?_) (a' := ?_) #[true, true, true, true, true, true, true, false, false, false, false] rfl rfl (any_of HT_.out (by kernel_rfl)) (fun _ _ _ h => h) (Or.inl ⟨by rfl, ?_⟩) ?_ ?_
       rotate_left
       ·intro w'
        go_simp
        with_reducible rfl
       rotate_left
       ·simp only [Act.put, qA, qB, qC, i64_w, i32_w]
        rfl
       refine pure_ (i := 7) (N := some 30) (v := ?_) (a' := ?_) #[true, true, true, true, true, true, true, true, false, false, false] rfl rfl (any_of HT_.out (by kernel_rfl)) (fun _ _ _ h => h) (Or.inl ⟨by rfl, ?_⟩) ?_ ?_
       rotate_left
       ·intro w'
        go_simp
        with_reducible rfl
       rotate_left
       ·simp only [Act.put, qA, qB, qC, i64_w, i32_w]
        rfl
       refine one_ (i := 8) (N := some 8) #[true, true, true, true, true, true, true, true, true, false, false] rfl rfl (one_of HT_.out (by kernel_rfl)) (by decide) (fun K hK => ?_)
       refine box_step ?hg (N := 8) ?hd (cs := #[.int .i64 0, .slice none 0 0, .slice none 0 0]) (t := 58) ?hr ?_; (case hd => rfl); (case hg => rfl); (case hr => first | (go_simp; done) | (go_simp; rfl))
       intro gb417 hg w28 hbox hb
       have n0_ := Asd.mk (Kd.R_below (by (repeat apply Kd.RS); exact HO_404001.out) hb)
       have n1_ := Asd.mk (Kd.S_below (by (repeat apply Kd.SS); exact HO_404002.out) hb)
       have n2_ := Asd.mk (Kd.R_below (by (repeat apply Kd.RS); exact HO412.out) hb)
       have n3_ := Asd.mk (Kd.S_below (by (repeat apply Kd.SS); exact HO415.out) hb)
       have n4_ := Asd.mk (bkB (g := gb389) (o := .cells #[.int .i64 0, .slice none 0 0, .slice none 0 0] 58 (0, 0)) (by (repeat apply bkS); exact BK389.out) hb)
       have n5_ := Asd.mk (bkB (g := gb403) (o := .cells #[.int .i64 x404000_1, .slice Ao23 x404001_1.length co23, .slice Ao24 x404002_1.length co24] 58 (0, 0)) (by (repeat apply bkS); exact BK403.out) hb)
       have n6_ := Asd.mk (Iz.below (by repeat (with_reducible first | exact HI0.out | refine Iz.below ?_ StB.b | apply Iz.set_1 | refine Iz.far ?_ aX _)) hb)
       have n7_ := Asd.mk (Kbt.trans (by repeat (with_reducible first | exact HK.out | apply Kbt.set_ | apply kpX | refine kpF ?_ GW389.out _ | refine kpF ?_ GW403.out _)) (Kbt.of_below hb g none) (.inl rfl))
       have n8_ := Asd.mk (bwP (by repeat (with_reducible first | exact HB.out | apply bwX | refine bwS ?_ (Iz.ge HI0.out) | refine bwS ?_ GE389.out | refine bwS ?_ GE403.out)) hb)
       have n9_ := Asd.mk (hbox)
       have n10_ := Asd.mk ((by rw [hg]; exact (kpZ (w := w) (g := g) (row := none) (by repeat (with_reducible first | exact HK.out | apply Kbt.set_ | apply kpX | refine kpF ?_ GW389.out _ | refine kpF ?_ GW403.out _))) : w.heap.size ≤ gb417))
       have n11_ := Asd.mk ((Nat.le_trans HW0.out (by rw [hg]; exact (kpZ (w := w) (g := g) (row := none) (by repeat (with_reducible first | exact HK.out | apply Kbt.set_ | apply kpX | refine kpF ?_ GW389.out _ | refine kpF ?_ GW403.out _))) : w.heap.size ≤ gb417) : w0.heap.size ≤ gb417))
       have n12_ := Asd.mk ((by rw [hg]; exact Nat.ne_of_lt (bkL (g := gb389) (o := .cells #[.int .i64 0, .slice none 0 0, .slice none 0 0] 58 (0, 0)) (by (repeat apply bkS); exact BK389.out)) : gb389 ≠ gb417))
       have n13_ := Asd.mk ((by rw [hg]; exact Nat.ne_of_gt (bkL (g := gb389) (o := .cells #[.int .i64 0, .slice none 0 0, .slice none 0 0] 58 (0, 0)) (by (repeat apply bkS); exact BK389.out)) : gb417 ≠ gb389))
       have n14_ := Asd.mk ((by rw [hg]; exact Nat.ne_of_lt (bkL (g := gb403) (o := .cells #[.int .i64 x404000_1, .slice Ao23 x404001_1.length co23, .slice Ao24 x404002_1.length co24] 58 (0, 0)) (by (repeat apply bkS); exact BK403.out)) : gb403 ≠ gb417))
       have n15_ := Asd.mk ((by rw [hg]; exact Nat.ne_of_gt (bkL (g := gb403) (o := .cells #[.int .i64 x404000_1, .slice Ao23 x404001_1.length co23, .slice Ao24 x404002_1.length co24] 58 (0, 0)) (by (repeat apply bkS); exact BK403.out)) : gb417 ≠ gb403))
       have n16_ := Asd.mk ((by rw [hg]; exact Nat.ne_of_lt (Iz.lt (show Iz w0 _ g s0_0 t408 from by repeat (with_reducible first | exact HI0.out | refine Iz.below ?_ StB.b | apply Iz.set_1 | refine Iz.far ?_ aX _))) : g ≠ gb417))
       have n17_ := Asd.mk ((by rw [hg]; exact Nat.ne_of_gt (Iz.lt (show Iz w0 _ g s0_0 t408 from by repeat (with_reducible first | exact HI0.out | refine Iz.below ?_ StB.b | apply Iz.set_1 | refine Iz.far ?_ aX _))) : gb417 ≠ g))
       clear HO_404001
       clear HO_404002
       clear HO412
       clear HO415
       clear BK389
       clear BK403
       clear HI0
       clear HK
       clear HB
       have HO_404001 := n0_
       have HO_404002 := n1_
       have HO412 := n2_
       have HO415 := n3_
       have BK389 := n4_
       have BK403 := n5_
       have HI0 := n6_
       have HK := n7_
       have HB := n8_
       have BK417 := n9_
       have GW417 := n10_
       have GE417 := n11_
       have NB389_417 := n12_
       have NB417_389 := n13_
       have NB403_417 := n14_
       have NB417_403 := n15_
       have NB0_417 := n16_
       have NB417_0 := n17_
       clear n0_ n1_ n2_ n3_ n4_ n5_ n6_ n7_ n8_ n9_ n10_ n11_ n12_ n13_ n14_ n15_ n16_ n17_
       clear hb hbox hg
       refine hK.out _ _ ⟨(bkC BK403.out 0).trans rfl, (bkC BK403.out 1).trans rfl, (bkC BK403.out 2).trans rfl⟩ (fun hHeld => ?_)
       clear hK K
       refine norm_ (a' := ?_) ?_ ?_
       rotate_left
       ·show Act.put _ (some 8) _ = _
        simp only [Act.put, qA, qB, qC, i64_w, i32_w]
        rfl
       exact norm_ (by simp only [putAll, Act.put, qA, qB, qC]) (hCont (v411, v414, gb417) _ ⟨hHeld, (by (repeat apply Kd.RS); exact Kd.R_mono HO412.out (fun _ hk => hk.2)), (by (repeat apply Kd.SS); exact Kd.S_mono HO415.out (fun _ hk => ⟨hk.1.1, ⟨hk.1.2, hk.2⟩⟩)), (by (repeat apply Kd.RS); exact Kd.R_mono HO_404001.out (fun _ hk => hk.2)), (by (repeat apply Kd.SS); exact Kd.S_mono HO_404002.out (fun _ hk => ⟨hk.1.2, ⟨hk.2, hk.1.1⟩⟩)), (by (repeat apply bkS); exact BK389.out), (by (repeat apply bkS); exact BK403.out), (by (repeat apply bkS); exact BK417.out), GW417.out, GE417.out, NB0_417.out, NB417_0.out, NB389_417.out, NB417_389.out, NB403_417.out, NB417_403.out, (by repeat (with_reducible first | exact HI0.out | refine Iz.below ?_ StB.b | apply Iz.set_1 | refine Iz.far ?_ aX _)), (by repeat (with_reducible first | exact HK.out | apply Kbt.set_ | apply kpX | refine kpF ?_ GW389.out _ | refine kpF ?_ GW403.out _ | refine kpF ?_ GW417.out _)), (by repeat (with_reducible first | exact HB.out | apply bwX | refine bwS ?_ (Iz.ge HI0.out) | refine bwS ?_ GE389.out | refine bwS ?_ GE403.out | refine bwS ?_ GE417.out))⟩)
      ·skip
       refine box_step ?hg (N := 8) ?hd (cs := #[.int .i64 0, .slice none 0 0, .slice none 0 0]) (t := 58) ?hr ?_; (case hd => rfl); (case hg => rfl); (case hr => first | (go_simp; done) | (go_simp; rfl))
       intro gb417 hg w27 hbox hb
       have n0_ := Asd.mk (Kd.R_below (by (repeat apply Kd.RS); exact HO_404001.out) hb)
       have n1_ := Asd.mk (Kd.S_below (by (repeat apply Kd.SS); exact HO_404002.out) hb)
       have n2_ := Asd.mk (bkB (g := gb389) (o := .cells #[.int .i64 0, .slice none 0 0, .slice none 0 0] 58 (0, 0)) (by (repeat apply bkS); exact BK389.out) hb)
       have n3_ := Asd.mk (bkB (g := gb403) (o := .cells #[.int .i64 x404000_1, .slice Ao23 x404001_1.length co23, .slice Ao24 x404002_1.length co24] 58 (0, 0)) (by (repeat apply bkS); exact BK403.out) hb)
       have n4_ := Asd.mk (Iz.below (by repeat (with_reducible first | exact HI0.out | refine Iz.below ?_ StB.b | apply Iz.set_1 | refine Iz.far ?_ aX _)) hb)
       have n5_ := Asd.mk (Kbt.trans (by repeat (with_reducible first | exact HK.out | apply Kbt.set_ | apply kpX | refine kpF ?_ GW389.out _ | refine kpF ?_ GW403.out _)) (Kbt.of_below hb g none) (.inl rfl))
       have n6_ := Asd.mk (bwP (by repeat (with_reducible first | exact HB.out | apply bwX | refine bwS ?_ (Iz.ge HI0.out) | refine bwS ?_ GE389.out | refine bwS ?_ GE403.out)) hb)
       have n7_ := Asd.mk (hbox)
       have n8_ := Asd.mk ((by rw [hg]; exact (kpZ (w := w) (g := g) (row := none) (by repeat (with_reducible first | exact HK.out | apply Kbt.set_ | apply kpX | refine kpF ?_ GW389.out _ | refine kpF ?_ GW403.out _))) : w.heap.size ≤ gb417))
       have n9_ := Asd.mk ((Nat.le_trans HW0.out (by rw [hg]; exact (kpZ (w := w) (g := g) (row := none) (by repeat (with_reducible first | exact HK.out | apply Kbt.set_ | apply kpX | refine kpF ?_ GW389.out _ | refine kpF ?_ GW403.out _))) : w.heap.size ≤ gb417) : w0.heap.size ≤ gb417))
       have n10_ := Asd.mk ((by rw [hg]; exact Nat.ne_of_lt (bkL (g := gb389) (o := .cells #[.int .i64 0, .slice none 0 0, .slice none 0 0] 58 (0, 0)) (by (repeat apply bkS); exact BK389.out)) : gb389 ≠ gb417))
       have n11_ := Asd.mk ((by rw [hg]; exact Nat.ne_of_gt (bkL (g := gb389) (o := .cells #[.int .i64 0, .slice none 0 0, .slice none 0 0] 58 (0, 0)) (by (repeat apply bkS); exact BK389.out)) : gb417 ≠ gb389))
       have n12_ := Asd.mk ((by rw [hg]; exact Nat.ne_of_lt (bkL (g := gb403) (o := .cells #[.int .i64 x404000_1, .slice Ao23 x404001_1.length co23, .slice Ao24 x404002_1.length co24] 58 (0, 0)) (by (repeat apply bkS); exact BK403.out)) : gb403 ≠ gb417))
       have n13_ := Asd.mk ((by rw [hg]; exact Nat.ne_of_gt (bkL (g := gb403) (o := .cells #[.int .i64 x404000_1, .slice Ao23 x404001_1.length co23, .slice Ao24 x404002_1.length co24] 58 (0, 0)) (by (repeat apply bkS); exact BK403.out)) : gb417 ≠ gb403))
       have n14_ := Asd.mk ((by rw [hg]; exact Nat.ne_of_lt (Iz.lt (show Iz w0 _ g s0_0 t408 from by repeat (with_reducible first | exact HI0.out | refine Iz.below ?_ StB.b | apply Iz.set_1 | refine Iz.far ?_ aX _))) : g ≠ gb417))
       have n15_ := Asd.mk ((by rw [hg]; exact Nat.ne_of_gt (Iz.lt (show Iz w0 _ g s0_0 t408 from by repeat (with_reducible first | exact HI0.out | refine Iz.below ?_ StB.b | apply Iz.set_1 | refine Iz.far ?_ aX _))) : gb417 ≠ g))
       clear HO_404001
       clear HO_404002
       clear BK389
       clear BK403
       clear HI0
       clear HK
       clear HB
       have HO_404001 := n0_
       have HO_404002 := n1_
       have BK389 := n2_
       have BK403 := n3_
       have HI0 := n4_
       have HK := n5_
       have HB := n6_
       have BK417 := n7_
       have GW417 := n8_
       have GE417 := n9_
       have NB389_417 := n10_
       have NB417_389 := n11_
       have NB403_417 := n12_
       have NB417_403 := n13_
       have NB0_417 := n14_
       have NB417_0 := n15_
       clear n0_ n1_ n2_ n3_ n4_ n5_ n6_ n7_ n8_ n9_ n10_ n11_ n12_ n13_ n14_ n15_
       clear hb hbox hg
       refine hK.out _ _ ⟨(bkC BK403.out 0).trans rfl, (bkC BK403.out 1).trans rfl, (bkC BK403.out 2).trans rfl⟩ (fun hHeld => ?_)
       clear hK K
       refine norm_ (a' := ?_) ?_ ?_
       rotate_left
       ·show Act.put _ (some 8) _ = _
        simp only [Act.put, qA, qB, qC, i64_w, i32_w]
        rfl
       refine one_ (i := 4) (N := some 28) #[true, true, true, true, true, false, false, false, true, false, false] rfl rfl (one_of HT_.out (by kernel_rfl)) (by decide) (fun K hK => ?_)
       refine goes_ Try.func63 (by kernel_rfl) rfl #[.agg #[.int .i64 x404000_1, .slice Ao23 x404001_1.length co23, .slice Ao24 x404002_1.length co24], .agg #[.int .i64 t406, .string t407]] (by rfl) rfl rfl (by (try simp only [List.map_toArray, List.map_cons, List.map_nil]); first | done | rfl | (simp only [List.length_drop, List.length_take]; rfl)) ?_
       with_reducible refine (spec_MindDo.calls k1 x404000_1 _ _ x404001_1 _ _ x404002_1 t406 t407 t409 t410 t413 t416 _ ?side1 ?side2 ?side3 ?side4 A21.out).mono ?_
       (case side1 => repeat (first | exact (Kd.R_reads' HO_404001.out).2.2 | (with_reducible refine Kd.C_alloc ?_ _) | (with_reducible refine Kd.C_drewN ?_ _) | (with_reducible refine Kd.C_drew ?_)))
       (case side2 => exact (Kd.R_reads' HO_404001.out).2.1)
       (case side3 => repeat (first | exact (Kd.S_reads' HO_404002.out).2.2 | (with_reducible refine Kd.C_alloc ?_ _) | (with_reducible refine Kd.C_drewN ?_ _) | (with_reducible refine Kd.C_drew ?_)))
       (case side4 => exact (Kd.S_reads' HO_404002.out).2.1)
       rintro e w28 ⟨v411, v414, rfl, ho0, ho1, hb⟩
       refine ⟨_, rfl, ?_⟩
       have n0_ := Asd.mk (Kd.R_elder' (by (repeat apply Kd.RS); exact HO_404001.out) (Kd.R_base ho0) hb)
       have n1_ := Asd.mk (Kd.S_mono (Kd.S_told (Kd.S_told (Kd.S_old (by (repeat apply Kd.SS); exact HO_404002.out) hb) (Kd.R_base ho0)) (Kd.S_base ho1)) (fun _ h_ => h_.1))
       have n2_ := Asd.mk (Kd.R_lower (Kd.R_new' ho0 (Kd.R_lt (by (repeat apply Kd.RS); exact HO_404001.out))) (kpZ (w := w) (g := g) (row := none) (by repeat (with_reducible first | exact HK.out | apply Kbt.set_ | apply kpX | refine kpF ?_ GW389.out _ | refine kpF ?_ GW403.out _ | refine kpF ?_ GW417.out _))))
       have n3_ := Asd.mk (Kd.S_lower (Kd.S_new' (Kd.S_new' ho1 (Kd.R_lt (by (repeat apply Kd.RS); exact HO_404001.out))) (Kd.S_lt (by (repeat apply Kd.SS); exact HO_404002.out))) (kpZ (w := w) (g := g) (row := none) (by repeat (with_reducible first | exact HK.out | apply Kbt.set_ | apply kpX | refine kpF ?_ GW389.out _ | refine kpF ?_ GW403.out _ | refine kpF ?_ GW417.out _))))
       have n4_ := Asd.mk (bkB (g := gb389) (o := .cells #[.int .i64 0, .slice none 0 0, .slice none 0 0] 58 (0, 0)) (by (repeat apply bkS); exact BK389.out) hb)
       have n5_ := Asd.mk (bkB (g := gb403) (o := .cells #[.int .i64 x404000_1, .slice Ao23 x404001_1.length co23, .slice Ao24 x404002_1.length co24] 58 (0, 0)) (by (repeat apply bkS); exact BK403.out) hb)
       have n6_ := Asd.mk (Iz.below (by repeat (with_reducible first | exact HI0.out | refine Iz.below ?_ StB.b | apply Iz.set_1 | refine Iz.far ?_ aX _)) hb)
       have n7_ := Asd.mk (bkB (g := gb417) (o := .cells #[.int .i64 0, .slice none 0 0, .slice none 0 0] 58 (0, 0)) (by (repeat apply bkS); exact BK417.out) hb)
       have n8_ := Asd.mk (Kbt.trans (by repeat (with_reducible first | exact HK.out | apply Kbt.set_ | apply kpX | refine kpF ?_ GW389.out _ | refine kpF ?_ GW403.out _ | refine kpF ?_ GW417.out _)) (Kbt.of_below hb g none) (.inl rfl))
       have n9_ := Asd.mk (bwP (by repeat (with_reducible first | exact HB.out | apply bwX | refine bwS ?_ (Iz.ge HI0.out) | refine bwS ?_ GE389.out | refine bwS ?_ GE403.out | refine bwS ?_ GE417.out)) hb)
       clear HO_404001
       clear HO_404002
       clear BK389
       clear BK403
       clear HI0
       clear BK417
       clear HK
       clear HB
       have HO_404001 := n0_
       have HO_404002 := n1_
       have HO412 := n2_
       have HO415 := n3_
       have BK389 := n4_
       have BK403 := n5_
       have HI0 := n6_
       have BK417 := n7_
       have HK := n8_
       have HB := n9_
       clear n0_ n1_ n2_ n3_ n4_ n5_ n6_ n7_ n8_ n9_
       (try clear hb)
       (try clear hb2)
       (try clear hk)
       (try clear hi)
       (try clear ho0)
       (try clear ho1)
       refine hK.out _ _ ⟨(bkC BK403.out 0).trans rfl, (bkC BK403.out 1).trans rfl, (bkC BK403.out 2).trans rfl⟩ (fun hHeld => ?_)
       clear hK K
       refine norm_ (a' := ?_) ?_ ?_
       rotate_left
       ·show Act.put _ (some 28) _ = _
        simp only [Act.put, qA, qB, qC, i64_w, i32_w]
        rfl
       refine pure_ (i := 5) (N := some 23) (v := ?_) (a' := ?_) #[true, true, true, true, true, true, false, false, true, false, false] rfl rfl (any_of HT_.out (by kernel_rfl)) (fun _ _ _ h => h) (Or.inl ⟨by rfl, ?_⟩) ?_ ?_
       rotate_left
       ·intro w'
        go_simp
        with_reducible rfl
       rotate_left
       ·simp only [Act.put, qA, qB, qC, i64_w, i32_w]
        rfl
       refine pure_ (i := 6) (N := some 29) (v := ?_) (a' := ?_) #[true, true, true, true, true, true, true, false, true, false, false] rfl rfl (any_of HT_.out (by kernel_rfl)) (fun _ _ _ h => h) (Or.inl ⟨by rfl, ?_⟩) ?_ ?_
       rotate_left
       ·intro w'
        go_simp
        with_reducible rfl
       rotate_left
       ·simp only [Act.put, qA, qB, qC, i64_w, i32_w]
        rfl
       refine pure_ (i := 7) (N := some 30) (v := ?_) (a' := ?_) #[true, true, true, true, true, true, true, true, true, false, false] rfl rfl (any_of HT_.out (by kernel_rfl)) (fun _ _ _ h => h) (Or.inl ⟨by rfl, ?_⟩) ?_ ?_
       rotate_left
       ·intro w'
        go_simp
        with_reducible rfl
       rotate_left
       ·simp only [Act.put, qA, qB, qC, i64_w, i32_w]
        rfl
       exact norm_ (by simp only [putAll, Act.put, qA, qB, qC]) (hCont (v411, v414, gb417) _ ⟨hHeld, (by (repeat apply Kd.RS); exact Kd.R_mono HO412.out (fun _ hk => hk.2)), (by (repeat apply Kd.SS); exact Kd.S_mono HO415.out (fun _ hk => ⟨hk.1.1, ⟨hk.1.2, hk.2⟩⟩)), (by (repeat apply Kd.RS); exact Kd.R_mono HO_404001.out (fun _ hk => hk.2)), (by (repeat apply Kd.SS); exact Kd.S_mono HO_404002.out (fun _ hk => ⟨hk.1.2, ⟨hk.2, hk.1.1⟩⟩)), (by (repeat apply bkS); exact BK389.out), (by (repeat apply bkS); exact BK403.out), (by (repeat apply bkS); exact BK417.out), GW417.out, GE417.out, NB0_417.out, NB417_0.out, NB389_417.out, NB417_389.out, NB403_417.out, NB417_403.out, (by repeat (with_reducible first | exact HI0.out | refine Iz.below ?_ StB.b | apply Iz.set_1 | refine Iz.far ?_ aX _)), (by repeat (with_reducible first | exact HK.out | apply Kbt.set_ | apply kpX | refine kpF ?_ GW389.out _ | refine kpF ?_ GW403.out _ | refine kpF ?_ GW417.out _)), (by repeat (with_reducible first | exact HB.out | apply bwX | refine bwS ?_ (Iz.ge HI0.out) | refine bwS ?_ GE389.out | refine bwS ?_ GE403.out | refine bwS ?_ GE417.out))⟩)
     ·skip
      refine box_step ?hg (N := 8) ?hd (cs := #[.int .i64 0, .slice none 0 0, .slice none 0 0]) (t := 58) ?hr ?_; (case hd => rfl); (case hg => rfl); (case hr => first | (go_simp; done) | (go_simp; rfl))
      intro gb417 hg w26 hbox hb
      have n0_ := Asd.mk (Kd.R_below (by (repeat apply Kd.RS); exact HO_404001.out) hb)
      have n1_ := Asd.mk (Kd.S_below (by (repeat apply Kd.SS); exact HO_404002.out) hb)
      have n2_ := Asd.mk (bkB (g := gb389) (o := .cells #[.int .i64 0, .slice none 0 0, .slice none 0 0] 58 (0, 0)) (by (repeat apply bkS); exact BK389.out) hb)
      have n3_ := Asd.mk (bkB (g := gb403) (o := .cells #[.int .i64 x404000_1, .slice Ao23 x404001_1.length co23, .slice Ao24 x404002_1.length co24] 58 (0, 0)) (by (repeat apply bkS); exact BK403.out) hb)
      have n4_ := Asd.mk (Iz.below (by repeat (with_reducible first | exact HI0.out | refine Iz.below ?_ StB.b | apply Iz.set_1 | refine Iz.far ?_ aX _)) hb)
      have n5_ := Asd.mk (Kbt.trans (by repeat (with_reducible first | exact HK.out | apply Kbt.set_ | apply kpX | refine kpF ?_ GW389.out _ | refine kpF ?_ GW403.out _)) (Kbt.of_below hb g none) (.inl rfl))
      have n6_ := Asd.mk (bwP (by repeat (with_reducible first | exact HB.out | apply bwX | refine bwS ?_ (Iz.ge HI0.out) | refine bwS ?_ GE389.out | refine bwS ?_ GE403.out)) hb)
      have n7_ := Asd.mk (hbox)
      have n8_ := Asd.mk ((by rw [hg]; exact (kpZ (w := w) (g := g) (row := none) (by repeat (with_reducible first | exact HK.out | apply Kbt.set_ | apply kpX | refine kpF ?_ GW389.out _ | refine kpF ?_ GW403.out _))) : w.heap.size ≤ gb417))
      have n9_ := Asd.mk ((Nat.le_trans HW0.out (by rw [hg]; exact (kpZ (w := w) (g := g) (row := none) (by repeat (with_reducible first | exact HK.out | apply Kbt.set_ | apply kpX | refine kpF ?_ GW389.out _ | refine kpF ?_ GW403.out _))) : w.heap.size ≤ gb417) : w0.heap.size ≤ gb417))
      have n10_ := Asd.mk ((by rw [hg]; exact Nat.ne_of_lt (bkL (g := gb389) (o := .cells #[.int .i64 0, .slice none 0 0, .slice none 0 0] 58 (0, 0)) (by (repeat apply bkS); exact BK389.out)) : gb389 ≠ gb417))
      have n11_ := Asd.mk ((by rw [hg]; exact Nat.ne_of_gt (bkL (g := gb389) (o := .cells #[.int .i64 0, .slice none 0 0, .slice none 0 0] 58 (0, 0)) (by (repeat apply bkS); exact BK389.out)) : gb417 ≠ gb389))
      have n12_ := Asd.mk ((by rw [hg]; exact Nat.ne_of_lt (bkL (g := gb403) (o := .cells #[.int .i64 x404000_1, .slice Ao23 x404001_1.length co23, .slice Ao24 x404002_1.length co24] 58 (0, 0)) (by (repeat apply bkS); exact BK403.out)) : gb403 ≠ gb417))
      have n13_ := Asd.mk ((by rw [hg]; exact Nat.ne_of_gt (bkL (g := gb403) (o := .cells #[.int .i64 x404000_1, .slice Ao23 x404001_1.length co23, .slice Ao24 x404002_1.length co24] 58 (0, 0)) (by (repeat apply bkS); exact BK403.out)) : gb417 ≠ gb403))
      have n14_ := Asd.mk ((by rw [hg]; exact Nat.ne_of_lt (Iz.lt (show Iz w0 _ g s0_0 x1001_1 from by repeat (with_reducible first | exact HI0.out | refine Iz.below ?_ StB.b | apply Iz.set_1 | refine Iz.far ?_ aX _))) : g ≠ gb417))
      have n15_ := Asd.mk ((by rw [hg]; exact Nat.ne_of_gt (Iz.lt (show Iz w0 _ g s0_0 x1001_1 from by repeat (with_reducible first | exact HI0.out | refine Iz.below ?_ StB.b | apply Iz.set_1 | refine Iz.far ?_ aX _))) : gb417 ≠ g))
      clear HO_404001
      clear HO_404002
      clear BK389
      clear BK403
      clear HI0
      clear HK
      clear HB
      have HO_404001 := n0_
      have HO_404002 := n1_
      have BK389 := n2_
      have BK403 := n3_
      have HI0 := n4_
      have HK := n5_
      have HB := n6_
      have BK417 := n7_
      have GW417 := n8_
      have GE417 := n9_
      have NB389_417 := n10_
      have NB417_389 := n11_
      have NB403_417 := n12_
      have NB417_403 := n13_
      have NB0_417 := n14_
      have NB417_0 := n15_
      clear n0_ n1_ n2_ n3_ n4_ n5_ n6_ n7_ n8_ n9_ n10_ n11_ n12_ n13_ n14_ n15_
      clear hb hbox hg
      refine hK.out _ _ ⟨(bkC BK403.out 0).trans rfl, (bkC BK403.out 1).trans rfl, (bkC BK403.out 2).trans rfl⟩ (fun hHeld => ?_)
      clear hK K
      refine norm_ (a' := ?_) ?_ ?_
      rotate_left
      ·show Act.put _ (some 8) _ = _
       simp only [Act.put, qA, qB, qC, i64_w, i32_w]
       rfl
      refine one_ (i := 3) (N := some 27) #[true, true, true, true, false, false, false, false, true, false, false] rfl rfl (one_of HT_.out (by kernel_rfl)) (by decide) (fun K hK => ?_)
      refine goes_ Try.func87 (by kernel_rfl) rfl #[.pointer (some ⟨g, 0, none⟩), .agg #[.int .i64 x404000_1, .slice Ao23 x404001_1.length co23, .slice Ao24 x404002_1.length co24]] (by rfl) rfl rfl (by (try simp only [List.map_toArray, List.map_cons, List.map_nil]); first | done | rfl | (simp only [List.length_drop, List.length_take]; rfl)) ?_
      with_reducible refine (spec_l20Deed.calls k1 g s0_0 x1001_1 x404000_1 _ _ x404001_1 _ _ x404002_1 t406 t407 t408 w0 _ ?side1 ?side2 ?side3 ?side4 ?side5 ?side6 ?side7 A20.out).mono ?_
      (case side1 => repeat (with_reducible first | exact HI0.out | refine Iz.below ?_ StB.b | apply Iz.set_1 | refine Iz.far ?_ aX _))
      (case side2 => repeat (with_reducible first | exact HB.out | apply bwX | refine bwS ?_ (Iz.ge HI0.out) | refine bwS ?_ GE389.out | refine bwS ?_ GE403.out | refine bwS ?_ GE417.out))
      (case side3 => repeat (first | exact (Kd.R_reads' HO_404001.out).2.2 | (with_reducible refine Kd.C_alloc ?_ _) | (with_reducible refine Kd.C_drewN ?_ _) | (with_reducible refine Kd.C_drew ?_)))
      (case side4 => exact (Kd.R_reads' HO_404001.out).2.1)
      (case side5 => exact far_slice (Iz.own_ne HI0.out HO_404001.out (by decide)))
      (case side6 => exact Kd.C_foot_own ((Kd.S_R (Iz.apartS (show Iz w0 _ g s0_0 x1001_1 from by repeat (with_reducible first | exact HI0.out | refine Iz.below ?_ StB.b | apply Iz.set_1 | refine Iz.far ?_ aX _)) (by (repeat apply Kd.SS); exact HO_404002.out) (by decide)))) (fun _ h_ => h_.2))
      (case side7 => exact (Kd.S_reads' HO_404002.out).2.1)
      rintro e w27 ⟨rfl, hi, hb, hk⟩
      refine ⟨_, rfl, ?_⟩
      have n0_ := Asd.mk (Kd.R_mono (Kd.R_keep (Iz.apart (show Iz w0 _ g s0_0 x1001_1 from by repeat (with_reducible first | exact HI0.out | refine Iz.below ?_ StB.b | apply Iz.set_1 | refine Iz.far ?_ aX _)) (by (repeat apply Kd.RS); exact HO_404001.out) (by decide)) hk (fun _ h => h.2)) (fun _ h => h.1))
      have n1_ := Asd.mk (Kd.S_mono (Kd.S_keep (Iz.apartS (show Iz w0 _ g s0_0 x1001_1 from by repeat (with_reducible first | exact HI0.out | refine Iz.below ?_ StB.b | apply Iz.set_1 | refine Iz.far ?_ aX _)) (by (repeat apply Kd.SS); exact HO_404002.out) (by decide)) hk (fun _ h => h.2)) (fun _ h => h.1))
      have n2_ := Asd.mk (Kbt.blk hk (g' := gb389) (o := .cells #[.int .i64 0, .slice none 0 0, .slice none 0 0] 58 (0, 0)) (by (repeat apply bkS); exact BK389.out) NB389_0.out (by simp))
      have n3_ := Asd.mk (Kbt.blk hk (g' := gb403) (o := .cells #[.int .i64 x404000_1, .slice Ao23 x404001_1.length co23, .slice Ao24 x404002_1.length co24] 58 (0, 0)) (by (repeat apply bkS); exact BK403.out) NB403_0.out (by simp))
      have n4_ := Asd.mk (Kbt.blk hk (g' := gb417) (o := .cells #[.int .i64 0, .slice none 0 0, .slice none 0 0] 58 (0, 0)) (by (repeat apply bkS); exact BK417.out) NB417_0.out (by simp))
      have n5_ := Asd.mk (Kbt.trans (by repeat (with_reducible first | exact HK.out | apply Kbt.set_ | apply kpX | refine kpF ?_ GW389.out _ | refine kpF ?_ GW403.out _ | refine kpF ?_ GW417.out _)) hk (.inl rfl))
      have n6_ := Asd.mk (hb)
      have n7_ := Asd.mk (hi)
      clear HO_404001
      clear HO_404002
      clear BK389
      clear BK403
      clear BK417
      clear HK
      clear HB
      clear HI0
      have HO_404001 := n0_
      have HO_404002 := n1_
      have BK389 := n2_
      have BK403 := n3_
      have BK417 := n4_
      have HK := n5_
      have HB := n6_
      have HI0 := n7_
      clear n0_ n1_ n2_ n3_ n4_ n5_ n6_ n7_
      (try clear hb)
      (try clear hb2)
      (try clear hk)
      (try clear hi)
      refine hK.out _ _ ⟨(bkC BK403.out 0).trans rfl, (bkC BK403.out 1).trans rfl, (bkC BK403.out 2).trans rfl⟩ (fun hHeld => ?_)
      clear hK K
      refine norm_ (a' := ?_) ?_ ?_
      rotate_left
      ·show Act.put _ (some 27) _ = _
       simp only [Act.put, qA, qB, qC, i64_w, i32_w]
       rfl
      refine one_ (i := 4) (N := some 28) #[true, true, true, true, true, false, false, false, true, false, false] rfl rfl (one_of HT_.out (by kernel_rfl)) (by decide) (fun K hK => ?_)
      refine goes_ Try.func63 (by kernel_rfl) rfl #[.agg #[.int .i64 x404000_1, .slice Ao23 x404001_1.length co23, .slice Ao24 x404002_1.length co24], .agg #[.int .i64 t406, .string t407]] (by rfl) rfl rfl (by (try simp only [List.map_toArray, List.map_cons, List.map_nil]); first | done | rfl | (simp only [List.length_drop, List.length_take]; rfl)) ?_
      with_reducible refine (spec_MindDo.calls k1 x404000_1 _ _ x404001_1 _ _ x404002_1 t406 t407 t409 t410 t413 t416 _ ?side1 ?side2 ?side3 ?side4 A21.out).mono ?_
      (case side1 => repeat (first | exact (Kd.R_reads' HO_404001.out).2.2 | (with_reducible refine Kd.C_alloc ?_ _) | (with_reducible refine Kd.C_drewN ?_ _) | (with_reducible refine Kd.C_drew ?_)))
      (case side2 => exact (Kd.R_reads' HO_404001.out).2.1)
      (case side3 => repeat (first | exact (Kd.S_reads' HO_404002.out).2.2 | (with_reducible refine Kd.C_alloc ?_ _) | (with_reducible refine Kd.C_drewN ?_ _) | (with_reducible refine Kd.C_drew ?_)))
      (case side4 => exact (Kd.S_reads' HO_404002.out).2.1)
      rintro e w28 ⟨v411, v414, rfl, ho0, ho1, hb⟩
      refine ⟨_, rfl, ?_⟩
      have n0_ := Asd.mk (Kd.R_elder' (by (repeat apply Kd.RS); exact HO_404001.out) (Kd.R_base ho0) hb)
      have n1_ := Asd.mk (Kd.S_mono (Kd.S_told (Kd.S_told (Kd.S_old (by (repeat apply Kd.SS); exact HO_404002.out) hb) (Kd.R_base ho0)) (Kd.S_base ho1)) (fun _ h_ => h_.1))
      have n2_ := Asd.mk (Kd.R_lower (Kd.R_new' ho0 (Kd.R_lt (by (repeat apply Kd.RS); exact HO_404001.out))) (kpZ (w := w) (g := g) (row := none) (by repeat (with_reducible first | exact HK.out | apply Kbt.set_ | apply kpX | refine kpF ?_ GW389.out _ | refine kpF ?_ GW403.out _ | refine kpF ?_ GW417.out _))))
      have n3_ := Asd.mk (Kd.S_lower (Kd.S_new' (Kd.S_new' ho1 (Kd.R_lt (by (repeat apply Kd.RS); exact HO_404001.out))) (Kd.S_lt (by (repeat apply Kd.SS); exact HO_404002.out))) (kpZ (w := w) (g := g) (row := none) (by repeat (with_reducible first | exact HK.out | apply Kbt.set_ | apply kpX | refine kpF ?_ GW389.out _ | refine kpF ?_ GW403.out _ | refine kpF ?_ GW417.out _))))
      have n4_ := Asd.mk (bkB (g := gb389) (o := .cells #[.int .i64 0, .slice none 0 0, .slice none 0 0] 58 (0, 0)) (by (repeat apply bkS); exact BK389.out) hb)
      have n5_ := Asd.mk (bkB (g := gb403) (o := .cells #[.int .i64 x404000_1, .slice Ao23 x404001_1.length co23, .slice Ao24 x404002_1.length co24] 58 (0, 0)) (by (repeat apply bkS); exact BK403.out) hb)
      have n6_ := Asd.mk (Iz.below (by repeat (with_reducible first | exact HI0.out | refine Iz.below ?_ StB.b | apply Iz.set_1 | refine Iz.far ?_ aX _)) hb)
      have n7_ := Asd.mk (bkB (g := gb417) (o := .cells #[.int .i64 0, .slice none 0 0, .slice none 0 0] 58 (0, 0)) (by (repeat apply bkS); exact BK417.out) hb)
      have n8_ := Asd.mk (Kbt.trans (by repeat (with_reducible first | exact HK.out | apply Kbt.set_ | apply kpX | refine kpF ?_ GW389.out _ | refine kpF ?_ GW403.out _ | refine kpF ?_ GW417.out _)) (Kbt.of_below hb g none) (.inl rfl))
      have n9_ := Asd.mk (bwP (by repeat (with_reducible first | exact HB.out | apply bwX | refine bwS ?_ (Iz.ge HI0.out) | refine bwS ?_ GE389.out | refine bwS ?_ GE403.out | refine bwS ?_ GE417.out)) hb)
      clear HO_404001
      clear HO_404002
      clear BK389
      clear BK403
      clear HI0
      clear BK417
      clear HK
      clear HB
      have HO_404001 := n0_
      have HO_404002 := n1_
      have HO412 := n2_
      have HO415 := n3_
      have BK389 := n4_
      have BK403 := n5_
      have HI0 := n6_
      have BK417 := n7_
      have HK := n8_
      have HB := n9_
      clear n0_ n1_ n2_ n3_ n4_ n5_ n6_ n7_ n8_ n9_
      (try clear hb)
      (try clear hb2)
      (try clear hk)
      (try clear hi)
      (try clear ho0)
      (try clear ho1)
      refine hK.out _ _ ⟨(bkC BK403.out 0).trans rfl, (bkC BK403.out 1).trans rfl, (bkC BK403.out 2).trans rfl⟩ (fun hHeld => ?_)
      clear hK K
      refine norm_ (a' := ?_) ?_ ?_
      rotate_left
      ·show Act.put _ (some 28) _ = _
       simp only [Act.put, qA, qB, qC, i64_w, i32_w]
       rfl
      refine pure_ (i := 5) (N := some 23) (v := ?_) (a' := ?_) #[true, true, true, true, true, true, false, false, true, false, false] rfl rfl (any_of HT_.out (by kernel_rfl)) (fun _ _ _ h => h) (Or.inl ⟨by rfl, ?_⟩) ?_ ?_
      rotate_left
      ·intro w'
       go_simp
       with_reducible rfl
      rotate_left
      ·simp only [Act.put, qA, qB, qC, i64_w, i32_w]
       rfl
      refine pure_ (i := 6) (N := some 29) (v := ?_) (a' := ?_) #[true, true, true, true, true, true, true, false, true, false, false] rfl rfl (any_of HT_.out (by kernel_rfl)) (fun _ _ _ h => h) (Or.inl ⟨by rfl, ?_⟩) ?_ ?_
      rotate_left
      ·intro w'
       go_simp
       with_reducible rfl
      rotate_left
      ·simp only [Act.put, qA, qB, qC, i64_w, i32_w]
       rfl
      refine pure_ (i := 7) (N := some 30) (v := ?_) (a' := ?_) #[true, true, true, true, true, true, true, true, true, false, false] rfl rfl (any_of HT_.out (by kernel_rfl)) (fun _ _ _ h => h) (Or.inl ⟨by rfl, ?_⟩) ?_ ?_
      rotate_left
      ·intro w'
       go_simp
       with_reducible rfl
      rotate_left
      ·simp only [Act.put, qA, qB, qC, i64_w, i32_w]
       rfl
      exact norm_ (by simp only [putAll, Act.put, qA, qB, qC]) (hCont (v411, v414, gb417) _ ⟨hHeld, (by (repeat apply Kd.RS); exact Kd.R_mono HO412.out (fun _ hk => hk.2)), (by (repeat apply Kd.SS); exact Kd.S_mono HO415.out (fun _ hk => ⟨hk.1.1, ⟨hk.1.2, hk.2⟩⟩)), (by (repeat apply Kd.RS); exact Kd.R_mono HO_404001.out (fun _ hk => hk.2)), (by (repeat apply Kd.SS); exact Kd.S_mono HO_404002.out (fun _ hk => ⟨hk.1.2, ⟨hk.2, hk.1.1⟩⟩)), (by (repeat apply bkS); exact BK389.out), (by (repeat apply bkS); exact BK403.out), (by (repeat apply bkS); exact BK417.out), GW417.out, GE417.out, NB0_417.out, NB417_0.out, NB389_417.out, NB417_389.out, NB403_417.out, NB417_403.out, (by repeat (with_reducible first | exact HI0.out | refine Iz.below ?_ StB.b | apply Iz.set_1 | refine Iz.far ?_ aX _)), (by repeat (with_reducible first | exact HK.out | apply Kbt.set_ | apply kpX | refine kpF ?_ GW389.out _ | refine kpF ?_ GW403.out _ | refine kpF ?_ GW417.out _)), (by repeat (with_reducible first | exact HB.out | apply bwX | refine bwS ?_ (Iz.ge HI0.out) | refine bwS ?_ GE389.out | refine bwS ?_ GE403.out | refine bwS ?_ GE417.out))⟩)
    rintro ⟨v411, v414, gb417⟩ w29 ⟨hS_, h0_, h1_, h2_, h3_, h4_, h5_, h6_, h7_, h8_, h9_, h10_, h11_, h12_, h13_, h14_, h15_, h16_, h17_⟩
    have n0_ : Asd (Kd.R (Kd.int .i64) 3 w29 w.heap.size (fun k_ => some k_ ≠ (.slice Ao23 x404001_1.length co23 : Value).ownBlock) v411 t410) := ⟨h0_⟩
    have n1_ : Asd (Kd.S (Kd.slice 3 (Kd.int .i64)) 55 w29 w.heap.size (fun k_ => some k_ ≠ (v411 : Value).ownBlock ∧ some k_ ≠ (.slice Ao23 x404001_1.length co23 : Value).ownBlock ∧ some k_ ≠ (.slice Ao24 x404002_1.length co24 : Value).ownBlock) v414 t413) := ⟨h1_⟩
    have n2_ : Asd (Kd.R (Kd.int .i64) 3 w29 w.heap.size (fun k_ => some k_ ≠ (v411 : Value).ownBlock) (.slice Ao23 x404001_1.length co23) x404001_1) := ⟨h2_⟩
    have n3_ : Asd (Kd.S (Kd.slice 3 (Kd.int .i64)) 55 w29 w.heap.size (fun k_ => some k_ ≠ (v411 : Value).ownBlock ∧ some k_ ≠ (v414 : Value).ownBlock ∧ some k_ ≠ (.slice Ao23 x404001_1.length co23 : Value).ownBlock) (.slice Ao24 x404002_1.length co24) x404002_1) := ⟨h3_⟩
    have n4_ : Asd (w29.heap[gb389]? = some (.cells #[.int .i64 0, .slice none 0 0, .slice none 0 0] 58 (0, 0))) := ⟨h4_⟩
    have n5_ : Asd (w29.heap[gb403]? = some (.cells #[.int .i64 x404000_1, .slice Ao23 x404001_1.length co23, .slice Ao24 x404002_1.length co24] 58 (0, 0))) := ⟨h5_⟩
    have n6_ : Asd (w29.heap[gb417]? = some (.cells #[.int .i64 0, .slice none 0 0, .slice none 0 0] 58 (0, 0))) := ⟨h6_⟩
    have n7_ : Asd (w.heap.size ≤ gb417) := ⟨h7_⟩
    have n8_ : Asd (w0.heap.size ≤ gb417) := ⟨h8_⟩
    have n9_ : Asd (g ≠ gb417) := ⟨h9_⟩
    have n10_ : Asd (gb417 ≠ g) := ⟨h10_⟩
    have n11_ : Asd (gb389 ≠ gb417) := ⟨h11_⟩
    have n12_ : Asd (gb417 ≠ gb389) := ⟨h12_⟩
    have n13_ : Asd (gb403 ≠ gb417) := ⟨h13_⟩
    have n14_ : Asd (gb417 ≠ gb403) := ⟨h14_⟩
    have n15_ : Asd (Iz w0 w29 g s0_0 t408) := ⟨h15_⟩
    have n16_ : Asd (Kbt w w29 g none) := ⟨h16_⟩
    have n17_ : Asd (Below w0.heap.size w0 w29) := ⟨h17_⟩
    clear HO_404001
    clear HO_404002
    clear BK389
    clear BK403
    clear HI0
    clear HK
    clear HB
    clear h0_ h1_ h2_ h3_ h4_ h5_ h6_ h7_ h8_ h9_ h10_ h11_ h12_ h13_ h14_ h15_ h16_ h17_
    have HO412 := n0_
    have HO415 := n1_
    have HO_404001 := n2_
    have HO_404002 := n3_
    have BK389 := n4_
    have BK403 := n5_
    have BK417 := n6_
    have GW417 := n7_
    have GE417 := n8_
    have NB0_417 := n9_
    have NB417_0 := n10_
    have NB389_417 := n11_
    have NB417_389 := n12_
    have NB403_417 := n13_
    have NB417_403 := n14_
    have HI0 := n15_
    have HK := n16_
    have HB := n17_
    clear n0_ n1_ n2_ n3_ n4_ n5_ n6_ n7_ n8_ n9_ n10_ n11_ n12_ n13_ n14_ n15_ n16_ n17_
    have hHeld : w29.cell? ⟨gb403, 0, none⟩ = some (.int .i64 x404000_1) ∧ w29.cell? ⟨gb403, 1, none⟩ = some (.slice Ao23 x404001_1.length co23) ∧ w29.cell? ⟨gb403, 2, none⟩ = some (.slice Ao24 x404002_1.length co24) := hS_
    obtain ⟨Ao31, co31, eo31⟩ := Kd.R_slice HO412.out
    (first | subst eo31 | (injection eo31 with f1_ f2_ f3_; have f4_ := f1_.symm; have f5_ := f3_.symm; clear f1_ f2_ f3_; subst f4_; subst f5_))
    obtain ⟨Ao33, co33, eo33⟩ := Kd.S_slice HO415.out
    (first | subst eo33 | (injection eo33 with f1_ f2_ f3_; have f4_ := f1_.symm; have f5_ := f3_.symm; clear f1_ f2_ f3_; subst f4_; subst f5_))
    refine norm_ (a' := ?_) ?_ ?_
    rotate_left
    ·simp only [putAll, Act.put, qA, qB, qC]
     rfl
    refine one_ (i := 9) (N := none) #[true, true, true, true, true, true, true, true, true, true, false] rfl rfl (one_of HT_.out (by kernel_rfl)) (by decide) (fun K hK => ?_)
    have hs30 : w29.cell? ⟨gb417, 0, none⟩ = some (.int .i64 0) := (bkC BK417.out 0).trans rfl
    have hfs30 := bkF BK417.out 0
    have hns30_0 := NB389_417.out
    have hns30_1 := NB403_417.out
    have hms30_0 := NB417_389.out
    have hms30_1 := NB417_403.out
    have hs32 : w29.cell? ⟨gb417, 1, none⟩ = some (.slice none 0 0) := (bkC BK417.out 1).trans rfl
    have hfs32 := bkF BK417.out 1
    have hns32_0 := NB389_417.out
    have hns32_1 := NB403_417.out
    have hms32_0 := NB417_389.out
    have hms32_1 := NB417_403.out
    have hs34 : w29.cell? ⟨gb417, 2, none⟩ = some (.slice none 0 0) := (bkC BK417.out 2).trans rfl
    have hfs34 := bkF BK417.out 2
    have hns34_0 := NB389_417.out
    have hns34_1 := NB403_417.out
    have hms34_0 := NB417_389.out
    have hms34_1 := NB417_403.out
    refine skip_ (w1 := ?_) (by rfl) rfl ?_ ?_
    rotate_left
    ·go_simp
     rfl
    refine hK.out _ _ ⟨((cell_far (p := ⟨gb417, _, none⟩) NB403_417.out _).trans (((cell_far (p := ⟨gb417, _, none⟩) NB403_417.out _).trans (((cell_far (p := ⟨gb417, _, none⟩) NB403_417.out _).trans (hHeld.1)))))), ((cell_far (p := ⟨gb417, _, none⟩) NB403_417.out _).trans (((cell_far (p := ⟨gb417, _, none⟩) NB403_417.out _).trans (((cell_far (p := ⟨gb417, _, none⟩) NB403_417.out _).trans (hHeld.2.1)))))), ((cell_far (p := ⟨gb417, _, none⟩) NB403_417.out _).trans (((cell_far (p := ⟨gb417, _, none⟩) NB403_417.out _).trans (((cell_far (p := ⟨gb417, _, none⟩) NB403_417.out _).trans (hHeld.2.2))))))⟩ (fun hHeld => ?_)
    clear hK K
    refine pure_ (i := 10) (N := some 9) (v := ?_) (a' := ?_) #[true, true, true, true, true, true, true, true, true, true, true] rfl rfl (any_of HT_.out (by kernel_rfl)) (fun _ _ _ h => h) (Or.inl ⟨by rfl, ?_⟩) ?_ ?_
    rotate_left
    ·intro w'
     go_simp
     with_reducible rfl
    rotate_left
    ·simp only [Act.put, qA, qB, qC, i64_w, i32_w]
     rfl
    refine done_ (done_of HT_.out (by kernel_rfl)) ?_
    by_cases c22 : t416 = true
    ·subst c22
     rw [if_pos rfl] at H
     have H' := Asd.mk H
     clear H
     have hnb35 := NB417_389.out
     have hnc35 := NB389_417.out
     have hnb36 := NB417_403.out
     have hnc36 := NB403_417.out
     have hnb37 := NB417_0.out
     have hnc37 := NB0_417.out
     have hcz38_0 : w29.cell? ⟨gb417, 0, none⟩ = some (.int .i64 0) := (bkC BK417.out 0).trans rfl
     have hcz38_1 : w29.cell? ⟨gb417, 1, none⟩ = some (.slice none 0 0) := (bkC BK417.out 1).trans rfl
     have hcz38_2 : w29.cell? ⟨gb417, 2, none⟩ = some (.slice none 0 0) := (bkC BK417.out 2).trans rfl
     have hfz38_0 := bkF BK417.out 0
     have hfz38_1 := bkF BK417.out 1
     have hfz38_2 := bkF BK417.out 2
     have hnb39 := NB403_389.out
     have hnc39 := NB389_403.out
     have hnb40 := NB403_0.out
     have hnc40 := NB0_403.out
     have hcz41_0 : w29.cell? ⟨gb403, 0, none⟩ = some (.int .i64 x404000_1) := (bkC BK403.out 0).trans rfl
     have hcz41_1 : w29.cell? ⟨gb403, 1, none⟩ = some (.slice Ao23 x404001_1.length co23) := (bkC BK403.out 1).trans rfl
     have hcz41_2 : w29.cell? ⟨gb403, 2, none⟩ = some (.slice Ao24 x404002_1.length co24) := (bkC BK403.out 2).trans rfl
     have hfz41_0 := bkF BK403.out 0
     have hfz41_1 := bkF BK403.out 1
     have hfz41_2 := bkF BK403.out 2
     try go_wp2
     go_roundg k1
     case measure => have := HK1.out; omega
     case rel => exact ⟨(wrap64 (x7_1 - 1)), (t408), (t409), (t410), (t413), (.slice Ao31 t410.length co31), (.slice Ao33 t413.length co33), (by first | rfl | (simp; done) | (simp [*]; done)), H', ⟨by have := HK1.out; omega⟩, ⟨by (repeat apply Kd.RS); exact Kd.R_mono (Kd.R_far (p := ⟨gb403, 2, none⟩) (Kd.R_far (p := ⟨gb403, 1, none⟩) (Kd.R_far (p := ⟨gb403, 0, none⟩) (Kd.R_far (p := ⟨gb417, 2, none⟩) (Kd.R_far (p := ⟨gb417, 1, none⟩) (Kd.R_far (p := ⟨gb417, 0, none⟩) (Kd.R_types (Kd.R_types HO412.out BK417.out (by decide)) BK403.out (by decide)) (fun _ hk => hk.1.2) (.int .i64 t409)) (fun _ hk => hk.1.2) (.slice Ao31 t410.length co31)) (fun _ hk => hk.1.2) (.slice Ao33 t413.length co33)) (fun _ hk => hk.2) (.int .i64 t409)) (fun _ hk => hk.2) (.slice Ao31 t410.length co31)) (fun _ hk => hk.2) (.slice Ao33 t413.length co33)) (fun _ hk => trivial)⟩, ⟨by (repeat apply Kd.SS); exact Kd.S_mono (Kd.S_far (p := ⟨gb403, 2, none⟩) (Kd.S_far (p := ⟨gb403, 1, none⟩) (Kd.S_far (p := ⟨gb403, 0, none⟩) (Kd.S_far (p := ⟨gb417, 2, none⟩) (Kd.S_far (p := ⟨gb417, 1, none⟩) (Kd.S_far (p := ⟨gb417, 0, none⟩) (Kd.S_types (Kd.S_types HO415.out BK417.out (by decide)) BK403.out (by decide)) (fun _ hk => hk.1.2) (.int .i64 t409)) (fun _ hk => hk.1.2) (.slice Ao31 t410.length co31)) (fun _ hk => hk.1.2) (.slice Ao33 t413.length co33)) (fun _ hk => hk.2) (.int .i64 t409)) (fun _ hk => hk.2) (.slice Ao31 t410.length co31)) (fun _ hk => hk.2) (.slice Ao33 t413.length co33)) (fun _ hk => hk.1.1.1)⟩, ⟨by (repeat apply bkS); refine bkR ?_ NB389_403.out _; (repeat apply bkS); refine bkR ?_ NB389_403.out _; (repeat apply bkS); refine bkR ?_ NB389_403.out _; (repeat apply bkS); refine bkR ?_ NB389_417.out _; (repeat apply bkS); refine bkR ?_ NB389_417.out _; (repeat apply bkS); refine bkR ?_ NB389_417.out _; (repeat apply bkS); exact BK389.out⟩, ⟨by (repeat apply bkS); refine bkP (cs := #[.int .i64 t409, .slice Ao31 t410.length co31, .slice Ao24 x404002_1.length co24]) ?_ 2 _ rfl; (repeat apply bkS); refine bkP (cs := #[.int .i64 t409, .slice Ao23 x404001_1.length co23, .slice Ao24 x404002_1.length co24]) ?_ 1 _ rfl; (repeat apply bkS); refine bkP (cs := #[.int .i64 x404000_1, .slice Ao23 x404001_1.length co23, .slice Ao24 x404002_1.length co24]) ?_ 0 _ rfl; (repeat apply bkS); refine bkR ?_ NB403_417.out _; (repeat apply bkS); refine bkR ?_ NB403_417.out _; (repeat apply bkS); refine bkR ?_ NB403_417.out _; (repeat apply bkS); exact BK403.out⟩, ⟨by repeat (with_reducible first | exact HI0.out | refine Iz.below ?_ StB.b | apply Iz.set_1 | refine Iz.far ?_ aX _)⟩, ⟨by repeat (with_reducible first | exact HK.out | apply Kbt.set_ | apply kpX | refine kpF ?_ GW389.out _ | refine kpF ?_ GW403.out _ | refine kpF ?_ GW417.out _)⟩, ⟨by repeat (with_reducible first | exact HB.out | apply bwX | refine bwS ?_ (Iz.ge HI0.out) | refine bwS ?_ GE389.out | refine bwS ?_ GE403.out | refine bwS ?_ GE417.out)⟩⟩
    ·replace c22 := Bool.eq_false_iff.mpr c22
     subst c22
     rw [if_neg (show ¬ (false = true) by decide)] at H
     have H' := Asd.mk H
     clear H
     try go_wp2
     go_roundg k1
     case measure => have := HK1.out; omega
     case rel => exact ⟨(wrap64 (x7_1 - 1)), (t408), (x404000_1), (x404001_1), (x404002_1), (.slice Ao23 x404001_1.length co23), (.slice Ao24 x404002_1.length co24), (by first | rfl | (simp; done) | (simp [*]; done)), H', ⟨by have := HK1.out; omega⟩, ⟨by (repeat apply Kd.RS); exact Kd.R_mono (Kd.R_far (p := ⟨gb417, 2, none⟩) (Kd.R_far (p := ⟨gb417, 1, none⟩) (Kd.R_far (p := ⟨gb417, 0, none⟩) (Kd.R_types HO_404001.out BK417.out (by decide)) (fun _ hk => hk.2) (.int .i64 t409)) (fun _ hk => hk.2) (.slice Ao31 t410.length co31)) (fun _ hk => hk.2) (.slice Ao33 t413.length co33)) (fun _ hk => trivial)⟩, ⟨by (repeat apply Kd.SS); exact Kd.S_mono (Kd.S_far (p := ⟨gb417, 2, none⟩) (Kd.S_far (p := ⟨gb417, 1, none⟩) (Kd.S_far (p := ⟨gb417, 0, none⟩) (Kd.S_types HO_404002.out BK417.out (by decide)) (fun _ hk => hk.2) (.int .i64 t409)) (fun _ hk => hk.2) (.slice Ao31 t410.length co31)) (fun _ hk => hk.2) (.slice Ao33 t413.length co33)) (fun _ hk => hk.1.2.2)⟩, ⟨by (repeat apply bkS); refine bkR ?_ NB389_417.out _; (repeat apply bkS); refine bkR ?_ NB389_417.out _; (repeat apply bkS); refine bkR ?_ NB389_417.out _; (repeat apply bkS); exact BK389.out⟩, ⟨by (repeat apply bkS); refine bkR ?_ NB403_417.out _; (repeat apply bkS); refine bkR ?_ NB403_417.out _; (repeat apply bkS); refine bkR ?_ NB403_417.out _; (repeat apply bkS); exact BK403.out⟩, ⟨by repeat (with_reducible first | exact HI0.out | refine Iz.below ?_ StB.b | apply Iz.set_1 | refine Iz.far ?_ aX _)⟩, ⟨by repeat (with_reducible first | exact HK.out | apply Kbt.set_ | apply kpX | refine kpF ?_ GW389.out _ | refine kpF ?_ GW403.out _ | refine kpF ?_ GW417.out _)⟩, ⟨by repeat (with_reducible first | exact HB.out | apply bwX | refine bwS ?_ (Iz.ge HI0.out) | refine bwS ?_ GE389.out | refine bwS ?_ GE403.out | refine bwS ?_ GE417.out)⟩⟩
   ·rw [if_neg c19] at H
    have c19b0 : decide (0 < x7_1) = false := decide_eq_false c19
    clear c19
    replace H := Option.bind_eq_some_iff.mp H
    obtain ⟨⟨t418, t419⟩, A540, H⟩ := H
    try dsimp only at H
    have A54 := Asd.mk A540
    clear A540
    by_cases c55 : t418 = true
    ·subst c55
     rw [if_pos rfl] at H
     replace H := Option.bind_eq_some_iff.mp H
     obtain ⟨⟨t420, t421⟩, A560, H⟩ := H
     try dsimp only at H
     have A56 := Asd.mk A560
     clear A560
     by_cases c57 : t420 = 0
     ·rw [if_pos c57] at H
      have c57b0 : (t420 == 0) = true := beq_iff_eq.mpr c57
      have c57b1 : (t420 != 0) = false := bne_eq_false_iff_eq.mpr c57
      clear c57
      simp only [Option.some.injEq, Prod.mk.injEq] at H
      obtain ⟨rfl, rfl, rfl, rfl⟩ := H
      go_wp2_with (first | ((with_reducible refine gate_callee (f := 81) rfl ?_); refine gsM (some 35) rfl rfl Try.func81 (by kernel_rfl) rfl #[.pointer (some ⟨g, 0, none⟩), .int .i64 a1] rfl ?_; (with_reducible refine (spec_l20Rd_odd.calls k1 g s0_0 x1001_1 a1 true t419 w0 _ ?side1 ?side2 A54.out).mono ?_); (case side1 => repeat (with_reducible first | exact HI0.out | refine Iz.below ?_ StB.b | apply Iz.set_1 | refine Iz.far ?_ aX _)); (case side2 => repeat (with_reducible first | exact HB.out | apply bwX | refine bwS ?_ (Iz.ge HI0.out) | refine bwS ?_ GE389.out | refine bwS ?_ GE403.out)); rintro e w58 ⟨rfl, hi, hb, hk⟩; refine ⟨_, rfl, ?_⟩; have n0_ := Asd.mk (Kd.R_mono (Kd.R_keep (Iz.apart (show Iz w0 _ g s0_0 x1001_1 from by repeat (with_reducible first | exact HI0.out | refine Iz.below ?_ StB.b | apply Iz.set_1 | refine Iz.far ?_ aX _)) (by (repeat apply Kd.RS); exact HO_404001.out) (by decide)) hk (fun _ h => h.2)) (fun _ h => h.1)); have n1_ := Asd.mk (Kd.S_mono (Kd.S_keep (Iz.apartS (show Iz w0 _ g s0_0 x1001_1 from by repeat (with_reducible first | exact HI0.out | refine Iz.below ?_ StB.b | apply Iz.set_1 | refine Iz.far ?_ aX _)) (by (repeat apply Kd.SS); exact HO_404002.out) (by decide)) hk (fun _ h => h.2)) (fun _ h => h.1)); have n2_ := Asd.mk (Kbt.blk hk (g' := gb389) (o := .cells #[.int .i64 0, .slice none 0 0, .slice none 0 0] 58 (0, 0)) (by (repeat apply bkS); exact BK389.out) NB389_0.out (by simp)); have n3_ := Asd.mk (Kbt.blk hk (g' := gb403) (o := .cells #[.int .i64 x404000_1, u404001, u404002] 58 (0, 0)) (by (repeat apply bkS); exact BK403.out) NB403_0.out (by simp)); have n4_ := Asd.mk (Kbt.trans (by repeat (with_reducible first | exact HK.out | apply Kbt.set_ | apply kpX | refine kpF ?_ GW389.out _ | refine kpF ?_ GW403.out _)) hk (.inl rfl)); have n5_ := Asd.mk (hb); have n6_ := Asd.mk (hi); clear HO_404001; clear HO_404002; clear BK389; clear BK403; clear HK; clear HB; clear HI0; have HO_404001 := n0_; have HO_404002 := n1_; have BK389 := n2_; have BK403 := n3_; have HK := n4_; have HB := n5_; have HI0 := n6_; clear n0_ n1_ n2_ n3_ n4_ n5_ n6_; (try clear hb); (try clear hb2); (try clear hk); (try clear hi)) | ((with_reducible refine gate_callee (f := 82) rfl ?_); refine gsM (some 37) rfl rfl Try.func82 (by kernel_rfl) rfl #[.pointer (some ⟨g, 0, none⟩), .int .i64 3] rfl ?_; (with_reducible refine (spec_l20Rd_pick.calls k1 g s0_0 t419 3 t420 t421 w0 _ ?side1 ?side2 A56.out).mono ?_); (case side1 => repeat (with_reducible first | exact HI0.out | refine Iz.below ?_ StB.b | apply Iz.set_1 | refine Iz.far ?_ aX _)); (case side2 => repeat (with_reducible first | exact HB.out | apply bwX | refine bwS ?_ (Iz.ge HI0.out) | refine bwS ?_ GE389.out | refine bwS ?_ GE403.out)); rintro e w59 ⟨rfl, hi, hb, hk⟩; refine ⟨_, rfl, ?_⟩; have n0_ := Asd.mk (Kd.R_mono (Kd.R_keep (Iz.apart (show Iz w0 _ g s0_0 t419 from by repeat (with_reducible first | exact HI0.out | refine Iz.below ?_ StB.b | apply Iz.set_1 | refine Iz.far ?_ aX _)) (by (repeat apply Kd.RS); exact HO_404001.out) (by decide)) hk (fun _ h => h.2)) (fun _ h => h.1)); have n1_ := Asd.mk (Kd.S_mono (Kd.S_keep (Iz.apartS (show Iz w0 _ g s0_0 t419 from by repeat (with_reducible first | exact HI0.out | refine Iz.below ?_ StB.b | apply Iz.set_1 | refine Iz.far ?_ aX _)) (by (repeat apply Kd.SS); exact HO_404002.out) (by decide)) hk (fun _ h => h.2)) (fun _ h => h.1)); have n2_ := Asd.mk (Kbt.blk hk (g' := gb389) (o := .cells #[.int .i64 0, .slice none 0 0, .slice none 0 0] 58 (0, 0)) (by (repeat apply bkS); exact BK389.out) NB389_0.out (by simp)); have n3_ := Asd.mk (Kbt.blk hk (g' := gb403) (o := .cells #[.int .i64 x404000_1, u404001, u404002] 58 (0, 0)) (by (repeat apply bkS); exact BK403.out) NB403_0.out (by simp)); have n4_ := Asd.mk (Kbt.trans (by repeat (with_reducible first | exact HK.out | apply Kbt.set_ | apply kpX | refine kpF ?_ GW389.out _ | refine kpF ?_ GW403.out _)) hk (.inl rfl)); have n5_ := Asd.mk (hb); have n6_ := Asd.mk (hi); clear HO_404001; clear HO_404002; clear BK389; clear BK403; clear HK; clear HB; clear HI0; have HO_404001 := n0_; have HO_404002 := n1_; have BK389 := n2_; have BK403 := n3_; have HK := n4_; have HB := n5_; have HI0 := n6_; clear n0_ n1_ n2_ n3_ n4_ n5_ n6_; (try clear hb); (try clear hb2); (try clear hk); (try clear hi); have hnb60 := NB403_389.out; have hnc60 := NB389_403.out; have hnb61 := NB403_0.out; have hnc61 := NB0_403.out; have hcz62_0 : w59.cell? ⟨gb403, 0, none⟩ = some (.int .i64 x404000_1) := (bkC BK403.out 0).trans rfl; have hcz62_1 : w59.cell? ⟨gb403, 1, none⟩ = some (u404001) := (bkC BK403.out 1).trans rfl; have hcz62_2 : w59.cell? ⟨gb403, 2, none⟩ = some (u404002) := (bkC BK403.out 2).trans rfl; have hfz62_0 := bkF BK403.out 0; have hfz62_1 := bkF BK403.out 1; have hfz62_2 := bkF BK403.out 2; have hnb63 := NB389_0.out; have hnc63 := NB0_389.out; have hcz64_0 : w59.cell? ⟨gb389, 0, none⟩ = some (.int .i64 0) := (bkC BK389.out 0).trans rfl; have hcz64_1 : w59.cell? ⟨gb389, 1, none⟩ = some (.slice none 0 0) := (bkC BK389.out 1).trans rfl; have hcz64_2 : w59.cell? ⟨gb389, 2, none⟩ = some (.slice none 0 0) := (bkC BK389.out 2).trans rfl; have hfz64_0 := bkF BK389.out 0; have hfz64_1 := bkF BK389.out 1; have hfz64_2 := bkF BK389.out 2; obtain ⟨Ao65, co65, eo65⟩ := Kd.R_slice HO_404001.out; subst eo65; obtain ⟨Ao66, co66, eo66⟩ := Kd.S_slice HO_404002.out; subst eo66))
      refine bodyPost_ret (results_cell_row rfl _ _ gb389 58 #[.int .i64 4, .slice Ao65 x404001_1.length co65, .slice Ao66 x404002_1.length co66] (0, 0) _ rfl (by (repeat apply bkS); refine bkP (cs := #[.int .i64 4, .slice Ao65 x404001_1.length co65, .slice none 0 0]) ?_ 2 _ rfl; (repeat apply bkS); refine bkP (cs := #[.int .i64 4, .slice none 0 0, .slice none 0 0]) ?_ 1 _ rfl; (repeat apply bkS); refine bkP (cs := #[.int .i64 0, .slice none 0 0, .slice none 0 0]) ?_ 0 _ rfl; (repeat apply bkS); refine bkR ?_ NB389_403.out _; (repeat apply bkS); exact BK389.out) Try.underlying58 rfl (by kernel_rfl)) rfl ?_
      exact ⟨_, _, by first | rfl | (simp [*, errW_none, errW_some] <;> rfl), by (repeat apply Kd.RS); exact Kd.R_mono (Kd.R_far (p := ⟨gb389, 2, none⟩) (Kd.R_far (p := ⟨gb389, 1, none⟩) (Kd.R_far (p := ⟨gb389, 0, none⟩) (Kd.R_far (p := ⟨gb403, 0, none⟩) (Kd.R_types (Kd.R_types HO_404001.out BK403.out (by decide)) BK389.out (by decide)) (fun _ hk => hk.1.2) (.int .i64 4)) (fun _ hk => hk.2) (.int .i64 4)) (fun _ hk => hk.2) (.slice Ao65 x404001_1.length co65)) (fun _ hk => hk.2) (.slice Ao66 x404002_1.length co66)) (fun _ hk => trivial), by (repeat apply Kd.SS); exact Kd.S_mono (Kd.S_far (p := ⟨gb389, 2, none⟩) (Kd.S_far (p := ⟨gb389, 1, none⟩) (Kd.S_far (p := ⟨gb389, 0, none⟩) (Kd.S_far (p := ⟨gb403, 0, none⟩) (Kd.S_types (Kd.S_types HO_404002.out BK403.out (by decide)) BK389.out (by decide)) (fun _ hk => hk.1.2) (.int .i64 4)) (fun _ hk => hk.2) (.int .i64 4)) (fun _ hk => hk.2) (.slice Ao65 x404001_1.length co65)) (fun _ hk => hk.2) (.slice Ao66 x404002_1.length co66)) (fun _ hk => hk.1.1), by repeat (with_reducible first | exact HI0.out | refine Iz.below ?_ StB.b | apply Iz.set_1 | refine Iz.far ?_ aX _), by repeat (with_reducible first | exact HB.out | apply bwX | refine bwS ?_ (Iz.ge HI0.out) | refine bwS ?_ GE389.out | refine bwS ?_ GE403.out), by repeat (with_reducible first | exact HK.out | apply Kbt.set_ | apply kpX | refine kpF ?_ GW389.out _ | refine kpF ?_ GW403.out _)⟩
     ·rw [if_neg c57] at H
      have c57b0 : (t420 == 0) = false := beq_eq_false_iff_ne.mpr c57
      have c57b1 : (t420 != 0) = true := bne_iff_ne.mpr c57
      by_cases c67 : t420 = 1
      ·rw [if_pos c67] at H
       have c67b0 : (t420 == 1) = true := beq_iff_eq.mpr c67
       have c67b1 : (t420 != 1) = false := bne_eq_false_iff_eq.mpr c67
       clear c67
       by_cases c68 : 0 < (x404001_1.length : Int); rotate_left; (rw [if_neg c68] at H; exact absurd H (by simp))
       rw [if_pos c68] at H
       have c68b0 : decide (0 < (x404001_1.length : Int)) = true := decide_eq_true c68
       have c68b1 : decide (0 < x404001_1.length) = true := decide_eq_true (by omega)
       clear c68
       obtain ⟨y422, hy422⟩ : ∃ y_ : List Int, y_ = (x404001_1.set (0 : Int).toNat 9) := ⟨_, rfl⟩
       replace H : (some (x404000_1, y422, x404002_1, t421)) = some (r1, r2, r3, r4) := by first | (rw [hy422]; with_reducible exact H) | (have H2_ := (Option.bind_some _ _).symm.trans H; rw [hy422]; with_reducible exact H2_) | (have H2_ := (Option.bind_some _ _).symm.trans H; with_reducible exact H2_) | with_reducible exact H | (rw [hy422]; exact H) | exact H
       have Ny422 := Asd.mk hy422
       clear hy422
       simp only [Option.some.injEq, Prod.mk.injEq] at H
       obtain ⟨rfl, rfl, rfl, rfl⟩ := H
       go_wp2_with (first | ((with_reducible refine gate_callee (f := 81) rfl ?_); refine gsM (some 35) rfl rfl Try.func81 (by kernel_rfl) rfl #[.pointer (some ⟨g, 0, none⟩), .int .i64 a1] rfl ?_; (with_reducible refine (spec_l20Rd_odd.calls k1 g s0_0 x1001_1 a1 true t419 w0 _ ?side1 ?side2 A54.out).mono ?_); (case side1 => repeat (with_reducible first | exact HI0.out | refine Iz.below ?_ StB.b | apply Iz.set_1 | refine Iz.far ?_ aX _)); (case side2 => repeat (with_reducible first | exact HB.out | apply bwX | refine bwS ?_ (Iz.ge HI0.out) | refine bwS ?_ GE389.out | refine bwS ?_ GE403.out)); rintro e w70 ⟨rfl, hi, hb, hk⟩; refine ⟨_, rfl, ?_⟩; have n0_ := Asd.mk (Kd.R_mono (Kd.R_keep (Iz.apart (show Iz w0 _ g s0_0 x1001_1 from by repeat (with_reducible first | exact HI0.out | refine Iz.below ?_ StB.b | apply Iz.set_1 | refine Iz.far ?_ aX _)) (by (repeat apply Kd.RS); exact HO_404001.out) (by decide)) hk (fun _ h => h.2)) (fun _ h => h.1)); have n1_ := Asd.mk (Kd.S_mono (Kd.S_keep (Iz.apartS (show Iz w0 _ g s0_0 x1001_1 from by repeat (with_reducible first | exact HI0.out | refine Iz.below ?_ StB.b | apply Iz.set_1 | refine Iz.far ?_ aX _)) (by (repeat apply Kd.SS); exact HO_404002.out) (by decide)) hk (fun _ h => h.2)) (fun _ h => h.1)); have n2_ := Asd.mk (Kbt.blk hk (g' := gb389) (o := .cells #[.int .i64 0, .slice none 0 0, .slice none 0 0] 58 (0, 0)) (by (repeat apply bkS); exact BK389.out) NB389_0.out (by simp)); have n3_ := Asd.mk (Kbt.blk hk (g' := gb403) (o := .cells #[.int .i64 x404000_1, u404001, u404002] 58 (0, 0)) (by (repeat apply bkS); exact BK403.out) NB403_0.out (by simp)); have n4_ := Asd.mk (Kbt.trans (by repeat (with_reducible first | exact HK.out | apply Kbt.set_ | apply kpX | refine kpF ?_ GW389.out _ | refine kpF ?_ GW403.out _)) hk (.inl rfl)); have n5_ := Asd.mk (hb); have n6_ := Asd.mk (hi); clear HO_404001; clear HO_404002; clear BK389; clear BK403; clear HK; clear HB; clear HI0; have HO_404001 := n0_; have HO_404002 := n1_; have BK389 := n2_; have BK403 := n3_; have HK := n4_; have HB := n5_; have HI0 := n6_; clear n0_ n1_ n2_ n3_ n4_ n5_ n6_; (try clear hb); (try clear hb2); (try clear hk); (try clear hi)) | ((with_reducible refine gate_callee (f := 82) rfl ?_); refine gsM (some 37) rfl rfl Try.func82 (by kernel_rfl) rfl #[.pointer (some ⟨g, 0, none⟩), .int .i64 3] rfl ?_; (with_reducible refine (spec_l20Rd_pick.calls k1 g s0_0 t419 3 t420 t421 w0 _ ?side1 ?side2 A56.out).mono ?_); (case side1 => repeat (with_reducible first | exact HI0.out | refine Iz.below ?_ StB.b | apply Iz.set_1 | refine Iz.far ?_ aX _)); (case side2 => repeat (with_reducible first | exact HB.out | apply bwX | refine bwS ?_ (Iz.ge HI0.out) | refine bwS ?_ GE389.out | refine bwS ?_ GE403.out)); rintro e w71 ⟨rfl, hi, hb, hk⟩; refine ⟨_, rfl, ?_⟩; have n0_ := Asd.mk (Kd.R_mono (Kd.R_keep (Iz.apart (show Iz w0 _ g s0_0 t419 from by repeat (with_reducible first | exact HI0.out | refine Iz.below ?_ StB.b | apply Iz.set_1 | refine Iz.far ?_ aX _)) (by (repeat apply Kd.RS); exact HO_404001.out) (by decide)) hk (fun _ h => h.2)) (fun _ h => h.1)); have n1_ := Asd.mk (Kd.S_mono (Kd.S_keep (Iz.apartS (show Iz w0 _ g s0_0 t419 from by repeat (with_reducible first | exact HI0.out | refine Iz.below ?_ StB.b | apply Iz.set_1 | refine Iz.far ?_ aX _)) (by (repeat apply Kd.SS); exact HO_404002.out) (by decide)) hk (fun _ h => h.2)) (fun _ h => h.1)); have n2_ := Asd.mk (Kbt.blk hk (g' := gb389) (o := .cells #[.int .i64 0, .slice none 0 0, .slice none 0 0] 58 (0, 0)) (by (repeat apply bkS); exact BK389.out) NB389_0.out (by simp)); have n3_ := Asd.mk (Kbt.blk hk (g' := gb403) (o := .cells #[.int .i64 x404000_1, u404001, u404002] 58 (0, 0)) (by (repeat apply bkS); exact BK403.out) NB403_0.out (by simp)); have n4_ := Asd.mk (Kbt.trans (by repeat (with_reducible first | exact HK.out | apply Kbt.set_ | apply kpX | refine kpF ?_ GW389.out _ | refine kpF ?_ GW403.out _)) hk (.inl rfl)); have n5_ := Asd.mk (hb); have n6_ := Asd.mk (hi); clear HO_404001; clear HO_404002; clear BK389; clear BK403; clear HK; clear HB; clear HI0; have HO_404001 := n0_; have HO_404002 := n1_; have BK389 := n2_; have BK403 := n3_; have HK := n4_; have HB := n5_; have HI0 := n6_; clear n0_ n1_ n2_ n3_ n4_ n5_ n6_; (try clear hb); (try clear hb2); (try clear hk); (try clear hi); have hnb72 := NB403_389.out; have hnc72 := NB389_403.out; have hnb73 := NB403_0.out; have hnc73 := NB0_403.out; have hcz74_0 : w71.cell? ⟨gb403, 0, none⟩ = some (.int .i64 x404000_1) := (bkC BK403.out 0).trans rfl; have hcz74_1 : w71.cell? ⟨gb403, 1, none⟩ = some (u404001) := (bkC BK403.out 1).trans rfl; have hcz74_2 : w71.cell? ⟨gb403, 2, none⟩ = some (u404002) := (bkC BK403.out 2).trans rfl; have hfz74_0 := bkF BK403.out 0; have hfz74_1 := bkF BK403.out 1; have hfz74_2 := bkF BK403.out 2; have p69 : 0 ≤ (0 : Int) := (by omega); have q69 : (0 : Int) < ((x404001_1.length : Int) : Int) := odt; have qi69 : (0 < x404001_1.length) = True := eq_true (by omega); obtain ⟨go69, co69, eo69, gb69, gl69, cl69, HG69⟩ := Kd.R_form HO_404001.out (by omega); (first | cases eo69 | (injection eo69 with ea_ en_ ec_; (first | subst ea_ | (injection ea_ with ea_; subst ea_)); subst ec_; clear en_)); have GB69 := Asd.mk gb69; have GG69 := Asd.mk HG69; clear gb69 gl69 HG69; obtain ⟨hx69_0, hf69_0⟩ := Kd.R_celln 0 HO_404001.out (0 : Int) p69 q69; (try rw [show ((0 : Int)).toNat = 0 from rfl] at hx69_0); (try simp only [Nat.reduceMul, Nat.zero_mul, Nat.zero_add, Nat.reduceAdd] at hx69_0); (try rw [show ((0 : Int)).toNat = 0 from rfl] at hf69_0); (try simp only [Nat.reduceMul, Nat.zero_mul, Nat.zero_add, Nat.reduceAdd] at hf69_0); replace p69 := eq_true p69; replace q69 := eq_true q69; obtain ⟨hy75_, hz75_⟩ := Kd.R_celln 0 HO_404001.out (0 : Int) (by omega) (odt); (try simp only [Int.reduceToNat, Int.toNat_zero, Int.toNat_ofNat, Nat.reduceMul, Nat.zero_mul, Nat.zero_add] at hy75_ hz75_); (try rw [show ((0 : Int)).toNat = 0 from rfl] at hy75_); (try rw [show ((0 : Int)).toNat = 0 from rfl] at hz75_); have HP75 := Kd.R_putg HO_404001.out (0 : Int) 9) | ((with_reducible refine gate_store (t := 3) (p := 51) rfl ?_); refine store_event (t := 3) (p := 51) (v := ?vo_w76) (w1 := (w71.setCell ⟨go69, (0 : Int).toNat, none⟩ (.int .i64 9))) ?hg ?ho ?hn ?hr ?_; (case ho => rfl); (case hg => rfl); (case hn => rfl); (case hr => first | (go_simp; done) | (go_simp; rfl)); intro w76 hw; have hg : w71.grownBy w76 (some go69) := (by rw [hw]; exact HP75.2); have hp_ : Kd.R (Kd.int .i64) 3 w76 w.heap.size (fun _ => True) (.slice (some ⟨go69, 0, none⟩) x404001_1.length co69) y422 := (by rw [hw, Ny422.out]; exact HP75.1); clear HP75; have n0_ := Asd.mk (hp_); have n1_ := Asd.mk (Kd.S_after (v := (.slice (some ⟨go69, 0, none⟩) x404001_1.length co69)) (v1 := (.slice (some ⟨go69, 0, none⟩) x404001_1.length co69)) (ok := (fun _ => True)) (by (repeat apply Kd.SS); exact Kd.S_mono HO_404002.out (fun _ hk => ⟨trivial, hk⟩)) hg (.inl rfl)); have n2_ := Asd.mk (blk_grown (g := gb389) (o := .cells #[.int .i64 0, .slice none 0 0, .slice none 0 0] 58 (0, 0)) (by (repeat apply bkS); exact BK389.out) hg (Kd.R_ne HO_404001.out BK389.out (by decide))); have n3_ := Asd.mk (blk_grown (g := gb403) (o := .cells #[.int .i64 x404000_1, .slice (some ⟨go69, 0, none⟩) x404001_1.length co69, u404002] 58 (0, 0)) (by (repeat apply bkS); exact BK403.out) hg (Kd.R_ne HO_404001.out BK403.out (by decide))); have n4_ := Asd.mk (Iz.grown (by repeat (with_reducible first | exact HI0.out | refine Iz.below ?_ StB.b | apply Iz.set_1 | refine Iz.far ?_ aX _)) hg (Iz.own_ne HI0.out HO_404001.out (by decide))); have n5_ := Asd.mk ((by rw [hw]; exact bwS (HB.out) (Nat.le_trans HL.out GB69.out) : Below w0.heap.size w0 w76)); have n6_ := Asd.mk (Kbt.trans (by repeat (with_reducible first | exact HK.out | apply Kbt.set_ | apply kpX | refine kpF ?_ GW389.out _ | refine kpF ?_ GW403.out _)) (Kbt.of_grown hg g) (Kd.R_base2 HO_404001.out)); clear HO_404001; clear HO_404002; clear BK389; clear BK403; clear HI0; clear HB; clear HK; have HO_404001 := n0_; have HO_404002 := n1_; have BK389 := n2_; have BK403 := n3_; have HI0 := n4_; have HB := n5_; have HK := n6_; clear n0_ n1_ n2_ n3_ n4_ n5_ n6_; clear hg hw hp_; have hcz77_0 : w76.cell? ⟨gb403, 0, none⟩ = some (.int .i64 x404000_1) := (bkC BK403.out 0).trans rfl; have hcz77_1 : w76.cell? ⟨gb403, 1, none⟩ = some (.slice (some ⟨go69, 0, none⟩) x404001_1.length co69) := (bkC BK403.out 1).trans rfl; have hcz77_2 : w76.cell? ⟨gb403, 2, none⟩ = some (u404002) := (bkC BK403.out 2).trans rfl; have hfz77_0 := bkF BK403.out 0; have hfz77_1 := bkF BK403.out 1; have hfz77_2 := bkF BK403.out 2; have hnb78 := NB389_0.out; have hnc78 := NB0_389.out; have hcz79_0 : w76.cell? ⟨gb389, 0, none⟩ = some (.int .i64 0) := (bkC BK389.out 0).trans rfl; have hcz79_1 : w76.cell? ⟨gb389, 1, none⟩ = some (.slice none 0 0) := (bkC BK389.out 1).trans rfl; have hcz79_2 : w76.cell? ⟨gb389, 2, none⟩ = some (.slice none 0 0) := (bkC BK389.out 2).trans rfl; have hfz79_0 := bkF BK389.out 0; have hfz79_1 := bkF BK389.out 1; have hfz79_2 := bkF BK389.out 2; obtain ⟨Ao80, co80, eo80⟩ := Kd.S_slice HO_404002.out; subst eo80))
       refine bodyPost_ret (results_cell_row rfl _ _ gb389 58 #[.int .i64 x404000_1, .slice (some ⟨go69, 0, none⟩) x404001_1.length co69, .slice Ao80 x404002_1.length co80] (0, 0) _ rfl (by (repeat apply bkS); refine bkP (cs := #[.int .i64 x404000_1, .slice (some ⟨go69, 0, none⟩) x404001_1.length co69, .slice none 0 0]) ?_ 2 _ rfl; (repeat apply bkS); refine bkP (cs := #[.int .i64 x404000_1, .slice none 0 0, .slice none 0 0]) ?_ 1 _ rfl; (repeat apply bkS); refine bkP (cs := #[.int .i64 0, .slice none 0 0, .slice none 0 0]) ?_ 0 _ rfl; (repeat apply bkS); exact BK389.out) Try.underlying58 rfl (by kernel_rfl)) rfl ?_
       exact ⟨_, _, by first | rfl | (simp [*, errW_none, errW_some] <;> rfl), by (repeat apply Kd.RS); exact Kd.R_mono (Kd.R_far (p := ⟨gb389, 2, none⟩) (Kd.R_far (p := ⟨gb389, 1, none⟩) (Kd.R_far (p := ⟨gb389, 0, none⟩) (Kd.R_types HO_404001.out BK389.out (by decide)) (fun _ hk => hk.2) (.int .i64 x404000_1)) (fun _ hk => hk.2) (.slice (some ⟨go69, 0, none⟩) x404001_1.length co69)) (fun _ hk => hk.2) (.slice Ao80 x404002_1.length co80)) (fun _ hk => trivial), by (repeat apply Kd.SS); exact Kd.S_mono (Kd.S_far (p := ⟨gb389, 2, none⟩) (Kd.S_far (p := ⟨gb389, 1, none⟩) (Kd.S_far (p := ⟨gb389, 0, none⟩) (Kd.S_types HO_404002.out BK389.out (by decide)) (fun _ hk => hk.2) (.int .i64 x404000_1)) (fun _ hk => hk.2) (.slice (some ⟨go69, 0, none⟩) x404001_1.length co69)) (fun _ hk => hk.2) (.slice Ao80 x404002_1.length co80)) (fun _ hk => hk.1.2), by repeat (with_reducible first | exact HI0.out | refine Iz.below ?_ StB.b | apply Iz.set_1 | refine Iz.far ?_ aX _), by repeat (with_reducible first | exact HB.out | apply bwX | refine bwS ?_ (Iz.ge HI0.out) | refine bwS ?_ GE389.out | refine bwS ?_ GE403.out), by repeat (with_reducible first | exact HK.out | apply Kbt.set_ | apply kpX | refine kpF ?_ GW389.out _ | refine kpF ?_ GW403.out _)⟩
      ·rw [if_neg c67] at H
       have c67b0 : (t420 == 1) = false := beq_eq_false_iff_ne.mpr c67
       have c67b1 : (t420 != 1) = true := bne_iff_ne.mpr c67
       obtain ⟨y423, hy423⟩ : ∃ y_ : List Int, y_ = (([1] : List Int)) := ⟨_, rfl⟩
       replace H : (if x404002_1.length < 5864062014805 then (some (x404000_1, x404001_1, (x404002_1 ++ [y423]), t421)) else (none)) = some (r1, r2, r3, r4) := by first | (rw [hy423]; with_reducible exact H) | (have H2_ := (Option.bind_some _ _).symm.trans H; rw [hy423]; with_reducible exact H2_) | (have H2_ := (Option.bind_some _ _).symm.trans H; with_reducible exact H2_) | with_reducible exact H | (rw [hy423]; exact H) | exact H
       have Ny423 := Asd.mk hy423
       clear hy423
       by_cases c81 : x404002_1.length < 5864062014805; rotate_left; (rw [if_neg c81] at H; exact absurd H (by simp))
       rw [if_pos c81] at H
       have LMc81 := Asd.mk c81
       clear c81
       obtain ⟨y426, hy426⟩ : ∃ y_ : List (List Int), y_ = (x404002_1 ++ [y423]) := ⟨_, rfl⟩
       replace H : (some (x404000_1, x404001_1, y426, t421)) = some (r1, r2, r3, r4) := by first | (rw [hy426]; with_reducible exact H) | (have H2_ := (Option.bind_some _ _).symm.trans H; rw [hy426]; with_reducible exact H2_) | (have H2_ := (Option.bind_some _ _).symm.trans H; with_reducible exact H2_) | with_reducible exact H | (rw [hy426]; exact H) | exact H
       have Ny426 := Asd.mk hy426
       clear hy426
       simp only [Option.some.injEq, Prod.mk.injEq] at H
       obtain ⟨rfl, rfl, rfl, rfl⟩ := H
       go_wp2_with (first | ((with_reducible refine gate_callee (f := 81) rfl ?_); refine gsM (some 35) rfl rfl Try.func81 (by kernel_rfl) rfl #[.pointer (some ⟨g, 0, none⟩), .int .i64 a1] rfl ?_; (with_reducible refine (spec_l20Rd_odd.calls k1 g s0_0 x1001_1 a1 true t419 w0 _ ?side1 ?side2 A54.out).mono ?_); (case side1 => repeat (with_reducible first | exact HI0.out | refine Iz.below ?_ StB.b | apply Iz.set_1 | refine Iz.far ?_ aX _)); (case side2 => repeat (with_reducible first | exact HB.out | apply bwX | refine bwS ?_ (Iz.ge HI0.out) | refine bwS ?_ GE389.out | refine bwS ?_ GE403.out)); rintro e w82 ⟨rfl, hi, hb, hk⟩; refine ⟨_, rfl, ?_⟩; have n0_ := Asd.mk (Kd.R_mono (Kd.R_keep (Iz.apart (show Iz w0 _ g s0_0 x1001_1 from by repeat (with_reducible first | exact HI0.out | refine Iz.below ?_ StB.b | apply Iz.set_1 | refine Iz.far ?_ aX _)) (by (repeat apply Kd.RS); exact HO_404001.out) (by decide)) hk (fun _ h => h.2)) (fun _ h => h.1)); have n1_ := Asd.mk (Kd.S_mono (Kd.S_keep (Iz.apartS (show Iz w0 _ g s0_0 x1001_1 from by repeat (with_reducible first | exact HI0.out | refine Iz.below ?_ StB.b | apply Iz.set_1 | refine Iz.far ?_ aX _)) (by (repeat apply Kd.SS); exact HO_404002.out) (by decide)) hk (fun _ h => h.2)) (fun _ h => h.1)); have n2_ := Asd.mk (Kbt.blk hk (g' := gb389) (o := .cells #[.int .i64 0, .slice none 0 0, .slice none 0 0] 58 (0, 0)) (by (repeat apply bkS); exact BK389.out) NB389_0.out (by simp)); have n3_ := Asd.mk (Kbt.blk hk (g' := gb403) (o := .cells #[.int .i64 x404000_1, u404001, u404002] 58 (0, 0)) (by (repeat apply bkS); exact BK403.out) NB403_0.out (by simp)); have n4_ := Asd.mk (Kbt.trans (by repeat (with_reducible first | exact HK.out | apply Kbt.set_ | apply kpX | refine kpF ?_ GW389.out _ | refine kpF ?_ GW403.out _)) hk (.inl rfl)); have n5_ := Asd.mk (hb); have n6_ := Asd.mk (hi); clear HO_404001; clear HO_404002; clear BK389; clear BK403; clear HK; clear HB; clear HI0; have HO_404001 := n0_; have HO_404002 := n1_; have BK389 := n2_; have BK403 := n3_; have HK := n4_; have HB := n5_; have HI0 := n6_; clear n0_ n1_ n2_ n3_ n4_ n5_ n6_; (try clear hb); (try clear hb2); (try clear hk); (try clear hi)) | ((with_reducible refine gate_callee (f := 82) rfl ?_); refine gsM (some 37) rfl rfl Try.func82 (by kernel_rfl) rfl #[.pointer (some ⟨g, 0, none⟩), .int .i64 3] rfl ?_; (with_reducible refine (spec_l20Rd_pick.calls k1 g s0_0 t419 3 t420 t421 w0 _ ?side1 ?side2 A56.out).mono ?_); (case side1 => repeat (with_reducible first | exact HI0.out | refine Iz.below ?_ StB.b | apply Iz.set_1 | refine Iz.far ?_ aX _)); (case side2 => repeat (with_reducible first | exact HB.out | apply bwX | refine bwS ?_ (Iz.ge HI0.out) | refine bwS ?_ GE389.out | refine bwS ?_ GE403.out)); rintro e w83 ⟨rfl, hi, hb, hk⟩; refine ⟨_, rfl, ?_⟩; have n0_ := Asd.mk (Kd.R_mono (Kd.R_keep (Iz.apart (show Iz w0 _ g s0_0 t419 from by repeat (with_reducible first | exact HI0.out | refine Iz.below ?_ StB.b | apply Iz.set_1 | refine Iz.far ?_ aX _)) (by (repeat apply Kd.RS); exact HO_404001.out) (by decide)) hk (fun _ h => h.2)) (fun _ h => h.1)); have n1_ := Asd.mk (Kd.S_mono (Kd.S_keep (Iz.apartS (show Iz w0 _ g s0_0 t419 from by repeat (with_reducible first | exact HI0.out | refine Iz.below ?_ StB.b | apply Iz.set_1 | refine Iz.far ?_ aX _)) (by (repeat apply Kd.SS); exact HO_404002.out) (by decide)) hk (fun _ h => h.2)) (fun _ h => h.1)); have n2_ := Asd.mk (Kbt.blk hk (g' := gb389) (o := .cells #[.int .i64 0, .slice none 0 0, .slice none 0 0] 58 (0, 0)) (by (repeat apply bkS); exact BK389.out) NB389_0.out (by simp)); have n3_ := Asd.mk (Kbt.blk hk (g' := gb403) (o := .cells #[.int .i64 x404000_1, u404001, u404002] 58 (0, 0)) (by (repeat apply bkS); exact BK403.out) NB403_0.out (by simp)); have n4_ := Asd.mk (Kbt.trans (by repeat (with_reducible first | exact HK.out | apply Kbt.set_ | apply kpX | refine kpF ?_ GW389.out _ | refine kpF ?_ GW403.out _)) hk (.inl rfl)); have n5_ := Asd.mk (hb); have n6_ := Asd.mk (hi); clear HO_404001; clear HO_404002; clear BK389; clear BK403; clear HK; clear HB; clear HI0; have HO_404001 := n0_; have HO_404002 := n1_; have BK389 := n2_; have BK403 := n3_; have HK := n4_; have HB := n5_; have HI0 := n6_; clear n0_ n1_ n2_ n3_ n4_ n5_ n6_; (try clear hb); (try clear hb2); (try clear hk); (try clear hi); have hnb84 := NB403_389.out; have hnc84 := NB389_403.out; have hnb85 := NB403_0.out; have hnc85 := NB0_403.out; have hcz86_0 : w83.cell? ⟨gb403, 0, none⟩ = some (.int .i64 x404000_1) := (bkC BK403.out 0).trans rfl; have hcz86_1 : w83.cell? ⟨gb403, 1, none⟩ = some (u404001) := (bkC BK403.out 1).trans rfl; have hcz86_2 : w83.cell? ⟨gb403, 2, none⟩ = some (u404002) := (bkC BK403.out 2).trans rfl; have hfz86_0 := bkF BK403.out 0; have hfz86_1 := bkF BK403.out 1; have hfz86_2 := bkF BK403.out 2) | ((with_reducible refine gate_dst (N := 40) rfl ?_); refine Kd.R_lit (Kd.int .i64) _ 3 ?hg (N := 40) ?hd (xs := ([1] : List Int)) (inner := [.int .i64 1]) (ok := fun _ => True) (okp := fun _ => True) ?hr ?hp (fun _ hk => hk) trivial (Below.refl _ _) (Nat.le_refl _) (by simp) ?_; (case hd => rfl); (case hg => rfl); (case hr => first | (go_simp; done) | (go_simp; rfl)); (case hp => exact (Reps.one (show Kd.M (Kd.int .i64) _ _ _ 1 [.int .i64 1] from rfl) (Reps.none _ _))); intro v424 w87 ho88 hb hg_ hnew_; clear hg_ hnew_; (first | rw [← Ny423.out] at ho88 | (simp only [Int.reduceToNat] at ho88; rw [← Ny423.out] at ho88)); have n0_ := Asd.mk (Kd.R_elder' (by (repeat apply Kd.RS); exact HO_404001.out) (Kd.R_base ho88) hb); have n1_ := Asd.mk (Kd.S_elder' (by (repeat apply Kd.SS); exact HO_404002.out) (Kd.R_base ho88) hb); have n2_ := Asd.mk (Kd.R_lower (Kd.R_new' ho88 (Kd.R_lt (by (repeat apply Kd.RS); exact HO_404001.out))) (kpZ (w := w) (g := g) (row := none) (by repeat (with_reducible first | exact HK.out | apply Kbt.set_ | apply kpX | refine kpF ?_ GW389.out _ | refine kpF ?_ GW403.out _)))); have n3_ := Asd.mk (bkB (g := gb389) (o := .cells #[.int .i64 0, .slice none 0 0, .slice none 0 0] 58 (0, 0)) (by (repeat apply bkS); exact BK389.out) hb); have n4_ := Asd.mk (bkB (g := gb403) (o := .cells #[.int .i64 x404000_1, u404001, u404002] 58 (0, 0)) (by (repeat apply bkS); exact BK403.out) hb); have n5_ := Asd.mk (Iz.below (by repeat (with_reducible first | exact HI0.out | refine Iz.below ?_ StB.b | apply Iz.set_1 | refine Iz.far ?_ aX _)) hb); have n6_ := Asd.mk (Kbt.trans (by repeat (with_reducible first | exact HK.out | apply Kbt.set_ | apply kpX | refine kpF ?_ GW389.out _ | refine kpF ?_ GW403.out _)) (Kbt.of_below hb g none) (.inl rfl)); have n7_ := Asd.mk (bwP (by repeat (with_reducible first | exact HB.out | apply bwX | refine bwS ?_ (Iz.ge HI0.out) | refine bwS ?_ GE389.out | refine bwS ?_ GE403.out)) hb); clear HO_404001; clear HO_404002; clear BK389; clear BK403; clear HI0; clear HK; clear HB; have HO_404001 := n0_; have HO_404002 := n1_; have HO425 := n2_; have BK389 := n3_; have BK403 := n4_; have HI0 := n5_; have HK := n6_; have HB := n7_; clear n0_ n1_ n2_ n3_ n4_ n5_ n6_ n7_; clear hb ho88; obtain ⟨Ao90, co90, eo90⟩ := Kd.R_slice HO425.out; subst eo90) | ((with_reducible refine gate_builtin (b := .append) (xs := #[.tmp 39, .tmp 41]) rfl ?_); at_builtin; refine Kd.S_append (Kd.slice 3 (Kd.int .i64)) w.heap.size rfl (.tmp 39) (.tmp 41) 56 55 (.slice none 0 0) 24 rfl Try.underlying56 info55 rfl (by decide) (by omega) u404002 x404002_1 y423 [.slice Ao90 y423.length co90] (fun k_ => some k_ ≠ (u404001 : Value).ownBlock) (fun k_ => some k_ = (.slice Ao90 y423.length co90 : Value).ownBlock) rfl rfl ?aP (fun k_ hk_ => ((Kd.R_mono (ok' := fun k_ => ((fun k_ => some k_ ≠ (u404001 : Value).ownBlock)) k_ ∧ some k_ ≠ (u404002 : Value).ownBlock) (Kd.R_apart' (HO425.out) (Kd.S_typed HO_404002.out) (by decide)) (fun k_ hk => ⟨hk.1.2, hk.2⟩))).1 k_ hk_.symm) ?aF ?aO (Below.refl _ _) ?aS ?aL ?_; (case aP => exact Kd.M_row (Kd.R_mono (Kd.R_tight rfl (Kd.R_mono (ok' := fun k_ => ((fun k_ => some k_ ≠ (u404001 : Value).ownBlock)) k_ ∧ some k_ ≠ (u404002 : Value).ownBlock) (Kd.R_apart' (HO425.out) (Kd.S_typed HO_404002.out) (by decide)) (fun k_ hk => ⟨hk.1.2, hk.2⟩))) (fun _ h_ => h_))); (case aF => exact (fun k_ hk => Kd.fresh' (Kd.R_lt (by (repeat apply Kd.RS); exact HO_404001.out)) k_ hk)); (case aO => exact (by (repeat apply Kd.SS); exact Kd.S_mono HO_404002.out (fun k_ hk => ⟨hk.1, fun e_ => hk.2 e_⟩))); (case aS => exact (kpZ (w := w) (g := g) (row := none) (by repeat (with_reducible first | exact HK.out | apply Kbt.set_ | apply kpX | refine kpF ?_ GW389.out _ | refine kpF ?_ GW403.out _)))); (case aL => have := LMc81.out; omega); intro v427 w89 ho hb hg hat; rw [← Ny426.out] at ho; have n0_ := Asd.mk (Kd.R_over' (by (repeat apply Kd.RS); exact HO_404001.out) (Kd.S_typed (by (repeat apply Kd.SS); exact HO_404002.out)) (by decide) hg); have n1_ := Asd.mk (blk_grown (g := gb389) (o := .cells #[.int .i64 0, .slice none 0 0, .slice none 0 0] 58 (0, 0)) (by (repeat apply bkS); exact BK389.out) hg (Kd.S_ne HO_404002.out BK389.out (by decide))); have n2_ := Asd.mk (blk_grown (g := gb403) (o := .cells #[.int .i64 x404000_1, u404001, u404002] 58 (0, 0)) (by (repeat apply bkS); exact BK403.out) hg (Kd.S_ne HO_404002.out BK403.out (by decide))); have n3_ := Asd.mk (Iz.grown (by repeat (with_reducible first | exact HI0.out | refine Iz.below ?_ StB.b | apply Iz.set_1 | refine Iz.far ?_ aX _)) hg (Iz.own_neS HI0.out HO_404002.out (by decide))); have n4_ := Asd.mk (below_weaken (by repeat (with_reducible first | exact HB.out | apply bwX | refine bwS ?_ (Iz.ge HI0.out) | refine bwS ?_ GE389.out | refine bwS ?_ GE403.out)) HL.out hb); have n5_ := Asd.mk (Kbt.trans (by repeat (with_reducible first | exact HK.out | apply Kbt.set_ | apply kpX | refine kpF ?_ GW389.out _ | refine kpF ?_ GW403.out _)) (Kbt.of_grown hg g) (Kd.S_base2 HO_404002.out)); have n6_ := Asd.mk (ho); clear HO_404001; clear BK389; clear BK403; clear HI0; clear HB; clear HK; clear HO_404002; clear HO425; have HO_404001 := n0_; have BK389 := n1_; have BK403 := n2_; have HI0 := n3_; have HB := n4_; have HK := n5_; have HO428 := n6_; clear n0_ n1_ n2_ n3_ n4_ n5_ n6_; clear ho hb hg hat; obtain ⟨Ao91, co91, eo91⟩ := Kd.S_slice HO428.out; subst eo91; have hcz92_0 : w89.cell? ⟨gb403, 0, none⟩ = some (.int .i64 x404000_1) := (bkC BK403.out 0).trans rfl; have hcz92_1 : w89.cell? ⟨gb403, 1, none⟩ = some (u404001) := (bkC BK403.out 1).trans rfl; have hcz92_2 : w89.cell? ⟨gb403, 2, none⟩ = some (u404002) := (bkC BK403.out 2).trans rfl; have hfz92_0 := bkF BK403.out 0; have hfz92_1 := bkF BK403.out 1; have hfz92_2 := bkF BK403.out 2; have hnb93 := NB389_0.out; have hnc93 := NB0_389.out; have hcz94_0 : w89.cell? ⟨gb389, 0, none⟩ = some (.int .i64 0) := (bkC BK389.out 0).trans rfl; have hcz94_1 : w89.cell? ⟨gb389, 1, none⟩ = some (.slice none 0 0) := (bkC BK389.out 1).trans rfl; have hcz94_2 : w89.cell? ⟨gb389, 2, none⟩ = some (.slice none 0 0) := (bkC BK389.out 2).trans rfl; have hfz94_0 := bkF BK389.out 0; have hfz94_1 := bkF BK389.out 1; have hfz94_2 := bkF BK389.out 2; obtain ⟨Ao95, co95, eo95⟩ := Kd.R_slice HO_404001.out; subst eo95))
       refine bodyPost_ret (results_cell_row rfl _ _ gb389 58 #[.int .i64 x404000_1, .slice Ao95 x404001_1.length co95, .slice Ao91 y426.length co91] (0, 0) _ rfl (by (repeat apply bkS); refine bkP (cs := #[.int .i64 x404000_1, .slice Ao95 x404001_1.length co95, .slice none 0 0]) ?_ 2 _ rfl; (repeat apply bkS); refine bkP (cs := #[.int .i64 x404000_1, .slice none 0 0, .slice none 0 0]) ?_ 1 _ rfl; (repeat apply bkS); refine bkP (cs := #[.int .i64 0, .slice none 0 0, .slice none 0 0]) ?_ 0 _ rfl; (repeat apply bkS); refine bkR ?_ NB389_403.out _; (repeat apply bkS); exact BK389.out) Try.underlying58 rfl (by kernel_rfl)) rfl ?_
       exact ⟨_, _, by first | rfl | (simp [*, errW_none, errW_some] <;> rfl), by (repeat apply Kd.RS); exact Kd.R_mono (Kd.R_far (p := ⟨gb389, 2, none⟩) (Kd.R_far (p := ⟨gb389, 1, none⟩) (Kd.R_far (p := ⟨gb389, 0, none⟩) (Kd.R_far (p := ⟨gb403, 2, none⟩) (Kd.R_types (Kd.R_types HO_404001.out BK403.out (by decide)) BK389.out (by decide)) (fun _ hk => hk.1.2) (.slice Ao91 y426.length co91)) (fun _ hk => hk.2) (.int .i64 x404000_1)) (fun _ hk => hk.2) (.slice Ao95 x404001_1.length co95)) (fun _ hk => hk.2) (.slice Ao91 y426.length co91)) (fun _ hk => trivial), by (repeat apply Kd.SS); exact Kd.S_mono (Kd.S_far (p := ⟨gb389, 2, none⟩) (Kd.S_far (p := ⟨gb389, 1, none⟩) (Kd.S_far (p := ⟨gb389, 0, none⟩) (Kd.S_far (p := ⟨gb403, 2, none⟩) (Kd.S_types (Kd.S_types HO428.out BK403.out (by decide)) BK389.out (by decide)) (fun _ hk => hk.1.2) (.slice Ao91 y426.length co91)) (fun _ hk => hk.2) (.int .i64 x404000_1)) (fun _ hk => hk.2) (.slice Ao95 x404001_1.length co95)) (fun _ hk => hk.2) (.slice Ao91 y426.length co91)) (fun _ hk => hk.1.1), by repeat (with_reducible first | exact HI0.out | refine Iz.below ?_ StB.b | apply Iz.set_1 | refine Iz.far ?_ aX _), by repeat (with_reducible first | exact HB.out | apply bwX | refine bwS ?_ (Iz.ge HI0.out) | refine bwS ?_ GE389.out | refine bwS ?_ GE403.out), by repeat (with_reducible first | exact HK.out | apply Kbt.set_ | apply kpX | refine kpF ?_ GW389.out _ | refine kpF ?_ GW403.out _)⟩
    ·replace c55 := Bool.eq_false_iff.mpr c55
     subst c55
     rw [if_neg (show ¬ (false = true) by decide)] at H
     simp only [Option.some.injEq, Prod.mk.injEq] at H
     obtain ⟨rfl, rfl, rfl, rfl⟩ := H
     go_wp2_with (first | ((with_reducible refine gate_callee (f := 81) rfl ?_); refine gsM (some 35) rfl rfl Try.func81 (by kernel_rfl) rfl #[.pointer (some ⟨g, 0, none⟩), .int .i64 a1] rfl ?_; (with_reducible refine (spec_l20Rd_odd.calls k1 g s0_0 x1001_1 a1 false t419 w0 _ ?side1 ?side2 A54.out).mono ?_); (case side1 => repeat (with_reducible first | exact HI0.out | refine Iz.below ?_ StB.b | apply Iz.set_1 | refine Iz.far ?_ aX _)); (case side2 => repeat (with_reducible first | exact HB.out | apply bwX | refine bwS ?_ (Iz.ge HI0.out) | refine bwS ?_ GE389.out | refine bwS ?_ GE403.out)); rintro e w96 ⟨rfl, hi, hb, hk⟩; refine ⟨_, rfl, ?_⟩; have n0_ := Asd.mk (Kd.R_mono (Kd.R_keep (Iz.apart (show Iz w0 _ g s0_0 x1001_1 from by repeat (with_reducible first | exact HI0.out | refine Iz.below ?_ StB.b | apply Iz.set_1 | refine Iz.far ?_ aX _)) (by (repeat apply Kd.RS); exact HO_404001.out) (by decide)) hk (fun _ h => h.2)) (fun _ h => h.1)); have n1_ := Asd.mk (Kd.S_mono (Kd.S_keep (Iz.apartS (show Iz w0 _ g s0_0 x1001_1 from by repeat (with_reducible first | exact HI0.out | refine Iz.below ?_ StB.b | apply Iz.set_1 | refine Iz.far ?_ aX _)) (by (repeat apply Kd.SS); exact HO_404002.out) (by decide)) hk (fun _ h => h.2)) (fun _ h => h.1)); have n2_ := Asd.mk (Kbt.blk hk (g' := gb389) (o := .cells #[.int .i64 0, .slice none 0 0, .slice none 0 0] 58 (0, 0)) (by (repeat apply bkS); exact BK389.out) NB389_0.out (by simp)); have n3_ := Asd.mk (Kbt.blk hk (g' := gb403) (o := .cells #[.int .i64 x404000_1, u404001, u404002] 58 (0, 0)) (by (repeat apply bkS); exact BK403.out) NB403_0.out (by simp)); have n4_ := Asd.mk (Kbt.trans (by repeat (with_reducible first | exact HK.out | apply Kbt.set_ | apply kpX | refine kpF ?_ GW389.out _ | refine kpF ?_ GW403.out _)) hk (.inl rfl)); have n5_ := Asd.mk (hb); have n6_ := Asd.mk (hi); clear HO_404001; clear HO_404002; clear BK389; clear BK403; clear HK; clear HB; clear HI0; have HO_404001 := n0_; have HO_404002 := n1_; have BK389 := n2_; have BK403 := n3_; have HK := n4_; have HB := n5_; have HI0 := n6_; clear n0_ n1_ n2_ n3_ n4_ n5_ n6_; (try clear hb); (try clear hb2); (try clear hk); (try clear hi); have hnb97 := NB403_389.out; have hnc97 := NB389_403.out; have hnb98 := NB403_0.out; have hnc98 := NB0_403.out; have hcz99_0 : w96.cell? ⟨gb403, 0, none⟩ = some (.int .i64 x404000_1) := (bkC BK403.out 0).trans rfl; have hcz99_1 : w96.cell? ⟨gb403, 1, none⟩ = some (u404001) := (bkC BK403.out 1).trans rfl; have hcz99_2 : w96.cell? ⟨gb403, 2, none⟩ = some (u404002) := (bkC BK403.out 2).trans rfl; have hfz99_0 := bkF BK403.out 0; have hfz99_1 := bkF BK403.out 1; have hfz99_2 := bkF BK403.out 2; have hnb100 := NB389_0.out; have hnc100 := NB0_389.out; have hcz101_0 : w96.cell? ⟨gb389, 0, none⟩ = some (.int .i64 0) := (bkC BK389.out 0).trans rfl; have hcz101_1 : w96.cell? ⟨gb389, 1, none⟩ = some (.slice none 0 0) := (bkC BK389.out 1).trans rfl; have hcz101_2 : w96.cell? ⟨gb389, 2, none⟩ = some (.slice none 0 0) := (bkC BK389.out 2).trans rfl; have hfz101_0 := bkF BK389.out 0; have hfz101_1 := bkF BK389.out 1; have hfz101_2 := bkF BK389.out 2; obtain ⟨Ao102, co102, eo102⟩ := Kd.R_slice HO_404001.out; subst eo102; obtain ⟨Ao103, co103, eo103⟩ := Kd.S_slice HO_404002.out; subst eo103))
     refine bodyPost_ret (results_cell_row rfl _ _ gb389 58 #[.int .i64 x404000_1, .slice Ao102 x404001_1.length co102, .slice Ao103 x404002_1.length co103] (0, 0) _ rfl (by (repeat apply bkS); refine bkP (cs := #[.int .i64 x404000_1, .slice Ao102 x404001_1.length co102, .slice none 0 0]) ?_ 2 _ rfl; (repeat apply bkS); refine bkP (cs := #[.int .i64 x404000_1, .slice none 0 0, .slice none 0 0]) ?_ 1 _ rfl; (repeat apply bkS); refine bkP (cs := #[.int .i64 0, .slice none 0 0, .slice none 0 0]) ?_ 0 _ rfl; (repeat apply bkS); exact BK389.out) Try.underlying58 rfl (by kernel_rfl)) rfl ?_
     exact ⟨_, _, by first | rfl | (simp [*, errW_none, errW_some] <;> rfl), by (repeat apply Kd.RS); exact Kd.R_mono (Kd.R_far (p := ⟨gb389, 2, none⟩) (Kd.R_far (p := ⟨gb389, 1, none⟩) (Kd.R_far (p := ⟨gb389, 0, none⟩) (Kd.R_types HO_404001.out BK389.out (by decide)) (fun _ hk => hk.2) (.int .i64 x404000_1)) (fun _ hk => hk.2) (.slice Ao102 x404001_1.length co102)) (fun _ hk => hk.2) (.slice Ao103 x404002_1.length co103)) (fun _ hk => trivial), by (repeat apply Kd.SS); exact Kd.S_mono (Kd.S_far (p := ⟨gb389, 2, none⟩) (Kd.S_far (p := ⟨gb389, 1, none⟩) (Kd.S_far (p := ⟨gb389, 0, none⟩) (Kd.S_types HO_404002.out BK389.out (by decide)) (fun _ hk => hk.2) (.int .i64 x404000_1)) (fun _ hk => hk.2) (.slice Ao102 x404001_1.length co102)) (fun _ hk => hk.2) (.slice Ao103 x404002_1.length co103)) (fun _ hk => hk.1), by repeat (with_reducible first | exact HI0.out | refine Iz.below ?_ StB.b | apply Iz.set_1 | refine Iz.far ?_ aX _), by repeat (with_reducible first | exact HB.out | apply bwX | refine bwS ?_ (Iz.ge HI0.out) | refine bwS ?_ GE389.out | refine bwS ?_ GE403.out), by repeat (with_reducible first | exact HK.out | apply Kbt.set_ | apply kpX | refine kpF ?_ GW389.out _ | refine kpF ?_ GW403.out _)⟩

end Go.Proofs.Ytihgpkohglcijaa.P
