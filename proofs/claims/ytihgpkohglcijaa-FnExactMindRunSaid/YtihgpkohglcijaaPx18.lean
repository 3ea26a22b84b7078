-- Written by a program of this session (wip/hook.py), which runs the kit's printer; Lean checks it.
import Derived.Test.YtihgpkohglcijaaPx0
import Derived.Test.YtihgpkohglcijaaPx12
import Derived.Test.YtihgpkohglcijaaPx14
import Derived.Test.YtihgpkohglcijaaPx17
namespace Go.Proofs.Ytihgpkohglcijaa.P
open Go.RowKit Go.Proofs.YtihgpkohglcijaaW.PrintWords Go.Proofs.YtihgpkohglcijaaW.PrintLast Go.Proofs.YtihgpkohglcijaaW.PrintMore
attribute [local go_sem] max2_int min2_int max_two min_two max_three min_three max_four min_four   -- for this text's walks alone
set_option linter.unusedVariables false
set_option linter.unusedSimpArgs false

abbrev Mk18_0 : Array Bool := #[false, false, false, false, false, false, false, false, false, false, false, false]
abbrev Mk18_1 : Array Bool := #[false, true, false, false, false, false, false, false, false, false, false, false]
abbrev Mk18_2 : Array Bool := #[false, true, true, false, false, false, false, false, false, false, false, false]
abbrev Mk18_3 : Array Bool := #[false, true, true, true, false, false, false, false, false, false, false, false]
abbrev Mk18_4 : Array Bool := #[true, true, true, true, false, false, false, false, false, false, false, false]
abbrev Mk18_5 : Array Bool := #[true, true, true, true, true, false, false, false, false, false, false, false]
abbrev Mk18_6 : Array Bool := #[true, true, true, true, true, false, false, false, false, true, false, false]
abbrev Mk18_7 : Array Bool := #[true, true, true, true, true, true, false, false, false, false, false, false]
abbrev Mk18_8 : Array Bool := #[true, true, true, true, true, true, false, false, false, true, false, false]
abbrev Mk18_9 : Array Bool := #[true, true, true, true, true, true, true, false, false, false, false, false]
abbrev Mk18_10 : Array Bool := #[true, true, true, true, true, true, true, false, false, true, false, false]
abbrev Mk18_11 : Array Bool := #[true, true, true, true, true, true, true, true, false, false, false, false]
abbrev Mk18_12 : Array Bool := #[true, true, true, true, true, true, true, true, false, true, false, false]
abbrev Mk18_13 : Array Bool := #[true, true, true, true, true, true, true, true, true, false, false, false]
abbrev Mk18_14 : Array Bool := #[true, true, true, true, true, true, true, true, true, true, false, false]
abbrev Mk18_15 : Array Bool := #[true, true, true, true, true, true, true, true, true, true, true, false]
abbrev Mk18_16 : Array Bool := #[true, true, true, true, true, true, true, true, true, true, true, true]
/-! ### spec_MindRun: function 71 -/
mutual
def spec_MindRun.j0 : Nat → List (S26) → Bool → Int → List Int → List (List Int) → Option (Int × List Int × (List (List Int)) × Int)
 | 0, _, _, _, _, _ => none
 | k + 1, x1, x18, x464000, x464001, x464002 => if x18 = true then (some (0, ([] : List Int), ([] : List (List Int)), 0)) else ((spec_l10Copy.f k x464000 x464001 x464002).bind fun bt466 => (spec_MindRun.l0 k x1 0 0 bt466.1 bt466.2.1 bt466.2.2))
def spec_MindRun.l0 : Nat → List (S26) → Int → Int → Int → List Int → List (List Int) → Option (Int × List Int × (List (List Int)) × Int)
 | 0, _, _, _, _, _, _ => none
 | k + 1, x1, x7, x8, x474000, x474001, x474002 => if x8 < (x1.length : Int) then (if 0 ≤ x8 then ((spec_MindDo.f k x474000 x474001 x474002 ((rd_T26 x1 x8).f0) ((rd_T26 x1 x8).f1)).bind fun bt475 => (if bt475.2.2.2 = true then (spec_MindRun.l0 k x1 (wrap64 (x7 + 1)) (wrap64 (x8 + 1)) bt475.1 bt475.2.1 bt475.2.2.1) else (spec_MindRun.l0 k x1 x7 (wrap64 (x8 + 1)) x474000 x474001 x474002))) else (none)) else (some (x474000, x474001, x474002, x7))
end
def spec_MindRun.f (k : Nat) (a0_0 : Int) (l0_1 : List Int) (l0_2 : List (List Int)) (l1 : List (S26)) : Option (Int × List Int × (List (List Int)) × Int) := (spec_MindValid.f k a0_0 l0_1 l0_2).bind fun t465 => (if t465 = true then (spec_MindRun.j0 k l1 (decide ((l1.length : Int) > 40)) a0_0 l0_1 l0_2) else (spec_MindRun.j0 k l1 true a0_0 l0_1 l0_2))
theorem spec_MindRun.mono_l : ∀ k, (∀ y0 y1 y2 y3 y4, LeO (spec_MindRun.j0 k y0 y1 y2 y3 y4) (spec_MindRun.j0 (k + 1) y0 y1 y2 y3 y4)) ∧ (∀ y0 y1 y2 y3 y4 y5, LeO (spec_MindRun.l0 k y0 y1 y2 y3 y4 y5) (spec_MindRun.l0 (k + 1) y0 y1 y2 y3 y4 y5))
 | 0 => ⟨fun _ _ _ _ _ r h => by simp [spec_MindRun.j0] at h, fun _ _ _ _ _ _ r h => by simp [spec_MindRun.l0] at h⟩
 | k + 1 => by
  obtain ⟨ih0, ih1⟩ := spec_MindRun.mono_l k
  refine ⟨?_, ?_⟩
  ·intro y0 y1 y2 y3 y4
   unfold spec_MindRun.j0
   repeat' first
   | (with_reducible first | exact ih0 _ _ _ _ _ | exact ih1 _ _ _ _ _ _ | exact spec_MindDo.mono _ _ _ _ _ _ | exact spec_MindValid.mono _ _ _ _ | exact spec_l10Copy.mono _ _ _ _ | exact LeO.refl _ | exact LeO.none _ | refine LeO.ite ?_ ?_ | refine LeO.bind ?_ (fun _ => ?_))
   | refine LeO.ite ?_ ?_
   | refine LeO.bind ?_ (fun _ => ?_)
  ·intro y0 y1 y2 y3 y4 y5
   unfold spec_MindRun.l0
   repeat' first
   | (with_reducible first | exact ih0 _ _ _ _ _ | exact ih1 _ _ _ _ _ _ | exact spec_MindDo.mono _ _ _ _ _ _ | exact spec_MindValid.mono _ _ _ _ | exact spec_l10Copy.mono _ _ _ _ | exact LeO.refl _ | exact LeO.none _ | refine LeO.ite ?_ ?_ | refine LeO.bind ?_ (fun _ => ?_))
   | refine LeO.ite ?_ ?_
   | refine LeO.bind ?_ (fun _ => ?_)
theorem spec_MindRun.mono : ∀ a0 a1 a2 a3 k, LeO (spec_MindRun.f k a0 a1 a2 a3) (spec_MindRun.f (k + 1) a0 a1 a2 a3) := by
 intro a0 a1 a2 a3 k
 obtain ⟨ih0, ih1⟩ := spec_MindRun.mono_l k
 unfold spec_MindRun.f
 repeat' first
   | (with_reducible first | exact ih0 _ _ _ _ _ | exact ih1 _ _ _ _ _ _ | exact spec_MindDo.mono _ _ _ _ _ _ | exact spec_MindValid.mono _ _ _ _ | exact spec_l10Copy.mono _ _ _ _ | exact LeO.refl _ | exact LeO.none _ | refine LeO.ite ?_ ?_ | refine LeO.bind ?_ (fun _ => ?_))
   | refine LeO.ite ?_ ?_
   | refine LeO.bind ?_ (fun _ => ?_)
def spec_MindRun.T8 : Bool × List (List Nat × List Nat) := (true, [([], []), ([], []), ([], []), ([1, 2], [1, 2]), ([3], [3]), ([0, 4], [0, 4]), ([5], [5]), ([6], [6]), ([6], [6]), ([], []), ([9, 7, 5, 0, 1, 2, 3, 4, 5, 6, 7, 9], [7, 9]), ([8, 10, 0, 1, 2, 3, 4, 5, 6, 7, 8, 9, 10], [8])])
def spec_MindRun.B8 : List Nat := [0, 0, 0, 6, 14, 31, 63, 127, 127, 0, 767, 2047]
theorem spec_MindRun.tab8 : rtab .any (opsOf Try.f71 8) = spec_MindRun.T8 := by kernel_rfl
theorem spec_MindRun.bits8 : waitsOk spec_MindRun.T8.2 spec_MindRun.B8 = true := by kernel_rfl
set_option maxHeartbeats 8000000 in
set_option maxRecDepth 100000 in
theorem spec_MindRun.calls (k : Nat) (a0_0 : Int) (A0_1 : Option Addr) (c0_1 : Nat) (l0_1 : List Int) (A0_2 : Option Addr) (c0_2 : Nat) (l0_2 : List (List Int)) (A1 : Option Addr) (c1 : Nat) (l1 : List (S26)) (r1 : Int) (r2 : List Int) (r3 : List (List Int)) (r4 : Int) (w : World) (hr0_1 : Kd.C (Kd.int .i64) w A0_1 l0_1.length l0_1) (hc0_1 : l0_1.length ≤ c0_1) (hr0_2 : Kd.C (Kd.slice 3 (Kd.int .i64)) w A0_2 l0_2.length l0_2) (hc0_2 : l0_2.length ≤ c0_2) (hr1 : Kd.C k26 w A1 l1.length l1) (hc1 : l1.length ≤ c1) (h : spec_MindRun.f k a0_0 l0_1 l0_2 l1 = some (r1, r2, r3, r4)) :
  Calls Try.prog 71 #[.agg #[.int .i64 a0_0, .slice A0_1 l0_1.length c0_1, .slice A0_2 l0_2.length c0_2], .slice A1 l1.length c1] w fun e w' => ∃ v1_ v2_ : Value, e = .returned (.tuple #[.agg #[.int .i64 r1, v1_, v2_], .int .i64 r4]) ∧ Kd.R (Kd.int .i64) 3 w' w.heap.size (fun _ => True) v1_ r2 ∧ Kd.Q (Kd.slice 3 (Kd.int .i64)) 55 w' w.heap.size (fun k_ => some k_ ≠ (v1_ : Value).ownBlock) v2_ r3 ∧ Below w.heap.size w w' := by
 have hu58 := Try.underlying58
 have hu26 := Try.underlying26
 have HR0_1 := Asd.mk hr0_1
 have HC0_1 := Asd.mk hc0_1
 clear hr0_1 hc0_1
 have HR0_2 := Asd.mk hr0_2
 have HC0_2 := Asd.mk hc0_2
 clear hr0_2 hc0_2
 have HR1 := Asd.mk hr1
 have HC1 := Asd.mk hc1
 clear hr1 hc1
 have HB := Asd.mk (Below.refl w.heap.size w)
 have H : ((spec_MindValid.f k a0_0 l0_1 l0_2).bind fun t465 => (if t465 = true then (spec_MindRun.j0 k l1 (decide ((l1.length : Int) > 40)) a0_0 l0_1 l0_2) else (spec_MindRun.j0 k l1 true a0_0 l0_1 l0_2))) = some (r1, r2, r3, r4) := h
 clear h
 have HC3 := Asd.mk H
 clear H
 go_enter Try.func71, Try.ntmps71
 go_upto_region 1 with (first | ((with_reducible refine gate_dst (N := 2) rfl ?_); (try (refine gate_guard (by rfl) ?_; dsimp only)); refine bxE ?hg (N := 2) ?hd (cs := #[.int .i64 a0_0, .slice A0_1 l0_1.length c0_1, .slice A0_2 l0_2.length c0_2]) (t := 58) ?hr ?_; (case hd => rfl); (case hg => rfl); (case hr => first | (go_simp; done) | (go_simp; rfl)); intro gb463 hg w4 hbox hb; have BK463 := Asd.mk (hbox); have GW463 := bG HB hg; have GE463 := bG HB hg; replace HB := bW HB hb; clear hb hbox hg) | ((with_reducible refine gate_dst (N := 4) rfl ?_); (try (refine gate_guard (by rfl) ?_; dsimp only)); refine bxE ?hg (N := 4) ?hd (cs := #[.int .i64 0, .slice none 0 0, .slice none 0 0]) (t := 58) ?hr ?_; (case hd => rfl); (case hg => rfl); (case hr => first | (go_simp; done) | (go_simp; rfl)); intro gb464 hg w5 hbox hb; have BK464 := Asd.mk (hbox); have GW464 := bG HB hg; have GE464 := bG HB hg; replace HB := bW HB hb; have NB463_464 := bL BK463 hg; have NB464_463 := bM BK463 hg; replace BK463 := bU BK463 hb; clear hb hbox hg))
 (try simp only [Act.put, qA, qB, qC])
 go_cut [18] (fun v18 wc => ∃ (kq : Nat) (x18_2 : Bool), v18 = .bool x18_2 ∧ Asd (spec_MindRun.j0 kq l1 x18_2 a0_0 l0_1 l0_2 = some (r1, r2, r3, r4)) ∧ Asd (kq ≤ k) ∧ Asd (wc.heap[gb463]? = some (.cells #[.int .i64 a0_0, (.slice A0_1 l0_1.length c0_1), (.slice A0_2 l0_2.length c0_2)] 58 (0, 0))) ∧ Asd (wc.heap[gb464]? = some (.cells #[.int .i64 0, (.slice none 0 0), (.slice none 0 0)] 58 (0, 0))) ∧ Asd (Below w.heap.size w wc))
 case first =>
  have H := HC3.out
  clear HC3
  replace H := Option.bind_eq_some_iff.mp H
  obtain ⟨t465, A60, H⟩ := H
  try dsimp only at H
  have A6 := Asd.mk A60
  clear A60
  by_cases c7 : t465 = true
  ·subst c7
   rw [if_pos rfl] at H
   have H' := Asd.mk H
   clear H
   have hnb8 := NB463_464.out
   have hnc8 := NB464_463.out
   obtain ⟨hcz9_0, hcz9_1, hcz9_2, hfz9_0, hfz9_1, hfz9_2⟩ := b3 BK463
   go_wp2_with (first | ((with_reducible refine gate_callee (f := 52) rfl ?_); refine gsM (some 12) rfl rfl Try.func52 (by kernel_rfl) rfl #[.agg #[.int .i64 a0_0, .slice A0_1 l0_1.length c0_1, .slice A0_2 l0_2.length c0_2]] rfl ?_; (with_reducible refine (spec_MindValid.calls k a0_0 _ _ l0_1 _ _ l0_2 true _ ?side1 ?side2 ?side3 ?side4 A6.out).mono ?_); (case side1 => exact cZ (Kd.C_below HR0_1.out HB.out)); (case side2 => exact HC0_1.out); (case side3 => exact cZ (Kd.C_below HR0_2.out HB.out)); (case side4 => exact HC0_2.out); rintro e w10 ⟨rfl, hb⟩; refine ⟨_, rfl, ?_⟩; replace BK463 := bU BK463 hb; replace BK464 := bU BK464 hb; replace HB := bW HB hb; (try clear hb); (try clear hb2); (try clear hk); (try clear hi)))
   go_meet
   case rel => exact ⟨_, (decide ((l1.length : Int) > 40)), (by first | rfl | (simp; done) | (simp [*]; done)), H', ⟨by first | omega | exact Nat.le_refl _⟩, ⟨kS BK463⟩, ⟨kS BK464⟩, ⟨wZ HB⟩⟩
  ·replace c7 := Bool.eq_false_iff.mpr c7
   subst c7
   rw [if_neg (show ¬ (false = true) by decide)] at H
   have H' := Asd.mk H
   clear H
   have hnb11 := NB463_464.out
   have hnc11 := NB464_463.out
   obtain ⟨hcz12_0, hcz12_1, hcz12_2, hfz12_0, hfz12_1, hfz12_2⟩ := b3 BK463
   go_wp2_with (first | ((with_reducible refine gate_callee (f := 52) rfl ?_); refine gsM (some 12) rfl rfl Try.func52 (by kernel_rfl) rfl #[.agg #[.int .i64 a0_0, .slice A0_1 l0_1.length c0_1, .slice A0_2 l0_2.length c0_2]] rfl ?_; (with_reducible refine (spec_MindValid.calls k a0_0 _ _ l0_1 _ _ l0_2 false _ ?side1 ?side2 ?side3 ?side4 A6.out).mono ?_); (case side1 => exact cZ (Kd.C_below HR0_1.out HB.out)); (case side2 => exact HC0_1.out); (case side3 => exact cZ (Kd.C_below HR0_2.out HB.out)); (case side4 => exact HC0_2.out); rintro e w13 ⟨rfl, hb⟩; refine ⟨_, rfl, ?_⟩; replace BK463 := bU BK463 hb; replace BK464 := bU BK464 hb; replace HB := bW HB hb; (try clear hb); (try clear hb2); (try clear hk); (try clear hi)))
   go_meet
   case rel => exact ⟨_, (true), (by first | rfl | (simp; done) | (simp [*]; done)), H', ⟨by first | omega | exact Nat.le_refl _⟩, ⟨kS BK463⟩, ⟨kS BK464⟩, ⟨wZ HB⟩⟩
 case rest =>
  clear HC3
  obtain ⟨kq, x18_2, rfl, HA, HJ2, BK463, BK464, HB⟩ := hcut
  cases kq with
  | zero => exact absurd HA.out (by simp [spec_MindRun.j0])
  | succ kj2 =>
   have H := HA.out
   clear HA
   simp only [spec_MindRun.j0] at H
   by_cases c14 : x18_2 = true
   ·subst c14
    rw [if_pos rfl] at H
    simp only [Option.some.injEq, Prod.mk.injEq] at H
    obtain ⟨rfl, rfl, rfl, rfl⟩ := H
    have hnb15 := NB464_463.out
    have hnc15 := NB463_464.out
    obtain ⟨hcz16_0, hcz16_1, hcz16_2, hfz16_0, hfz16_1, hfz16_2⟩ := b3 BK464
    go_wp2
    refine bodyPost_ret (results_ct rfl _ _ gb464 58 #[.int .i64 0, .slice none 0 0, .slice none 0 0] (0, 0) _ rfl (kP BK464) Try.underlying58 rfl (by kernel_rfl)) rfl ?_
    exact ⟨_, _, by first | rfl | (simp [*, errW_none, errW_some] <;> rfl), by first | exact Kd.R_nil _ _ _ _ _ | exact Kd.N_nil _ _ _ _ _ | exact Kd.V_nil _ _ _ _ _ | exact Kd.Q_nil _ _ _ _ _ | exact Kd.S_nil _ _ _ _ _, Kd.Q_of_R ((Kd.S_R (by first | exact Kd.S_nil _ _ _ _ _ | exact Kd.N_nil _ _ _ _ _ | exact Kd.V_nil _ _ _ _ _ | exact Kd.Q_nil _ _ _ _ _ | exact Kd.R_nil _ _ _ _ _))), wZ HB⟩
   ·replace c14 := Bool.eq_false_iff.mpr c14
    subst c14
    rw [if_neg (show ¬ (false = true) by decide)] at H
    replace H := Option.bind_eq_some_iff.mp H
    obtain ⟨⟨t466, t467, t470⟩, A170, H⟩ := H
    try dsimp only at H
    have A17 := Asd.mk A170
    clear A170
    have H' := Asd.mk H
    clear H
    have hnb18 := NB463_464.out
    have hnc18 := NB464_463.out
    obtain ⟨hcz19_0, hcz19_1, hcz19_2, hfz19_0, hfz19_1, hfz19_2⟩ := b3 BK463
    go_wp2_with (first | ((with_reducible refine gate_callee (f := 107) rfl ?_); refine gsM (some 21) rfl rfl Try.func107 (by kernel_rfl) rfl #[.agg #[.int .i64 a0_0, .slice A0_1 l0_1.length c0_1, .slice A0_2 l0_2.length c0_2]] rfl ?_; (with_reducible refine (spec_l10Copy.calls kj2 a0_0 _ _ l0_1 _ _ l0_2 t466 t467 t470 _ ?side1 ?side2 ?side3 ?side4 A17.out).mono ?_); (case side1 => exact cZ (Kd.C_below HR0_1.out HB.out)); (case side2 => exact HC0_1.out); (case side3 => exact cZ (Kd.C_below HR0_2.out HB.out)); (case side4 => exact HC0_2.out); rintro e w20 ⟨v468, v471, rfl, ho0, ho1, hb⟩; refine ⟨_, rfl, ?_⟩; have HO469 := Asd.mk (Kd.R_lower ho0 (below_size (wZ HB))); have HO472 := Asd.mk (Kd.S_lower ho1 (below_size (wZ HB))); replace BK463 := bU BK463 hb; replace BK464 := bU BK464 hb; replace HB := bW HB hb; (try clear hb); (try clear hb2); (try clear hk); (try clear hi); (try clear ho0); (try clear ho1)) | ((with_reducible refine gate_dst (N := 6) rfl ?_); (try (refine gate_guard (by rfl) ?_; dsimp only)); refine bxE ?hg (N := 6) ?hd (cs := #[.int .i64 0, .slice none 0 0, .slice none 0 0]) (t := 58) ?hr ?_; (case hd => rfl); (case hg => rfl); (case hr => first | (go_simp; done) | (go_simp; rfl)); intro gb473 hg w21 hbox hb; replace HO469 := bR HO469 hb; replace HO472 := bS HO472 hb; have BK473 := Asd.mk (hbox); have GW473 := bG HB hg; have GE473 := bG HB hg; replace HB := bW HB hb; have NB463_473 := bL BK463 hg; have NB473_463 := bM BK463 hg; replace BK463 := bU BK463 hb; have NB464_473 := bL BK464 hg; have NB473_464 := bM BK464 hg; replace BK464 := bU BK464 hb; clear hb hbox hg; have hnb22 := NB473_463.out; have hnc22 := NB463_473.out; have hnb23 := NB473_464.out; have hnc23 := NB464_473.out; obtain ⟨hcz24_0, hcz24_1, hcz24_2, hfz24_0, hfz24_1, hfz24_2⟩ := b3 BK473; obtain ⟨Ao25, co25, eo25⟩ := Kd.R_slice HO469.out; subst eo25; obtain ⟨Ao26, co26, eo26⟩ := Kd.S_slice HO472.out; subst eo26))
    go_loopg [7, 8] kj2 (fun kq v7 v8 w' => ∃ (x7_2 : Int) (x8_2 : Int) (x474000_2 : Int) (x474001_2 : List Int) (x474002_2 : List (List Int)) (u474001 : Value) (u474002 : Value), v7 = .int .i64 x7_2 ∧ v8 = .int .i64 x8_2 ∧ Asd (spec_MindRun.l0 kq l1 x7_2 x8_2 x474000_2 x474001_2 x474002_2 = some (r1, r2, r3, r4)) ∧ Asd (kq ≤ kj2) ∧ Asd (Kd.R (Kd.int .i64) 3 w' w.heap.size (fun _ => True) u474001 x474001_2) ∧ Asd (Kd.Q (Kd.slice 3 (Kd.int .i64)) 55 w' w.heap.size (fun k_ => some k_ ≠ (u474001 : Value).ownBlock) u474002 x474002_2) ∧ Asd (w'.heap[gb463]? = some (.cells #[.int .i64 a0_0, (.slice A0_1 l0_1.length c0_1), (.slice A0_2 l0_2.length c0_2)] 58 (0, 0))) ∧ Asd (w'.heap[gb464]? = some (.cells #[.int .i64 0, (.slice none 0 0), (.slice none 0 0)] 58 (0, 0))) ∧ Asd (w'.heap[gb473]? = some (.cells #[.int .i64 x474000_2, u474001, u474002] 58 (0, 0))) ∧ Asd (Below w.heap.size w w'))
    case atStart => exact ⟨(0), (0), (t466), (t467), (t470), (.slice Ao25 t467.length co25), (.slice Ao26 t470.length co26), (by first | rfl | (simp; done) | (simp [*]; done)), (by first | rfl | (simp; done) | (simp [*]; done)), H', ⟨Nat.le_refl _⟩, ⟨rT HO469⟩, ⟨Kd.Q_of_R ((Kd.S_R (sT HO472)))⟩, ⟨kS BK463⟩, ⟨kS BK464⟩, ⟨kP BK473⟩, ⟨wZ HB⟩⟩
    case round =>
     clear H'
     obtain ⟨x7_2, x8_2, x474000_2, x474001_2, x474002_2, u474001, u474002, rfl, rfl, HA, HK2, HO_474001, HO_474002, BK463, BK464, BK473, HB⟩ := hrel
     cases gk with
     | zero => exact absurd HA.out (by simp [spec_MindRun.l0])
     | succ k2 =>
      have H := HA.out
      clear HA
      simp only [spec_MindRun.l0] at H
      by_cases c27 : x8_2 < (l1.length : Int)
      ·rw [if_pos c27] at H
       have c27b0 : decide (x8_2 < (l1.length : Int)) = true := decide_eq_true c27
       clear c27
       by_cases c28 : 0 ≤ x8_2; rotate_left; (rw [if_neg c28] at H; exact absurd H (by simp))
       rw [if_pos c28] at H
       have c28b0 : decide (0 ≤ x8_2) = true := decide_eq_true c28
       clear c28
       replace H := Option.bind_eq_some_iff.mp H
       obtain ⟨⟨t475, t476, t479, t482⟩, A290, H⟩ := H
       try dsimp only at H
       have A29 := Asd.mk A290
       clear A290
       by_cases c30 : t482 = true
       ·subst c30
        rw [if_pos rfl] at H
        have H' := Asd.mk H
        clear H
        obtain ⟨Ao31, co31, eo31⟩ := Kd.R_slice HO_474001.out
        subst eo31
        obtain ⟨Ao32, co32, eo32, _⟩ := Kd.Q_slice HO_474002.out
        subst eo32
        try go_wp2
        replace HO_474001 := Asd.mk (Kd.R_drew HO_474001.out)
        replace HO_474002 := Asd.mk (Kd.Q_drew HO_474002.out)
        replace BK463 := Asd.mk (bkD BK463.out)
        replace BK464 := Asd.mk (bkD BK464.out)
        replace BK473 := Asd.mk (bkD BK473.out)
        replace HB := Asd.mk (bwD HB.out)
        have p474 : 0 ≤ (x8_2 : Int) := odt
        have q474 : x8_2 < (l1.length : Int) := odt
        obtain ⟨ad474, e474, hx474_0, hx474_1⟩ := at_T26 HR1.out x8_2 p474 q474
        have hw474_1 := hx474_1
        have hw474_0 := hx474_0
        cases e474
        replace hx474_0 := (HB.out.cell (World.block_lt_of_cell? w _ hx474_0)).trans hx474_0
        replace hx474_1 := (HB.out.cell (World.block_lt_of_cell? w _ hx474_1)).trans hx474_1
        replace p474 := eq_true p474
        replace q474 := eq_true q474
        refine start_ (n := 12) (S := fun w' => w'.cell? ⟨gb473, 0, none⟩ = some (.int .i64 x474000_2) ∧ w'.cell? ⟨gb473, 1, none⟩ = some (.slice Ao31 x474001_2.length co31) ∧ w'.cell? ⟨gb473, 2, none⟩ = some (.slice Ao32 x474002_2.length co32) ∧ w'.cell? (ad474.add ((x8_2).toNat * 2)) = some (.int .i64 ((rd_T26 l1 x8_2).f0)) ∧ w'.cell? ⟨(ad474.add ((x8_2).toNat * 2)).block, (ad474.add ((x8_2).toNat * 2)).off + 1, none⟩ = some (.string ((rd_T26 l1 x8_2).f1))) (ds := []) Mk18_0 (by kernel_rfl) rfl rfl ⟨(bkC BK473.out 0).trans rfl, (bkC BK473.out 1).trans rfl, (bkC BK473.out 2).trans rfl, ((HB.out.cell (World.block_lt_of_cell? w _ hw474_0)).trans hw474_0), ((HB.out.cell (World.block_lt_of_cell? w _ hw474_1)).trans hw474_1)⟩ (fun hHeld => ?_); refine with_tabW spec_MindRun.tab8 spec_MindRun.bits8 (fun HT_ HW_ => ?_)
        generalize wr.drew = w33 at HO_474001 HO_474002 BK463 BK464 BK473 HB hx474_0 hx474_1 hHeld ⊢
        refine pure_ (i := 1) (N := some 30) (v := ?_) (a' := ?_) Mk18_1 rfl rfl (any_of HT_.out (by kernel_rfl)) (fun _ _ _ h => h) (Or.inl ⟨by rfl, ?_⟩) ?_ ?_
        rotate_left
        ·intro w'
         go_simp
         with_reducible rfl
        rotate_left
        ·simp only [Act.put, qA, qB, qC, i64_w, i32_w]
         rfl
        refine pure_ (i := 2) (N := some 31) (v := ?_) (a' := ?_) Mk18_2 rfl rfl (any_of HT_.out (by kernel_rfl)) (fun _ _ _ h => h) (Or.inl ⟨by rfl, ?_⟩) ?_ ?_
        rotate_left
        ·intro w'
         go_simp
         with_reducible rfl
        rotate_left
        ·simp only [Act.put, qA, qB, qC, i64_w, i32_w]
         rfl
        refine pure_ (i := 3) (N := some 32) (v := ?_) (a' := ?_) Mk18_3 rfl rfl (any_of HT_.out (by kernel_rfl)) (fun _ _ _ h => h) (Or.inl ⟨by rfl, ?_⟩) ?_ ?_
        rotate_left
        ·intro w'
         go_simp
         with_reducible rfl
        rotate_left
        ·simp only [Act.put, qA, qB, qC, i64_w, i32_w]
         rfl
        refine take_ (i := 0) (N := some 29) (v := ?_) (a' := ?_) Mk18_4 rfl rfl (take_ofW HT_.out HW_.out (by kernel_rfl)) (fun _ _ _ h => h) (Or.inl ⟨by rfl, ?_⟩) hHeld ?_ ?_
        rotate_left
        ·rintro w' ⟨s0, s1, s2, s3, s4⟩
         go_simp
         with_reducible rfl
        rotate_left
        ·simp only [Act.put, qA, qB, qC, i64_w, i32_w]
         rfl
        refine take_ (i := 4) (N := some 33) (v := ?_) (a' := ?_) Mk18_5 rfl rfl (take_ofW HT_.out HW_.out (by kernel_rfl)) (fun _ _ _ h => h) (Or.inl ⟨by rfl, ?_⟩) hHeld ?_ ?_
        rotate_left
        ·rintro w' ⟨s0, s1, s2, s3, s4⟩
         go_simp
         with_reducible rfl
        rotate_left
        ·simp only [Act.put, qA, qB, qC, i64_w, i32_w]
         rfl
        refine join_ (σ := Value × Value × Nat) 2 Mk18_14 (fun s_ => [(34, .tuple #[.agg #[.int .i64 t475, s_.1, s_.2.1], .bool true]), (9, .pointer (some ⟨s_.2.2, 0, none⟩)), (28, .tuple #[.agg #[.int .i64 t475, s_.1, s_.2.1], .bool true]), (35, .agg #[.int .i64 t475, s_.1, s_.2.1]), (36, .bool true)]) (fun s_ w' => (w'.cell? ⟨gb473, 0, none⟩ = some (.int .i64 x474000_2) ∧ w'.cell? ⟨gb473, 1, none⟩ = some (.slice Ao31 x474001_2.length co31) ∧ w'.cell? ⟨gb473, 2, none⟩ = some (.slice Ao32 x474002_2.length co32) ∧ w'.cell? (ad474.add ((x8_2).toNat * 2)) = some (.int .i64 ((rd_T26 l1 x8_2).f0)) ∧ w'.cell? ⟨(ad474.add ((x8_2).toNat * 2)).block, (ad474.add ((x8_2).toNat * 2)).off + 1, none⟩ = some (.string ((rd_T26 l1 x8_2).f1))) ∧ (Kd.R (Kd.int .i64) 3 w' w.heap.size (fun k_ => some k_ ≠ (.slice Ao31 x474001_2.length co31 : Value).ownBlock) s_.1 t476) ∧ (Kd.Q (Kd.slice 3 (Kd.int .i64)) 55 w' w.heap.size (fun k_ => some k_ ≠ (s_.1 : Value).ownBlock ∧ some k_ ≠ (.slice Ao31 x474001_2.length co31 : Value).ownBlock ∧ some k_ ≠ (.slice Ao32 x474002_2.length co32 : Value).ownBlock) s_.2.1 t479) ∧ (Kd.R (Kd.int .i64) 3 w' w.heap.size (fun k_ => some k_ ≠ (s_.1 : Value).ownBlock) (.slice Ao31 x474001_2.length co31) x474001_2) ∧ (Kd.Q (Kd.slice 3 (Kd.int .i64)) 55 w' w.heap.size (fun k_ => some k_ ≠ (s_.1 : Value).ownBlock ∧ some k_ ≠ (s_.2.1 : Value).ownBlock ∧ some k_ ≠ (.slice Ao31 x474001_2.length co31 : Value).ownBlock) (.slice Ao32 x474002_2.length co32) x474002_2) ∧ (w'.heap[gb463]? = some (.cells #[.int .i64 a0_0, .slice A0_1 l0_1.length c0_1, .slice A0_2 l0_2.length c0_2] 58 (0, 0))) ∧ (w'.heap[gb464]? = some (.cells #[.int .i64 0, .slice none 0 0, .slice none 0 0] 58 (0, 0))) ∧ (w'.heap[gb473]? = some (.cells #[.int .i64 x474000_2, .slice Ao31 x474001_2.length co31, .slice Ao32 x474002_2.length co32] 58 (0, 0))) ∧ (w'.heap[s_.2.2]? = some (.cells #[.int .i64 0, .slice none 0 0, .slice none 0 0] 58 (0, 0))) ∧ (w.heap.size ≤ s_.2.2) ∧ (w.heap.size ≤ s_.2.2) ∧ (gb463 ≠ s_.2.2) ∧ (s_.2.2 ≠ gb463) ∧ (gb464 ≠ s_.2.2) ∧ (s_.2.2 ≠ gb464) ∧ (gb473 ≠ s_.2.2) ∧ (s_.2.2 ≠ gb473) ∧ (Below w.heap.size w w')) ?_ ?_
        rotate_left
        ·intro hCont
         refine two_ (i := 5) (j := 9) (Ni := some 34) (Nj := some 9) Mk18_7 Mk18_6 rfl rfl rfl rfl (two_of HT_.out (by kernel_rfl)) (by decide) (by decide) (fun K hK => ?_) (fun K hK => ?_)
         ·skip
          refine goes_ Try.func63 (by kernel_rfl) rfl #[.agg #[.int .i64 x474000_2, .slice Ao31 x474001_2.length co31, .slice Ao32 x474002_2.length co32], .agg #[.int .i64 ((rd_T26 l1 x8_2).f0), .string ((rd_T26 l1 x8_2).f1)]] (by rfl) rfl rfl (by (try simp only [List.map_toArray, List.map_cons, List.map_nil]); first | done | rfl | (simp only [List.length_drop, List.length_take]; rfl)) ?_
          with_reducible refine (spec_MindDo.calls k2 x474000_2 _ _ x474001_2 _ _ x474002_2 ((rd_T26 l1 x8_2).f0) ((rd_T26 l1 x8_2).f1) t475 t476 t479 true _ ?side1 ?side2 ?side3 ?side4 A29.out).mono ?_
          (case side1 => exact cZ (Kd.R_reads' HO_474001.out).2.2)
          (case side2 => exact (Kd.R_reads' HO_474001.out).2.1)
          (case side3 => exact cZ (Kd.Q_reads' HO_474002.out).2.2)
          (case side4 => exact (Kd.Q_reads' HO_474002.out).2.1)
          rintro e w34 ⟨v477, v480, rfl, ho0, ho1, hb⟩
          refine ⟨_, rfl, ?_⟩
          have HO478 := Asd.mk (Kd.R_lower (Kd.R_new' ho0 (Kd.R_lt (rS HO_474001))) (below_size (wZ HB)))
          have HO481 := Asd.mk (Kd.Q_lower (Kd.Q_new' (Kd.Q_new' ho1 (Kd.R_lt (rS HO_474001))) (Kd.Q_lt (by (with_reducible repeat (first | apply Kd.Q_alloc | apply Kd.Q_drewN | apply Kd.Q_drew)); exact HO_474002.out))) (below_size (wZ HB)))
          replace HO_474001 := Asd.mk (Kd.R_elder' (rS HO_474001) (Kd.R_base ho0) hb)
          replace HO_474002 := Asd.mk (Kd.Q_mono (Kd.Q_told (Kd.Q_told (Kd.Q_old (by (with_reducible repeat (first | apply Kd.Q_alloc | apply Kd.Q_drewN | apply Kd.Q_drew)); exact HO_474002.out) hb) (Kd.R_base ho0)) (Kd.Q_base ho1)) (fun _ h_ => h_.1))
          replace BK463 := bU BK463 hb
          replace BK464 := bU BK464 hb
          replace BK473 := bU BK473 hb
          replace HB := bW HB hb
          (try clear hb)
          (try clear hb2)
          (try clear hk)
          (try clear hi)
          (try clear ho0)
          (try clear ho1)
          refine hK.out _ _ ⟨(bkC BK473.out 0).trans rfl, (bkC BK473.out 1).trans rfl, (bkC BK473.out 2).trans rfl, ((HB.out.cell (World.block_lt_of_cell? w _ hw474_0)).trans hw474_0), ((HB.out.cell (World.block_lt_of_cell? w _ hw474_1)).trans hw474_1)⟩ (fun hHeld => ?_)
          clear hK K
          refine norm_ (a' := ?_) ?_ ?_
          rotate_left
          ·show Act.put _ (some 34) _ = _
           simp only [Act.put, qA, qB, qC, i64_w, i32_w]
           rfl
          refine pure_ (i := 6) (N := some 28) (v := ?_) (a' := ?_) Mk18_9 rfl rfl (any_of HT_.out (by kernel_rfl)) (fun _ _ _ h => h) (Or.inl ⟨by rfl, ?_⟩) ?_ ?_
          rotate_left
          ·intro w'
           go_simp
           with_reducible rfl
          rotate_left
          ·simp only [Act.put, qA, qB, qC, i64_w, i32_w]
           rfl
          refine pure_ (i := 7) (N := some 35) (v := ?_) (a' := ?_) Mk18_11 rfl rfl (any_of HT_.out (by kernel_rfl)) (fun _ _ _ h => h) (Or.inl ⟨by rfl, ?_⟩) ?_ ?_
          rotate_left
          ·intro w'
           go_simp
           with_reducible rfl
          rotate_left
          ·simp only [Act.put, qA, qB, qC, i64_w, i32_w]
           rfl
          refine pure_ (i := 8) (N := some 36) (v := ?_) (a' := ?_) Mk18_13 rfl rfl (any_of HT_.out (by kernel_rfl)) (fun _ _ _ h => h) (Or.inl ⟨by rfl, ?_⟩) ?_ ?_
          rotate_left
          ·intro w'
           go_simp
           with_reducible rfl
          rotate_left
          ·simp only [Act.put, qA, qB, qC, i64_w, i32_w]
           rfl
          refine one_ (i := 9) (N := some 9) Mk18_14 rfl rfl (one_of HT_.out (by kernel_rfl)) (by decide) (fun K hK => ?_)
          refine box_step ?hg (N := 9) ?hd (cs := #[.int .i64 0, .slice none 0 0, .slice none 0 0]) (t := 58) ?hr ?_; (case hd => rfl); (case hg => rfl); (case hr => first | (go_simp; done) | (go_simp; rfl))
          intro gb483 hg w35 hbox hb
          replace HO_474001 := bR HO_474001 hb
          replace HO_474002 := Asd.mk (Kd.Q_below (by (with_reducible repeat (first | apply Kd.Q_alloc | apply Kd.Q_drewN | apply Kd.Q_drew)); exact HO_474002.out) hb)
          replace HO478 := bR HO478 hb
          replace HO481 := Asd.mk (Kd.Q_below (by (with_reducible repeat (first | apply Kd.Q_alloc | apply Kd.Q_drewN | apply Kd.Q_drew)); exact HO481.out) hb)
          have BK483 := Asd.mk (hbox)
          have GW483 := bG HB hg
          have GE483 := bG HB hg
          replace HB := bW HB hb
          have NB463_483 := bL BK463 hg
          have NB483_463 := bM BK463 hg
          replace BK463 := bU BK463 hb
          have NB464_483 := bL BK464 hg
          have NB483_464 := bM BK464 hg
          replace BK464 := bU BK464 hb
          have NB473_483 := bL BK473 hg
          have NB483_473 := bM BK473 hg
          replace BK473 := bU BK473 hb
          clear hb hbox hg
          refine hK.out _ _ ⟨(bkC BK473.out 0).trans rfl, (bkC BK473.out 1).trans rfl, (bkC BK473.out 2).trans rfl, ((HB.out.cell (World.block_lt_of_cell? w _ hw474_0)).trans hw474_0), ((HB.out.cell (World.block_lt_of_cell? w _ hw474_1)).trans hw474_1)⟩ (fun hHeld => ?_)
          clear hK K
          refine norm_ (a' := ?_) ?_ ?_
          rotate_left
          ·show Act.put _ (some 9) _ = _
           simp only [Act.put, qA, qB, qC, i64_w, i32_w]
           rfl
          exact norm_ (by simp only [putAll, Act.put, qA, qB, qC]) (hCont (v477, v480, gb483) _ ⟨hHeld, (by (repeat apply Kd.RS); exact Kd.R_mono HO478.out (fun _ hk => hk.2)), (by (with_reducible repeat (first | apply Kd.Q_alloc | apply Kd.Q_drewN | apply Kd.Q_drew)); exact Kd.Q_mono HO481.out (fun _ hk => ⟨hk.1.1, ⟨hk.1.2, hk.2⟩⟩)), (by (repeat apply Kd.RS); exact Kd.R_mono HO_474001.out (fun _ hk => hk.2)), (by (with_reducible repeat (first | apply Kd.Q_alloc | apply Kd.Q_drewN | apply Kd.Q_drew)); exact Kd.Q_mono HO_474002.out (fun _ hk => ⟨hk.1.2, ⟨hk.2, hk.1.1⟩⟩)), (kS BK463), (kS BK464), (kS BK473), (kS BK483), GW483.out, GE483.out, NB463_483.out, NB483_463.out, NB464_483.out, NB483_464.out, NB473_483.out, NB483_473.out, (wZ HB)⟩)
         ·skip
          refine box_step ?hg (N := 9) ?hd (cs := #[.int .i64 0, .slice none 0 0, .slice none 0 0]) (t := 58) ?hr ?_; (case hd => rfl); (case hg => rfl); (case hr => first | (go_simp; done) | (go_simp; rfl))
          intro gb483 hg w34 hbox hb
          replace HO_474001 := bR HO_474001 hb
          replace HO_474002 := Asd.mk (Kd.Q_below (by (with_reducible repeat (first | apply Kd.Q_alloc | apply Kd.Q_drewN | apply Kd.Q_drew)); exact HO_474002.out) hb)
          have BK483 := Asd.mk (hbox)
          have GW483 := bG HB hg
          have GE483 := bG HB hg
          replace HB := bW HB hb
          have NB463_483 := bL BK463 hg
          have NB483_463 := bM BK463 hg
          replace BK463 := bU BK463 hb
          have NB464_483 := bL BK464 hg
          have NB483_464 := bM BK464 hg
          replace BK464 := bU BK464 hb
          have NB473_483 := bL BK473 hg
          have NB483_473 := bM BK473 hg
          replace BK473 := bU BK473 hb
          clear hb hbox hg
          refine hK.out _ _ ⟨(bkC BK473.out 0).trans rfl, (bkC BK473.out 1).trans rfl, (bkC BK473.out 2).trans rfl, ((HB.out.cell (World.block_lt_of_cell? w _ hw474_0)).trans hw474_0), ((HB.out.cell (World.block_lt_of_cell? w _ hw474_1)).trans hw474_1)⟩ (fun hHeld => ?_)
          clear hK K
          refine norm_ (a' := ?_) ?_ ?_
          rotate_left
          ·show Act.put _ (some 9) _ = _
           simp only [Act.put, qA, qB, qC, i64_w, i32_w]
           rfl
          refine one_ (i := 5) (N := some 34) Mk18_8 rfl rfl (one_of HT_.out (by kernel_rfl)) (by decide) (fun K hK => ?_)
          refine goes_ Try.func63 (by kernel_rfl) rfl #[.agg #[.int .i64 x474000_2, .slice Ao31 x474001_2.length co31, .slice Ao32 x474002_2.length co32], .agg #[.int .i64 ((rd_T26 l1 x8_2).f0), .string ((rd_T26 l1 x8_2).f1)]] (by rfl) rfl rfl (by (try simp only [List.map_toArray, List.map_cons, List.map_nil]); first | done | rfl | (simp only [List.length_drop, List.length_take]; rfl)) ?_
          with_reducible refine (spec_MindDo.calls k2 x474000_2 _ _ x474001_2 _ _ x474002_2 ((rd_T26 l1 x8_2).f0) ((rd_T26 l1 x8_2).f1) t475 t476 t479 true _ ?side1 ?side2 ?side3 ?side4 A29.out).mono ?_
          (case side1 => exact cZ (Kd.R_reads' HO_474001.out).2.2)
          (case side2 => exact (Kd.R_reads' HO_474001.out).2.1)
          (case side3 => exact cZ (Kd.Q_reads' HO_474002.out).2.2)
          (case side4 => exact (Kd.Q_reads' HO_474002.out).2.1)
          rintro e w35 ⟨v477, v480, rfl, ho0, ho1, hb⟩
          refine ⟨_, rfl, ?_⟩
          have HO478 := Asd.mk (Kd.R_lower (Kd.R_new' ho0 (Kd.R_lt (rS HO_474001))) (below_size (wZ HB)))
          have HO481 := Asd.mk (Kd.Q_lower (Kd.Q_new' (Kd.Q_new' ho1 (Kd.R_lt (rS HO_474001))) (Kd.Q_lt (by (with_reducible repeat (first | apply Kd.Q_alloc | apply Kd.Q_drewN | apply Kd.Q_drew)); exact HO_474002.out))) (below_size (wZ HB)))
          replace HO_474001 := Asd.mk (Kd.R_elder' (rS HO_474001) (Kd.R_base ho0) hb)
          replace HO_474002 := Asd.mk (Kd.Q_mono (Kd.Q_told (Kd.Q_told (Kd.Q_old (by (with_reducible repeat (first | apply Kd.Q_alloc | apply Kd.Q_drewN | apply Kd.Q_drew)); exact HO_474002.out) hb) (Kd.R_base ho0)) (Kd.Q_base ho1)) (fun _ h_ => h_.1))
          replace BK463 := bU BK463 hb
          replace BK464 := bU BK464 hb
          replace BK473 := bU BK473 hb
          replace BK483 := bU BK483 hb
          replace HB := bW HB hb
          (try clear hb)
          (try clear hb2)
          (try clear hk)
          (try clear hi)
          (try clear ho0)
          (try clear ho1)
          refine hK.out _ _ ⟨(bkC BK473.out 0).trans rfl, (bkC BK473.out 1).trans rfl, (bkC BK473.out 2).trans rfl, ((HB.out.cell (World.block_lt_of_cell? w _ hw474_0)).trans hw474_0), ((HB.out.cell (World.block_lt_of_cell? w _ hw474_1)).trans hw474_1)⟩ (fun hHeld => ?_)
          clear hK K
          refine norm_ (a' := ?_) ?_ ?_
          rotate_left
          ·show Act.put _ (some 34) _ = _
           simp only [Act.put, qA, qB, qC, i64_w, i32_w]
           rfl
          refine pure_ (i := 6) (N := some 28) (v := ?_) (a' := ?_) Mk18_10 rfl rfl (any_of HT_.out (by kernel_rfl)) (fun _ _ _ h => h) (Or.inl ⟨by rfl, ?_⟩) ?_ ?_
          rotate_left
          ·intro w'
           go_simp
           with_reducible rfl
          rotate_left
          ·simp only [Act.put, qA, qB, qC, i64_w, i32_w]
           rfl
          refine pure_ (i := 7) (N := some 35) (v := ?_) (a' := ?_) Mk18_12 rfl rfl (any_of HT_.out (by kernel_rfl)) (fun _ _ _ h => h) (Or.inl ⟨by rfl, ?_⟩) ?_ ?_
          rotate_left
          ·intro w'
           go_simp
           with_reducible rfl
          rotate_left
          ·simp only [Act.put, qA, qB, qC, i64_w, i32_w]
           rfl
          refine pure_ (i := 8) (N := some 36) (v := ?_) (a' := ?_) Mk18_14 rfl rfl (any_of HT_.out (by kernel_rfl)) (fun _ _ _ h => h) (Or.inl ⟨by rfl, ?_⟩) ?_ ?_
          rotate_left
          ·intro w'
           go_simp
           with_reducible rfl
          rotate_left
          ·simp only [Act.put, qA, qB, qC, i64_w, i32_w]
           rfl
          exact norm_ (by simp only [putAll, Act.put, qA, qB, qC]) (hCont (v477, v480, gb483) _ ⟨hHeld, (by (repeat apply Kd.RS); exact Kd.R_mono HO478.out (fun _ hk => hk.2)), (by (with_reducible repeat (first | apply Kd.Q_alloc | apply Kd.Q_drewN | apply Kd.Q_drew)); exact Kd.Q_mono HO481.out (fun _ hk => ⟨hk.1.1, ⟨hk.1.2, hk.2⟩⟩)), (by (repeat apply Kd.RS); exact Kd.R_mono HO_474001.out (fun _ hk => hk.2)), (by (with_reducible repeat (first | apply Kd.Q_alloc | apply Kd.Q_drewN | apply Kd.Q_drew)); exact Kd.Q_mono HO_474002.out (fun _ hk => ⟨hk.1.2, ⟨hk.2, hk.1.1⟩⟩)), (kS BK463), (kS BK464), (kS BK473), (kS BK483), GW483.out, GE483.out, NB463_483.out, NB483_463.out, NB464_483.out, NB483_464.out, NB473_483.out, NB483_473.out, (wZ HB)⟩)
        rintro ⟨v477, v480, gb483⟩ w36 ⟨hS_, h0_, h1_, h2_, h3_, h4_, h5_, h6_, h7_, h8_, h9_, h10_, h11_, h12_, h13_, h14_, h15_, h16_⟩
        have HO478 : Asd (Kd.R (Kd.int .i64) 3 w36 w.heap.size (fun k_ => some k_ ≠ (.slice Ao31 x474001_2.length co31 : Value).ownBlock) v477 t476) := ⟨h0_⟩
        have HO481 : Asd (Kd.Q (Kd.slice 3 (Kd.int .i64)) 55 w36 w.heap.size (fun k_ => some k_ ≠ (v477 : Value).ownBlock ∧ some k_ ≠ (.slice Ao31 x474001_2.length co31 : Value).ownBlock ∧ some k_ ≠ (.slice Ao32 x474002_2.length co32 : Value).ownBlock) v480 t479) := ⟨h1_⟩
        replace HO_474001 : Asd (Kd.R (Kd.int .i64) 3 w36 w.heap.size (fun k_ => some k_ ≠ (v477 : Value).ownBlock) (.slice Ao31 x474001_2.length co31) x474001_2) := ⟨h2_⟩
        replace HO_474002 : Asd (Kd.Q (Kd.slice 3 (Kd.int .i64)) 55 w36 w.heap.size (fun k_ => some k_ ≠ (v477 : Value).ownBlock ∧ some k_ ≠ (v480 : Value).ownBlock ∧ some k_ ≠ (.slice Ao31 x474001_2.length co31 : Value).ownBlock) (.slice Ao32 x474002_2.length co32) x474002_2) := ⟨h3_⟩
        replace BK463 : Asd (w36.heap[gb463]? = some (.cells #[.int .i64 a0_0, .slice A0_1 l0_1.length c0_1, .slice A0_2 l0_2.length c0_2] 58 (0, 0))) := ⟨h4_⟩
        replace BK464 : Asd (w36.heap[gb464]? = some (.cells #[.int .i64 0, .slice none 0 0, .slice none 0 0] 58 (0, 0))) := ⟨h5_⟩
        replace BK473 : Asd (w36.heap[gb473]? = some (.cells #[.int .i64 x474000_2, .slice Ao31 x474001_2.length co31, .slice Ao32 x474002_2.length co32] 58 (0, 0))) := ⟨h6_⟩
        have BK483 : Asd (w36.heap[gb483]? = some (.cells #[.int .i64 0, .slice none 0 0, .slice none 0 0] 58 (0, 0))) := ⟨h7_⟩
        have GW483 : Asd (w.heap.size ≤ gb483) := ⟨h8_⟩
        have GE483 : Asd (w.heap.size ≤ gb483) := ⟨h9_⟩
        have NB463_483 : Asd (gb463 ≠ gb483) := ⟨h10_⟩
        have NB483_463 : Asd (gb483 ≠ gb463) := ⟨h11_⟩
        have NB464_483 : Asd (gb464 ≠ gb483) := ⟨h12_⟩
        have NB483_464 : Asd (gb483 ≠ gb464) := ⟨h13_⟩
        have NB473_483 : Asd (gb473 ≠ gb483) := ⟨h14_⟩
        have NB483_473 : Asd (gb483 ≠ gb473) := ⟨h15_⟩
        replace HB : Asd (Below w.heap.size w w36) := ⟨h16_⟩
        clear h0_ h1_ h2_ h3_ h4_ h5_ h6_ h7_ h8_ h9_ h10_ h11_ h12_ h13_ h14_ h15_ h16_
        have hHeld : w36.cell? ⟨gb473, 0, none⟩ = some (.int .i64 x474000_2) ∧ w36.cell? ⟨gb473, 1, none⟩ = some (.slice Ao31 x474001_2.length co31) ∧ w36.cell? ⟨gb473, 2, none⟩ = some (.slice Ao32 x474002_2.length co32) ∧ w36.cell? (ad474.add ((x8_2).toNat * 2)) = some (.int .i64 ((rd_T26 l1 x8_2).f0)) ∧ w36.cell? ⟨(ad474.add ((x8_2).toNat * 2)).block, (ad474.add ((x8_2).toNat * 2)).off + 1, none⟩ = some (.string ((rd_T26 l1 x8_2).f1)) := hS_
        obtain ⟨Ao38, co38, eo38⟩ := Kd.R_slice HO478.out
        (first | subst eo38 | (injection eo38 with f1_ f2_ f3_; have f4_ := f1_.symm; have f5_ := f3_.symm; clear f1_ f2_ f3_; subst f4_; subst f5_))
        obtain ⟨Ao40, co40, eo40, _⟩ := Kd.Q_slice HO481.out
        (first | subst eo40 | (injection eo40 with f1_ f2_ f3_; have f4_ := f1_.symm; have f5_ := f3_.symm; clear f1_ f2_ f3_; subst f4_; subst f5_))
        refine norm_ (a' := ?_) ?_ ?_
        rotate_left
        ·simp only [putAll, Act.put, qA, qB, qC]
         rfl
        refine one_ (i := 10) (N := none) Mk18_15 rfl rfl (one_of HT_.out (by kernel_rfl)) (by decide) (fun K hK => ?_)
        have hs37 := bC BK483 0
        have hfs37 := bkF BK483.out 0
        have hns37_0 := NB463_483.out
        have hns37_1 := NB464_483.out
        have hns37_2 := NB473_483.out
        have hms37_0 := NB483_463.out
        have hms37_1 := NB483_464.out
        have hms37_2 := NB483_473.out
        have hs39 := bC BK483 1
        have hfs39 := bkF BK483.out 1
        have hns39_0 := NB463_483.out
        have hns39_1 := NB464_483.out
        have hns39_2 := NB473_483.out
        have hms39_0 := NB483_463.out
        have hms39_1 := NB483_464.out
        have hms39_2 := NB483_473.out
        have hs41 := bC BK483 2
        have hfs41 := bkF BK483.out 2
        have hns41_0 := NB463_483.out
        have hns41_1 := NB464_483.out
        have hns41_2 := NB473_483.out
        have hms41_0 := NB483_463.out
        have hms41_1 := NB483_464.out
        have hms41_2 := NB483_473.out
        refine skip_ (w1 := ?_) (by rfl) rfl ?_ ?_
        rotate_left
        ·go_simp
         rfl
        refine hK.out _ _ ⟨((cell_far (p := ⟨gb483, _, none⟩) NB473_483.out _).trans (((cell_far (p := ⟨gb483, _, none⟩) NB473_483.out _).trans (((cell_far (p := ⟨gb483, _, none⟩) NB473_483.out _).trans (hHeld.1)))))), ((cell_far (p := ⟨gb483, _, none⟩) NB473_483.out _).trans (((cell_far (p := ⟨gb483, _, none⟩) NB473_483.out _).trans (((cell_far (p := ⟨gb483, _, none⟩) NB473_483.out _).trans (hHeld.2.1)))))), ((cell_far (p := ⟨gb483, _, none⟩) NB473_483.out _).trans (((cell_far (p := ⟨gb483, _, none⟩) NB473_483.out _).trans (((cell_far (p := ⟨gb483, _, none⟩) NB473_483.out _).trans (hHeld.2.2.1)))))), ((cell_far (p := ⟨gb483, _, none⟩) (by first | exact Nat.ne_of_lt (Nat.lt_of_lt_of_le (by have := World.block_lt_of_cell? _ _ hw474_0; first | rwa [add_block] at this | exact this) GW483.out) | (rw [add_block]; exact Nat.ne_of_lt (Nat.lt_of_lt_of_le (by have := World.block_lt_of_cell? _ _ hw474_0; first | rwa [add_block] at this | exact this) GW483.out)) | (show (Addr.add _ _).block ≠ _; rw [add_block]; exact Nat.ne_of_lt (Nat.lt_of_lt_of_le (by have := World.block_lt_of_cell? _ _ hw474_0; first | rwa [add_block] at this | exact this) GW483.out)) | (dsimp only; exact Nat.ne_of_lt (Nat.lt_of_lt_of_le (by have := World.block_lt_of_cell? _ _ hw474_0; first | rwa [add_block] at this | exact this) GW483.out))) _).trans (((cell_far (p := ⟨gb483, _, none⟩) (by first | exact Nat.ne_of_lt (Nat.lt_of_lt_of_le (by have := World.block_lt_of_cell? _ _ hw474_0; first | rwa [add_block] at this | exact this) GW483.out) | (rw [add_block]; exact Nat.ne_of_lt (Nat.lt_of_lt_of_le (by have := World.block_lt_of_cell? _ _ hw474_0; first | rwa [add_block] at this | exact this) GW483.out)) | (show (Addr.add _ _).block ≠ _; rw [add_block]; exact Nat.ne_of_lt (Nat.lt_of_lt_of_le (by have := World.block_lt_of_cell? _ _ hw474_0; first | rwa [add_block] at this | exact this) GW483.out)) | (dsimp only; exact Nat.ne_of_lt (Nat.lt_of_lt_of_le (by have := World.block_lt_of_cell? _ _ hw474_0; first | rwa [add_block] at this | exact this) GW483.out))) _).trans (((cell_far (p := ⟨gb483, _, none⟩) (by first | exact Nat.ne_of_lt (Nat.lt_of_lt_of_le (by have := World.block_lt_of_cell? _ _ hw474_0; first | rwa [add_block] at this | exact this) GW483.out) | (rw [add_block]; exact Nat.ne_of_lt (Nat.lt_of_lt_of_le (by have := World.block_lt_of_cell? _ _ hw474_0; first | rwa [add_block] at this | exact this) GW483.out)) | (show (Addr.add _ _).block ≠ _; rw [add_block]; exact Nat.ne_of_lt (Nat.lt_of_lt_of_le (by have := World.block_lt_of_cell? _ _ hw474_0; first | rwa [add_block] at this | exact this) GW483.out)) | (dsimp only; exact Nat.ne_of_lt (Nat.lt_of_lt_of_le (by have := World.block_lt_of_cell? _ _ hw474_0; first | rwa [add_block] at this | exact this) GW483.out))) _).trans (hHeld.2.2.2.1)))))), ((cell_far (p := ⟨gb483, _, none⟩) (by first | exact Nat.ne_of_lt (Nat.lt_of_lt_of_le (by have := World.block_lt_of_cell? _ _ hw474_1; first | rwa [add_block] at this | exact this) GW483.out) | (rw [add_block]; exact Nat.ne_of_lt (Nat.lt_of_lt_of_le (by have := World.block_lt_of_cell? _ _ hw474_1; first | rwa [add_block] at this | exact this) GW483.out)) | (show (Addr.add _ _).block ≠ _; rw [add_block]; exact Nat.ne_of_lt (Nat.lt_of_lt_of_le (by have := World.block_lt_of_cell? _ _ hw474_1; first | rwa [add_block] at this | exact this) GW483.out)) | (dsimp only; exact Nat.ne_of_lt (Nat.lt_of_lt_of_le (by have := World.block_lt_of_cell? _ _ hw474_1; first | rwa [add_block] at this | exact this) GW483.out))) _).trans (((cell_far (p := ⟨gb483, _, none⟩) (by first | exact Nat.ne_of_lt (Nat.lt_of_lt_of_le (by have := World.block_lt_of_cell? _ _ hw474_1; first | rwa [add_block] at this | exact this) GW483.out) | (rw [add_block]; exact Nat.ne_of_lt (Nat.lt_of_lt_of_le (by have := World.block_lt_of_cell? _ _ hw474_1; first | rwa [add_block] at this | exact this) GW483.out)) | (show (Addr.add _ _).block ≠ _; rw [add_block]; exact Nat.ne_of_lt (Nat.lt_of_lt_of_le (by have := World.block_lt_of_cell? _ _ hw474_1; first | rwa [add_block] at this | exact this) GW483.out)) | (dsimp only; exact Nat.ne_of_lt (Nat.lt_of_lt_of_le (by have := World.block_lt_of_cell? _ _ hw474_1; first | rwa [add_block] at this | exact this) GW483.out))) _).trans (((cell_far (p := ⟨gb483, _, none⟩) (by first | exact Nat.ne_of_lt (Nat.lt_of_lt_of_le (by have := World.block_lt_of_cell? _ _ hw474_1; first | rwa [add_block] at this | exact this) GW483.out) | (rw [add_block]; exact Nat.ne_of_lt (Nat.lt_of_lt_of_le (by have := World.block_lt_of_cell? _ _ hw474_1; first | rwa [add_block] at this | exact this) GW483.out)) | (show (Addr.add _ _).block ≠ _; rw [add_block]; exact Nat.ne_of_lt (Nat.lt_of_lt_of_le (by have := World.block_lt_of_cell? _ _ hw474_1; first | rwa [add_block] at this | exact this) GW483.out)) | (dsimp only; exact Nat.ne_of_lt (Nat.lt_of_lt_of_le (by have := World.block_lt_of_cell? _ _ hw474_1; first | rwa [add_block] at this | exact this) GW483.out))) _).trans (hHeld.2.2.2.2))))))⟩ (fun hHeld => ?_)
        clear hK K
        refine pure_ (i := 11) (N := some 10) (v := ?_) (a' := ?_) Mk18_16 rfl rfl (any_of HT_.out (by kernel_rfl)) (fun _ _ _ h => h) (Or.inl ⟨by rfl, ?_⟩) ?_ ?_
        rotate_left
        ·intro w'
         go_simp
         with_reducible rfl
        rotate_left
        ·simp only [Act.put, qA, qB, qC, i64_w, i32_w]
         rfl
        refine done_ (done_of HT_.out (by kernel_rfl)) ?_
        have hnb42 := NB483_463.out
        have hnc42 := NB463_483.out
        have hnb43 := NB483_464.out
        have hnc43 := NB464_483.out
        have hnb44 := NB483_473.out
        have hnc44 := NB473_483.out
        obtain ⟨hcz45_0, hcz45_1, hcz45_2, hfz45_0, hfz45_1, hfz45_2⟩ := b3 BK483
        have hnb46 := NB473_463.out
        have hnc46 := NB463_473.out
        have hnb47 := NB473_464.out
        have hnc47 := NB464_473.out
        obtain ⟨hcz48_0, hcz48_1, hcz48_2, hfz48_0, hfz48_1, hfz48_2⟩ := b3 BK473
        try go_wp2
        go_roundg k2
        case measure => have := HJ2.out; have := HK2.out; omega
        case rel => exact ⟨(wrap64 (x7_2 + 1)), (wrap64 (x8_2 + 1)), (t475), (t476), (t479), (.slice Ao38 t476.length co38), (.slice Ao40 t479.length co40), (by first | rfl | (simp; done) | (simp [*]; done)), (by first | rfl | (simp; done) | (simp [*]; done)), H', ⟨by have := HJ2.out; have := HK2.out; omega⟩, ⟨rT HO478⟩, ⟨by (with_reducible repeat (first | apply Kd.Q_alloc | apply Kd.Q_drewN | apply Kd.Q_drew)); exact Kd.Q_mono (Kd.Q_far (p := ⟨gb473, 2, none⟩) (Kd.Q_far (p := ⟨gb473, 1, none⟩) (Kd.Q_far (p := ⟨gb473, 0, none⟩) (Kd.Q_far (p := ⟨gb483, 2, none⟩) (Kd.Q_far (p := ⟨gb483, 1, none⟩) (Kd.Q_far (p := ⟨gb483, 0, none⟩) (Kd.Q_types (Kd.Q_types HO481.out BK483.out (by decide)) BK473.out (by decide)) (fun _ hk => hk.1.2) (.int .i64 t475)) (fun _ hk => hk.1.2) (.slice Ao38 t476.length co38)) (fun _ hk => hk.1.2) (.slice Ao40 t479.length co40)) (fun _ hk => hk.2) (.int .i64 t475)) (fun _ hk => hk.2) (.slice Ao38 t476.length co38)) (fun _ hk => hk.2) (.slice Ao40 t479.length co40)) (fun _ hk => hk.1.1.1)⟩, ⟨kS BK463⟩, ⟨kS BK464⟩, ⟨kP BK473⟩, ⟨wZ HB⟩⟩
       ·replace c30 := Bool.eq_false_iff.mpr c30
        subst c30
        rw [if_neg (show ¬ (false = true) by decide)] at H
        have H' := Asd.mk H
        clear H
        obtain ⟨Ao49, co49, eo49⟩ := Kd.R_slice HO_474001.out
        subst eo49
        obtain ⟨Ao50, co50, eo50, _⟩ := Kd.Q_slice HO_474002.out
        subst eo50
        try go_wp2
        replace HO_474001 := Asd.mk (Kd.R_drew HO_474001.out)
        replace HO_474002 := Asd.mk (Kd.Q_drew HO_474002.out)
        replace BK463 := Asd.mk (bkD BK463.out)
        replace BK464 := Asd.mk (bkD BK464.out)
        replace BK473 := Asd.mk (bkD BK473.out)
        replace HB := Asd.mk (bwD HB.out)
        have p474 : 0 ≤ (x8_2 : Int) := odt
        have q474 : x8_2 < (l1.length : Int) := odt
        obtain ⟨ad474, e474, hx474_0, hx474_1⟩ := at_T26 HR1.out x8_2 p474 q474
        have hw474_1 := hx474_1
        have hw474_0 := hx474_0
        cases e474
        replace hx474_0 := (HB.out.cell (World.block_lt_of_cell? w _ hx474_0)).trans hx474_0
        replace hx474_1 := (HB.out.cell (World.block_lt_of_cell? w _ hx474_1)).trans hx474_1
        replace p474 := eq_true p474
        replace q474 := eq_true q474
        refine start_ (n := 12) (S := fun w' => w'.cell? ⟨gb473, 0, none⟩ = some (.int .i64 x474000_2) ∧ w'.cell? ⟨gb473, 1, none⟩ = some (.slice Ao49 x474001_2.length co49) ∧ w'.cell? ⟨gb473, 2, none⟩ = some (.slice Ao50 x474002_2.length co50) ∧ w'.cell? (ad474.add ((x8_2).toNat * 2)) = some (.int .i64 ((rd_T26 l1 x8_2).f0)) ∧ w'.cell? ⟨(ad474.add ((x8_2).toNat * 2)).block, (ad474.add ((x8_2).toNat * 2)).off + 1, none⟩ = some (.string ((rd_T26 l1 x8_2).f1))) (ds := []) Mk18_0 (by kernel_rfl) rfl rfl ⟨(bkC BK473.out 0).trans rfl, (bkC BK473.out 1).trans rfl, (bkC BK473.out 2).trans rfl, ((HB.out.cell (World.block_lt_of_cell? w _ hw474_0)).trans hw474_0), ((HB.out.cell (World.block_lt_of_cell? w _ hw474_1)).trans hw474_1)⟩ (fun hHeld => ?_); refine with_tabW spec_MindRun.tab8 spec_MindRun.bits8 (fun HT_ HW_ => ?_)
        generalize wr.drew = w51 at HO_474001 HO_474002 BK463 BK464 BK473 HB hx474_0 hx474_1 hHeld ⊢
        refine pure_ (i := 1) (N := some 30) (v := ?_) (a' := ?_) Mk18_1 rfl rfl (any_of HT_.out (by kernel_rfl)) (fun _ _ _ h => h) (Or.inl ⟨by rfl, ?_⟩) ?_ ?_
        rotate_left
        ·intro w'
         go_simp
         with_reducible rfl
        rotate_left
        ·simp only [Act.put, qA, qB, qC, i64_w, i32_w]
         rfl
        refine pure_ (i := 2) (N := some 31) (v := ?_) (a' := ?_) Mk18_2 rfl rfl (any_of HT_.out (by kernel_rfl)) (fun _ _ _ h => h) (Or.inl ⟨by rfl, ?_⟩) ?_ ?_
        rotate_left
        ·intro w'
         go_simp
         with_reducible rfl
        rotate_left
        ·simp only [Act.put, qA, qB, qC, i64_w, i32_w]
         rfl
        refine pure_ (i := 3) (N := some 32) (v := ?_) (a' := ?_) Mk18_3 rfl rfl (any_of HT_.out (by kernel_rfl)) (fun _ _ _ h => h) (Or.inl ⟨by rfl, ?_⟩) ?_ ?_
        rotate_left
        ·intro w'
         go_simp
         with_reducible rfl
        rotate_left
        ·simp only [Act.put, qA, qB, qC, i64_w, i32_w]
         rfl
        refine take_ (i := 0) (N := some 29) (v := ?_) (a' := ?_) Mk18_4 rfl rfl (take_ofW HT_.out HW_.out (by kernel_rfl)) (fun _ _ _ h => h) (Or.inl ⟨by rfl, ?_⟩) hHeld ?_ ?_
        rotate_left
        ·rintro w' ⟨s0, s1, s2, s3, s4⟩
         go_simp
         with_reducible rfl
        rotate_left
        ·simp only [Act.put, qA, qB, qC, i64_w, i32_w]
         rfl
        refine take_ (i := 4) (N := some 33) (v := ?_) (a' := ?_) Mk18_5 rfl rfl (take_ofW HT_.out HW_.out (by kernel_rfl)) (fun _ _ _ h => h) (Or.inl ⟨by rfl, ?_⟩) hHeld ?_ ?_
        rotate_left
        ·rintro w' ⟨s0, s1, s2, s3, s4⟩
         go_simp
         with_reducible rfl
        rotate_left
        ·simp only [Act.put, qA, qB, qC, i64_w, i32_w]
         rfl
        refine join_ (σ := Value × Value × Nat) 2 Mk18_14 (fun s_ => [(34, .tuple #[.agg #[.int .i64 t475, s_.1, s_.2.1], .bool false]), (9, .pointer (some ⟨s_.2.2, 0, none⟩)), (28, .tuple #[.agg #[.int .i64 t475, s_.1, s_.2.1], .bool false]), (35, .agg #[.int .i64 t475, s_.1, s_.2.1]), (36, .bool false)]) (fun s_ w' => (w'.cell? ⟨gb473, 0, none⟩ = some (.int .i64 x474000_2) ∧ w'.cell? ⟨gb473, 1, none⟩ = some (.slice Ao49 x474001_2.length co49) ∧ w'.cell? ⟨gb473, 2, none⟩ = some (.slice Ao50 x474002_2.length co50) ∧ w'.cell? (ad474.add ((x8_2).toNat * 2)) = some (.int .i64 ((rd_T26 l1 x8_2).f0)) ∧ w'.cell? ⟨(ad474.add ((x8_2).toNat * 2)).block, (ad474.add ((x8_2).toNat * 2)).off + 1, none⟩ = some (.string ((rd_T26 l1 x8_2).f1))) ∧ (Kd.R (Kd.int .i64) 3 w' w.heap.size (fun k_ => some k_ ≠ (.slice Ao49 x474001_2.length co49 : Value).ownBlock) s_.1 t476) ∧ (Kd.Q (Kd.slice 3 (Kd.int .i64)) 55 w' w.heap.size (fun k_ => some k_ ≠ (s_.1 : Value).ownBlock ∧ some k_ ≠ (.slice Ao49 x474001_2.length co49 : Value).ownBlock ∧ some k_ ≠ (.slice Ao50 x474002_2.length co50 : Value).ownBlock) s_.2.1 t479) ∧ (Kd.R (Kd.int .i64) 3 w' w.heap.size (fun k_ => some k_ ≠ (s_.1 : Value).ownBlock) (.slice Ao49 x474001_2.length co49) x474001_2) ∧ (Kd.Q (Kd.slice 3 (Kd.int .i64)) 55 w' w.heap.size (fun k_ => some k_ ≠ (s_.1 : Value).ownBlock ∧ some k_ ≠ (s_.2.1 : Value).ownBlock ∧ some k_ ≠ (.slice Ao49 x474001_2.length co49 : Value).ownBlock) (.slice Ao50 x474002_2.length co50) x474002_2) ∧ (w'.heap[gb463]? = some (.cells #[.int .i64 a0_0, .slice A0_1 l0_1.length c0_1, .slice A0_2 l0_2.length c0_2] 58 (0, 0))) ∧ (w'.heap[gb464]? = some (.cells #[.int .i64 0, .slice none 0 0, .slice none 0 0] 58 (0, 0))) ∧ (w'.heap[gb473]? = some (.cells #[.int .i64 x474000_2, .slice Ao49 x474001_2.length co49, .slice Ao50 x474002_2.length co50] 58 (0, 0))) ∧ (w'.heap[s_.2.2]? = some (.cells #[.int .i64 0, .slice none 0 0, .slice none 0 0] 58 (0, 0))) ∧ (w.heap.size ≤ s_.2.2) ∧ (w.heap.size ≤ s_.2.2) ∧ (gb463 ≠ s_.2.2) ∧ (s_.2.2 ≠ gb463) ∧ (gb464 ≠ s_.2.2) ∧ (s_.2.2 ≠ gb464) ∧ (gb473 ≠ s_.2.2) ∧ (s_.2.2 ≠ gb473) ∧ (Below w.heap.size w w')) ?_ ?_
        rotate_left
        ·intro hCont
         refine two_ (i := 5) (j := 9) (Ni := some 34) (Nj := some 9) Mk18_7 Mk18_6 rfl rfl rfl rfl (two_of HT_.out (by kernel_rfl)) (by decide) (by decide) (fun K hK => ?_) (fun K hK => ?_)
         ·skip
          refine goes_ Try.func63 (by kernel_rfl) rfl #[.agg #[.int .i64 x474000_2, .slice Ao49 x474001_2.length co49, .slice Ao50 x474002_2.length co50], .agg #[.int .i64 ((rd_T26 l1 x8_2).f0), .string ((rd_T26 l1 x8_2).f1)]] (by rfl) rfl rfl (by (try simp only [List.map_toArray, List.map_cons, List.map_nil]); first | done | rfl | (simp only [List.length_drop, List.length_take]; rfl)) ?_
          with_reducible refine (spec_MindDo.calls k2 x474000_2 _ _ x474001_2 _ _ x474002_2 ((rd_T26 l1 x8_2).f0) ((rd_T26 l1 x8_2).f1) t475 t476 t479 false _ ?side1 ?side2 ?side3 ?side4 A29.out).mono ?_
          (case side1 => exact cZ (Kd.R_reads' HO_474001.out).2.2)
          (case side2 => exact (Kd.R_reads' HO_474001.out).2.1)
          (case side3 => exact cZ (Kd.Q_reads' HO_474002.out).2.2)
          (case side4 => exact (Kd.Q_reads' HO_474002.out).2.1)
          rintro e w52 ⟨v477, v480, rfl, ho0, ho1, hb⟩
          refine ⟨_, rfl, ?_⟩
          have HO478 := Asd.mk (Kd.R_lower (Kd.R_new' ho0 (Kd.R_lt (rS HO_474001))) (below_size (wZ HB)))
          have HO481 := Asd.mk (Kd.Q_lower (Kd.Q_new' (Kd.Q_new' ho1 (Kd.R_lt (rS HO_474001))) (Kd.Q_lt (by (with_reducible repeat (first | apply Kd.Q_alloc | apply Kd.Q_drewN | apply Kd.Q_drew)); exact HO_474002.out))) (below_size (wZ HB)))
          replace HO_474001 := Asd.mk (Kd.R_elder' (rS HO_474001) (Kd.R_base ho0) hb)
          replace HO_474002 := Asd.mk (Kd.Q_mono (Kd.Q_told (Kd.Q_told (Kd.Q_old (by (with_reducible repeat (first | apply Kd.Q_alloc | apply Kd.Q_drewN | apply Kd.Q_drew)); exact HO_474002.out) hb) (Kd.R_base ho0)) (Kd.Q_base ho1)) (fun _ h_ => h_.1))
          replace BK463 := bU BK463 hb
          replace BK464 := bU BK464 hb
          replace BK473 := bU BK473 hb
          replace HB := bW HB hb
          (try clear hb)
          (try clear hb2)
          (try clear hk)
          (try clear hi)
          (try clear ho0)
          (try clear ho1)
          refine hK.out _ _ ⟨(bkC BK473.out 0).trans rfl, (bkC BK473.out 1).trans rfl, (bkC BK473.out 2).trans rfl, ((HB.out.cell (World.block_lt_of_cell? w _ hw474_0)).trans hw474_0), ((HB.out.cell (World.block_lt_of_cell? w _ hw474_1)).trans hw474_1)⟩ (fun hHeld => ?_)
          clear hK K
          refine norm_ (a' := ?_) ?_ ?_
          rotate_left
          ·show Act.put _ (some 34) _ = _
           simp only [Act.put, qA, qB, qC, i64_w, i32_w]
           rfl
          refine pure_ (i := 6) (N := some 28) (v := ?_) (a' := ?_) Mk18_9 rfl rfl (any_of HT_.out (by kernel_rfl)) (fun _ _ _ h => h) (Or.inl ⟨by rfl, ?_⟩) ?_ ?_
          rotate_left
          ·intro w'
           go_simp
           with_reducible rfl
          rotate_left
          ·simp only [Act.put, qA, qB, qC, i64_w, i32_w]
           rfl
          refine pure_ (i := 7) (N := some 35) (v := ?_) (a' := ?_) Mk18_11 rfl rfl (any_of HT_.out (by kernel_rfl)) (fun _ _ _ h => h) (Or.inl ⟨by rfl, ?_⟩) ?_ ?_
          rotate_left
          ·intro w'
           go_simp
           with_reducible rfl
          rotate_left
          ·simp only [Act.put, qA, qB, qC, i64_w, i32_w]
           rfl
          refine pure_ (i := 8) (N := some 36) (v := ?_) (a' := ?_) Mk18_13 rfl rfl (any_of HT_.out (by kernel_rfl)) (fun _ _ _ h => h) (Or.inl ⟨by rfl, ?_⟩) ?_ ?_
          rotate_left
          ·intro w'
           go_simp
           with_reducible rfl
          rotate_left
          ·simp only [Act.put, qA, qB, qC, i64_w, i32_w]
           rfl
          refine one_ (i := 9) (N := some 9) Mk18_14 rfl rfl (one_of HT_.out (by kernel_rfl)) (by decide) (fun K hK => ?_)
          refine box_step ?hg (N := 9) ?hd (cs := #[.int .i64 0, .slice none 0 0, .slice none 0 0]) (t := 58) ?hr ?_; (case hd => rfl); (case hg => rfl); (case hr => first | (go_simp; done) | (go_simp; rfl))
          intro gb483 hg w53 hbox hb
          replace HO_474001 := bR HO_474001 hb
          replace HO_474002 := Asd.mk (Kd.Q_below (by (with_reducible repeat (first | apply Kd.Q_alloc | apply Kd.Q_drewN | apply Kd.Q_drew)); exact HO_474002.out) hb)
          replace HO478 := bR HO478 hb
          replace HO481 := Asd.mk (Kd.Q_below (by (with_reducible repeat (first | apply Kd.Q_alloc | apply Kd.Q_drewN | apply Kd.Q_drew)); exact HO481.out) hb)
          have BK483 := Asd.mk (hbox)
          have GW483 := bG HB hg
          have GE483 := bG HB hg
          replace HB := bW HB hb
          have NB463_483 := bL BK463 hg
          have NB483_463 := bM BK463 hg
          replace BK463 := bU BK463 hb
          have NB464_483 := bL BK464 hg
          have NB483_464 := bM BK464 hg
          replace BK464 := bU BK464 hb
          have NB473_483 := bL BK473 hg
          have NB483_473 := bM BK473 hg
          replace BK473 := bU BK473 hb
          clear hb hbox hg
          refine hK.out _ _ ⟨(bkC BK473.out 0).trans rfl, (bkC BK473.out 1).trans rfl, (bkC BK473.out 2).trans rfl, ((HB.out.cell (World.block_lt_of_cell? w _ hw474_0)).trans hw474_0), ((HB.out.cell (World.block_lt_of_cell? w _ hw474_1)).trans hw474_1)⟩ (fun hHeld => ?_)
          clear hK K
          refine norm_ (a' := ?_) ?_ ?_
          rotate_left
          ·show Act.put _ (some 9) _ = _
           simp only [Act.put, qA, qB, qC, i64_w, i32_w]
           rfl
          exact norm_ (by simp only [putAll, Act.put, qA, qB, qC]) (hCont (v477, v480, gb483) _ ⟨hHeld, (by (repeat apply Kd.RS); exact Kd.R_mono HO478.out (fun _ hk => hk.2)), (by (with_reducible repeat (first | apply Kd.Q_alloc | apply Kd.Q_drewN | apply Kd.Q_drew)); exact Kd.Q_mono HO481.out (fun _ hk => ⟨hk.1.1, ⟨hk.1.2, hk.2⟩⟩)), (by (repeat apply Kd.RS); exact Kd.R_mono HO_474001.out (fun _ hk => hk.2)), (by (with_reducible repeat (first | apply Kd.Q_alloc | apply Kd.Q_drewN | apply Kd.Q_drew)); exact Kd.Q_mono HO_474002.out (fun _ hk => ⟨hk.1.2, ⟨hk.2, hk.1.1⟩⟩)), (kS BK463), (kS BK464), (kS BK473), (kS BK483), GW483.out, GE483.out, NB463_483.out, NB483_463.out, NB464_483.out, NB483_464.out, NB473_483.out, NB483_473.out, (wZ HB)⟩)
         ·skip
          refine box_step ?hg (N := 9) ?hd (cs := #[.int .i64 0, .slice none 0 0, .slice none 0 0]) (t := 58) ?hr ?_; (case hd => rfl); (case hg => rfl); (case hr => first | (go_simp; done) | (go_simp; rfl))
          intro gb483 hg w52 hbox hb
          replace HO_474001 := bR HO_474001 hb
          replace HO_474002 := Asd.mk (Kd.Q_below (by (with_reducible repeat (first | apply Kd.Q_alloc | apply Kd.Q_drewN | apply Kd.Q_drew)); exact HO_474002.out) hb)
          have BK483 := Asd.mk (hbox)
          have GW483 := bG HB hg
          have GE483 := bG HB hg
          replace HB := bW HB hb
          have NB463_483 := bL BK463 hg
          have NB483_463 := bM BK463 hg
          replace BK463 := bU BK463 hb
          have NB464_483 := bL BK464 hg
          have NB483_464 := bM BK464 hg
          replace BK464 := bU BK464 hb
          have NB473_483 := bL BK473 hg
          have NB483_473 := bM BK473 hg
          replace BK473 := bU BK473 hb
          clear hb hbox hg
          refine hK.out _ _ ⟨(bkC BK473.out 0).trans rfl, (bkC BK473.out 1).trans rfl, (bkC BK473.out 2).trans rfl, ((HB.out.cell (World.block_lt_of_cell? w _ hw474_0)).trans hw474_0), ((HB.out.cell (World.block_lt_of_cell? w _ hw474_1)).trans hw474_1)⟩ (fun hHeld => ?_)
          clear hK K
          refine norm_ (a' := ?_) ?_ ?_
          rotate_left
          ·show Act.put _ (some 9) _ = _
           simp only [Act.put, qA, qB, qC, i64_w, i32_w]
           rfl
          refine one_ (i := 5) (N := some 34) Mk18_8 rfl rfl (one_of HT_.out (by kernel_rfl)) (by decide) (fun K hK => ?_)
          refine goes_ Try.func63 (by kernel_rfl) rfl #[.agg #[.int .i64 x474000_2, .slice Ao49 x474001_2.length co49, .slice Ao50 x474002_2.length co50], .agg #[.int .i64 ((rd_T26 l1 x8_2).f0), .string ((rd_T26 l1 x8_2).f1)]] (by rfl) rfl rfl (by (try simp only [List.map_toArray, List.map_cons, List.map_nil]); first | done | rfl | (simp only [List.length_drop, List.length_take]; rfl)) ?_
          with_reducible refine (spec_MindDo.calls k2 x474000_2 _ _ x474001_2 _ _ x474002_2 ((rd_T26 l1 x8_2).f0) ((rd_T26 l1 x8_2).f1) t475 t476 t479 false _ ?side1 ?side2 ?side3 ?side4 A29.out).mono ?_
          (case side1 => exact cZ (Kd.R_reads' HO_474001.out).2.2)
          (case side2 => exact (Kd.R_reads' HO_474001.out).2.1)
          (case side3 => exact cZ (Kd.Q_reads' HO_474002.out).2.2)
          (case side4 => exact (Kd.Q_reads' HO_474002.out).2.1)
          rintro e w53 ⟨v477, v480, rfl, ho0, ho1, hb⟩
          refine ⟨_, rfl, ?_⟩
          have HO478 := Asd.mk (Kd.R_lower (Kd.R_new' ho0 (Kd.R_lt (rS HO_474001))) (below_size (wZ HB)))
          have HO481 := Asd.mk (Kd.Q_lower (Kd.Q_new' (Kd.Q_new' ho1 (Kd.R_lt (rS HO_474001))) (Kd.Q_lt (by (with_reducible repeat (first | apply Kd.Q_alloc | apply Kd.Q_drewN | apply Kd.Q_drew)); exact HO_474002.out))) (below_size (wZ HB)))
          replace HO_474001 := Asd.mk (Kd.R_elder' (rS HO_474001) (Kd.R_base ho0) hb)
          replace HO_474002 := Asd.mk (Kd.Q_mono (Kd.Q_told (Kd.Q_told (Kd.Q_old (by (with_reducible repeat (first | apply Kd.Q_alloc | apply Kd.Q_drewN | apply Kd.Q_drew)); exact HO_474002.out) hb) (Kd.R_base ho0)) (Kd.Q_base ho1)) (fun _ h_ => h_.1))
          replace BK463 := bU BK463 hb
          replace BK464 := bU BK464 hb
          replace BK473 := bU BK473 hb
          replace BK483 := bU BK483 hb
          replace HB := bW HB hb
          (try clear hb)
          (try clear hb2)
          (try clear hk)
          (try clear hi)
          (try clear ho0)
          (try clear ho1)
          refine hK.out _ _ ⟨(bkC BK473.out 0).trans rfl, (bkC BK473.out 1).trans rfl, (bkC BK473.out 2).trans rfl, ((HB.out.cell (World.block_lt_of_cell? w _ hw474_0)).trans hw474_0), ((HB.out.cell (World.block_lt_of_cell? w _ hw474_1)).trans hw474_1)⟩ (fun hHeld => ?_)
          clear hK K
          refine norm_ (a' := ?_) ?_ ?_
          rotate_left
          ·show Act.put _ (some 34) _ = _
           simp only [Act.put, qA, qB, qC, i64_w, i32_w]
           rfl
          refine pure_ (i := 6) (N := some 28) (v := ?_) (a' := ?_) Mk18_10 rfl rfl (any_of HT_.out (by kernel_rfl)) (fun _ _ _ h => h) (Or.inl ⟨by rfl, ?_⟩) ?_ ?_
          rotate_left
          ·intro w'
           go_simp
           with_reducible rfl
          rotate_left
          ·simp only [Act.put, qA, qB, qC, i64_w, i32_w]
           rfl
          refine pure_ (i := 7) (N := some 35) (v := ?_) (a' := ?_) Mk18_12 rfl rfl (any_of HT_.out (by kernel_rfl)) (fun _ _ _ h => h) (Or.inl ⟨by rfl, ?_⟩) ?_ ?_
          rotate_left
          ·intro w'
           go_simp
           with_reducible rfl
          rotate_left
          ·simp only [Act.put, qA, qB, qC, i64_w, i32_w]
           rfl
          refine pure_ (i := 8) (N := some 36) (v := ?_) (a' := ?_) Mk18_14 rfl rfl (any_of HT_.out (by kernel_rfl)) (fun _ _ _ h => h) (Or.inl ⟨by rfl, ?_⟩) ?_ ?_
          rotate_left
          ·intro w'
           go_simp
           with_reducible rfl
          rotate_left
          ·simp only [Act.put, qA, qB, qC, i64_w, i32_w]
           rfl
          exact norm_ (by simp only [putAll, Act.put, qA, qB, qC]) (hCont (v477, v480, gb483) _ ⟨hHeld, (by (repeat apply Kd.RS); exact Kd.R_mono HO478.out (fun _ hk => hk.2)), (by (with_reducible repeat (first | apply Kd.Q_alloc | apply Kd.Q_drewN | apply Kd.Q_drew)); exact Kd.Q_mono HO481.out (fun _ hk => ⟨hk.1.1, ⟨hk.1.2, hk.2⟩⟩)), (by (repeat apply Kd.RS); exact Kd.R_mono HO_474001.out (fun _ hk => hk.2)), (by (with_reducible repeat (first | apply Kd.Q_alloc | apply Kd.Q_drewN | apply Kd.Q_drew)); exact Kd.Q_mono HO_474002.out (fun _ hk => ⟨hk.1.2, ⟨hk.2, hk.1.1⟩⟩)), (kS BK463), (kS BK464), (kS BK473), (kS BK483), GW483.out, GE483.out, NB463_483.out, NB483_463.out, NB464_483.out, NB483_464.out, NB473_483.out, NB483_473.out, (wZ HB)⟩)
        rintro ⟨v477, v480, gb483⟩ w54 ⟨hS_, h0_, h1_, h2_, h3_, h4_, h5_, h6_, h7_, h8_, h9_, h10_, h11_, h12_, h13_, h14_, h15_, h16_⟩
        have HO478 : Asd (Kd.R (Kd.int .i64) 3 w54 w.heap.size (fun k_ => some k_ ≠ (.slice Ao49 x474001_2.length co49 : Value).ownBlock) v477 t476) := ⟨h0_⟩
        have HO481 : Asd (Kd.Q (Kd.slice 3 (Kd.int .i64)) 55 w54 w.heap.size (fun k_ => some k_ ≠ (v477 : Value).ownBlock ∧ some k_ ≠ (.slice Ao49 x474001_2.length co49 : Value).ownBlock ∧ some k_ ≠ (.slice Ao50 x474002_2.length co50 : Value).ownBlock) v480 t479) := ⟨h1_⟩
        replace HO_474001 : Asd (Kd.R (Kd.int .i64) 3 w54 w.heap.size (fun k_ => some k_ ≠ (v477 : Value).ownBlock) (.slice Ao49 x474001_2.length co49) x474001_2) := ⟨h2_⟩
        replace HO_474002 : Asd (Kd.Q (Kd.slice 3 (Kd.int .i64)) 55 w54 w.heap.size (fun k_ => some k_ ≠ (v477 : Value).ownBlock ∧ some k_ ≠ (v480 : Value).ownBlock ∧ some k_ ≠ (.slice Ao49 x474001_2.length co49 : Value).ownBlock) (.slice Ao50 x474002_2.length co50) x474002_2) := ⟨h3_⟩
        replace BK463 : Asd (w54.heap[gb463]? = some (.cells #[.int .i64 a0_0, .slice A0_1 l0_1.length c0_1, .slice A0_2 l0_2.length c0_2] 58 (0, 0))) := ⟨h4_⟩
        replace BK464 : Asd (w54.heap[gb464]? = some (.cells #[.int .i64 0, .slice none 0 0, .slice none 0 0] 58 (0, 0))) := ⟨h5_⟩
        replace BK473 : Asd (w54.heap[gb473]? = some (.cells #[.int .i64 x474000_2, .slice Ao49 x474001_2.length co49, .slice Ao50 x474002_2.length co50] 58 (0, 0))) := ⟨h6_⟩
        have BK483 : Asd (w54.heap[gb483]? = some (.cells #[.int .i64 0, .slice none 0 0, .slice none 0 0] 58 (0, 0))) := ⟨h7_⟩
        have GW483 : Asd (w.heap.size ≤ gb483) := ⟨h8_⟩
        have GE483 : Asd (w.heap.size ≤ gb483) := ⟨h9_⟩
        have NB463_483 : Asd (gb463 ≠ gb483) := ⟨h10_⟩
        have NB483_463 : Asd (gb483 ≠ gb463) := ⟨h11_⟩
        have NB464_483 : Asd (gb464 ≠ gb483) := ⟨h12_⟩
        have NB483_464 : Asd (gb483 ≠ gb464) := ⟨h13_⟩
        have NB473_483 : Asd (gb473 ≠ gb483) := ⟨h14_⟩
        have NB483_473 : Asd (gb483 ≠ gb473) := ⟨h15_⟩
        replace HB : Asd (Below w.heap.size w w54) := ⟨h16_⟩
        clear h0_ h1_ h2_ h3_ h4_ h5_ h6_ h7_ h8_ h9_ h10_ h11_ h12_ h13_ h14_ h15_ h16_
        have hHeld : w54.cell? ⟨gb473, 0, none⟩ = some (.int .i64 x474000_2) ∧ w54.cell? ⟨gb473, 1, none⟩ = some (.slice Ao49 x474001_2.length co49) ∧ w54.cell? ⟨gb473, 2, none⟩ = some (.slice Ao50 x474002_2.length co50) ∧ w54.cell? (ad474.add ((x8_2).toNat * 2)) = some (.int .i64 ((rd_T26 l1 x8_2).f0)) ∧ w54.cell? ⟨(ad474.add ((x8_2).toNat * 2)).block, (ad474.add ((x8_2).toNat * 2)).off + 1, none⟩ = some (.string ((rd_T26 l1 x8_2).f1)) := hS_
        obtain ⟨Ao56, co56, eo56⟩ := Kd.R_slice HO478.out
        (first | subst eo56 | (injection eo56 with f1_ f2_ f3_; have f4_ := f1_.symm; have f5_ := f3_.symm; clear f1_ f2_ f3_; subst f4_; subst f5_))
        obtain ⟨Ao58, co58, eo58, _⟩ := Kd.Q_slice HO481.out
        (first | subst eo58 | (injection eo58 with f1_ f2_ f3_; have f4_ := f1_.symm; have f5_ := f3_.symm; clear f1_ f2_ f3_; subst f4_; subst f5_))
        refine norm_ (a' := ?_) ?_ ?_
        rotate_left
        ·simp only [putAll, Act.put, qA, qB, qC]
         rfl
        refine one_ (i := 10) (N := none) Mk18_15 rfl rfl (one_of HT_.out (by kernel_rfl)) (by decide) (fun K hK => ?_)
        have hs55 := bC BK483 0
        have hfs55 := bkF BK483.out 0
        have hns55_0 := NB463_483.out
        have hns55_1 := NB464_483.out
        have hns55_2 := NB473_483.out
        have hms55_0 := NB483_463.out
        have hms55_1 := NB483_464.out
        have hms55_2 := NB483_473.out
        have hs57 := bC BK483 1
        have hfs57 := bkF BK483.out 1
        have hns57_0 := NB463_483.out
        have hns57_1 := NB464_483.out
        have hns57_2 := NB473_483.out
        have hms57_0 := NB483_463.out
        have hms57_1 := NB483_464.out
        have hms57_2 := NB483_473.out
        have hs59 := bC BK483 2
        have hfs59 := bkF BK483.out 2
        have hns59_0 := NB463_483.out
        have hns59_1 := NB464_483.out
        have hns59_2 := NB473_483.out
        have hms59_0 := NB483_463.out
        have hms59_1 := NB483_464.out
        have hms59_2 := NB483_473.out
        refine skip_ (w1 := ?_) (by rfl) rfl ?_ ?_
        rotate_left
        ·go_simp
         rfl
        refine hK.out _ _ ⟨((cell_far (p := ⟨gb483, _, none⟩) NB473_483.out _).trans (((cell_far (p := ⟨gb483, _, none⟩) NB473_483.out _).trans (((cell_far (p := ⟨gb483, _, none⟩) NB473_483.out _).trans (hHeld.1)))))), ((cell_far (p := ⟨gb483, _, none⟩) NB473_483.out _).trans (((cell_far (p := ⟨gb483, _, none⟩) NB473_483.out _).trans (((cell_far (p := ⟨gb483, _, none⟩) NB473_483.out _).trans (hHeld.2.1)))))), ((cell_far (p := ⟨gb483, _, none⟩) NB473_483.out _).trans (((cell_far (p := ⟨gb483, _, none⟩) NB473_483.out _).trans (((cell_far (p := ⟨gb483, _, none⟩) NB473_483.out _).trans (hHeld.2.2.1)))))), ((cell_far (p := ⟨gb483, _, none⟩) (by first | exact Nat.ne_of_lt (Nat.lt_of_lt_of_le (by have := World.block_lt_of_cell? _ _ hw474_0; first | rwa [add_block] at this | exact this) GW483.out) | (rw [add_block]; exact Nat.ne_of_lt (Nat.lt_of_lt_of_le (by have := World.block_lt_of_cell? _ _ hw474_0; first | rwa [add_block] at this | exact this) GW483.out)) | (show (Addr.add _ _).block ≠ _; rw [add_block]; exact Nat.ne_of_lt (Nat.lt_of_lt_of_le (by have := World.block_lt_of_cell? _ _ hw474_0; first | rwa [add_block] at this | exact this) GW483.out)) | (dsimp only; exact Nat.ne_of_lt (Nat.lt_of_lt_of_le (by have := World.block_lt_of_cell? _ _ hw474_0; first | rwa [add_block] at this | exact this) GW483.out))) _).trans (((cell_far (p := ⟨gb483, _, none⟩) (by first | exact Nat.ne_of_lt (Nat.lt_of_lt_of_le (by have := World.block_lt_of_cell? _ _ hw474_0; first | rwa [add_block] at this | exact this) GW483.out) | (rw [add_block]; exact Nat.ne_of_lt (Nat.lt_of_lt_of_le (by have := World.block_lt_of_cell? _ _ hw474_0; first | rwa [add_block] at this | exact this) GW483.out)) | (show (Addr.add _ _).block ≠ _; rw [add_block]; exact Nat.ne_of_lt (Nat.lt_of_lt_of_le (by have := World.block_lt_of_cell? _ _ hw474_0; first | rwa [add_block] at this | exact this) GW483.out)) | (dsimp only; exact Nat.ne_of_lt (Nat.lt_of_lt_of_le (by have := World.block_lt_of_cell? _ _ hw474_0; first | rwa [add_block] at this | exact this) GW483.out))) _).trans (((cell_far (p := ⟨gb483, _, none⟩) (by first | exact Nat.ne_of_lt (Nat.lt_of_lt_of_le (by have := World.block_lt_of_cell? _ _ hw474_0; first | rwa [add_block] at this | exact this) GW483.out) | (rw [add_block]; exact Nat.ne_of_lt (Nat.lt_of_lt_of_le (by have := World.block_lt_of_cell? _ _ hw474_0; first | rwa [add_block] at this | exact this) GW483.out)) | (show (Addr.add _ _).block ≠ _; rw [add_block]; exact Nat.ne_of_lt (Nat.lt_of_lt_of_le (by have := World.block_lt_of_cell? _ _ hw474_0; first | rwa [add_block] at this | exact this) GW483.out)) | (dsimp only; exact Nat.ne_of_lt (Nat.lt_of_lt_of_le (by have := World.block_lt_of_cell? _ _ hw474_0; first | rwa [add_block] at this | exact this) GW483.out))) _).trans (hHeld.2.2.2.1)))))), ((cell_far (p := ⟨gb483, _, none⟩) (by first | exact Nat.ne_of_lt (Nat.lt_of_lt_of_le (by have := World.block_lt_of_cell? _ _ hw474_1; first | rwa [add_block] at this | exact this) GW483.out) | (rw [add_block]; exact Nat.ne_of_lt (Nat.lt_of_lt_of_le (by have := World.block_lt_of_cell? _ _ hw474_1; first | rwa [add_block] at this | exact this) GW483.out)) | (show (Addr.add _ _).block ≠ _; rw [add_block]; exact Nat.ne_of_lt (Nat.lt_of_lt_of_le (by have := World.block_lt_of_cell? _ _ hw474_1; first | rwa [add_block] at this | exact this) GW483.out)) | (dsimp only; exact Nat.ne_of_lt (Nat.lt_of_lt_of_le (by have := World.block_lt_of_cell? _ _ hw474_1; first | rwa [add_block] at this | exact this) GW483.out))) _).trans (((cell_far (p := ⟨gb483, _, none⟩) (by first | exact Nat.ne_of_lt (Nat.lt_of_lt_of_le (by have := World.block_lt_of_cell? _ _ hw474_1; first | rwa [add_block] at this | exact this) GW483.out) | (rw [add_block]; exact Nat.ne_of_lt (Nat.lt_of_lt_of_le (by have := World.block_lt_of_cell? _ _ hw474_1; first | rwa [add_block] at this | exact this) GW483.out)) | (show (Addr.add _ _).block ≠ _; rw [add_block]; exact Nat.ne_of_lt (Nat.lt_of_lt_of_le (by have := World.block_lt_of_cell? _ _ hw474_1; first | rwa [add_block] at this | exact this) GW483.out)) | (dsimp only; exact Nat.ne_of_lt (Nat.lt_of_lt_of_le (by have := World.block_lt_of_cell? _ _ hw474_1; first | rwa [add_block] at this | exact this) GW483.out))) _).trans (((cell_far (p := ⟨gb483, _, none⟩) (by first | exact Nat.ne_of_lt (Nat.lt_of_lt_of_le (by have := World.block_lt_of_cell? _ _ hw474_1; first | rwa [add_block] at this | exact this) GW483.out) | (rw [add_block]; exact Nat.ne_of_lt (Nat.lt_of_lt_of_le (by have := World.block_lt_of_cell? _ _ hw474_1; first | rwa [add_block] at this | exact this) GW483.out)) | (show (Addr.add _ _).block ≠ _; rw [add_block]; exact Nat.ne_of_lt (Nat.lt_of_lt_of_le (by have := World.block_lt_of_cell? _ _ hw474_1; first | rwa [add_block] at this | exact this) GW483.out)) | (dsimp only; exact Nat.ne_of_lt (Nat.lt_of_lt_of_le (by have := World.block_lt_of_cell? _ _ hw474_1; first | rwa [add_block] at this | exact this) GW483.out))) _).trans (hHeld.2.2.2.2))))))⟩ (fun hHeld => ?_)
        clear hK K
        refine pure_ (i := 11) (N := some 10) (v := ?_) (a' := ?_) Mk18_16 rfl rfl (any_of HT_.out (by kernel_rfl)) (fun _ _ _ h => h) (Or.inl ⟨by rfl, ?_⟩) ?_ ?_
        rotate_left
        ·intro w'
         go_simp
         with_reducible rfl
        rotate_left
        ·simp only [Act.put, qA, qB, qC, i64_w, i32_w]
         rfl
        refine done_ (done_of HT_.out (by kernel_rfl)) ?_
        try go_wp2
        go_roundg k2
        case measure => have := HJ2.out; have := HK2.out; omega
        case rel => exact ⟨(x7_2), (wrap64 (x8_2 + 1)), (x474000_2), (x474001_2), (x474002_2), (.slice Ao49 x474001_2.length co49), (.slice Ao50 x474002_2.length co50), (by first | rfl | (simp; done) | (simp [*]; done)), (by first | rfl | (simp; done) | (simp [*]; done)), H', ⟨by have := HJ2.out; have := HK2.out; omega⟩, ⟨rT HO_474001⟩, ⟨by (with_reducible repeat (first | apply Kd.Q_alloc | apply Kd.Q_drewN | apply Kd.Q_drew)); exact Kd.Q_mono (Kd.Q_far (p := ⟨gb483, 2, none⟩) (Kd.Q_far (p := ⟨gb483, 1, none⟩) (Kd.Q_far (p := ⟨gb483, 0, none⟩) (Kd.Q_types HO_474002.out BK483.out (by decide)) (fun _ hk => hk.2) (.int .i64 t475)) (fun _ hk => hk.2) (.slice Ao56 t476.length co56)) (fun _ hk => hk.2) (.slice Ao58 t479.length co58)) (fun _ hk => hk.1.2.2)⟩, ⟨kS BK463⟩, ⟨kS BK464⟩, ⟨kS BK473⟩, ⟨wZ HB⟩⟩
      ·rw [if_neg c27] at H
       have c27b0 : decide (x8_2 < (l1.length : Int)) = false := decide_eq_false c27
       clear c27
       simp only [Option.some.injEq, Prod.mk.injEq] at H
       obtain ⟨rfl, rfl, rfl, rfl⟩ := H
       have hnb60 := NB473_463.out
       have hnc60 := NB463_473.out
       have hnb61 := NB473_464.out
       have hnc61 := NB464_473.out
       obtain ⟨hcz62_0, hcz62_1, hcz62_2, hfz62_0, hfz62_1, hfz62_2⟩ := b3 BK473
       have hnb63 := NB464_463.out
       have hnc63 := NB463_464.out
       obtain ⟨hcz64_0, hcz64_1, hcz64_2, hfz64_0, hfz64_1, hfz64_2⟩ := b3 BK464
       obtain ⟨Ao65, co65, eo65⟩ := Kd.R_slice HO_474001.out
       subst eo65
       obtain ⟨Ao66, co66, eo66, _⟩ := Kd.Q_slice HO_474002.out
       subst eo66
       go_wp2
       refine bodyPost_ret (results_ct rfl _ _ gb464 58 #[.int .i64 x474000_2, .slice Ao65 x474001_2.length co65, .slice Ao66 x474002_2.length co66] (0, 0) _ rfl (kP BK464) Try.underlying58 rfl (by kernel_rfl)) rfl ?_
       exact ⟨_, _, by first | rfl | (simp [*, errW_none, errW_some] <;> rfl), rT HO_474001, by (with_reducible repeat (first | apply Kd.Q_alloc | apply Kd.Q_drewN | apply Kd.Q_drew)); exact Kd.Q_mono (Kd.Q_far (p := ⟨gb464, 2, none⟩) (Kd.Q_far (p := ⟨gb464, 1, none⟩) (Kd.Q_far (p := ⟨gb464, 0, none⟩) (Kd.Q_types HO_474002.out BK464.out (by decide)) (fun _ hk => hk.2) (.int .i64 x474000_2)) (fun _ hk => hk.2) (.slice Ao65 x474001_2.length co65)) (fun _ hk => hk.2) (.slice Ao66 x474002_2.length co66)) (fun _ hk => hk.1), wZ HB⟩

end Go.Proofs.Ytihgpkohglcijaa.P
