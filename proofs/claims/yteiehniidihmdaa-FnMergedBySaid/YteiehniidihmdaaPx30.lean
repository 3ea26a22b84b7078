-- Written by a program of this session (wip/hook.py), which runs the kit's printer; Lean checks it.
import Derived.Test.YteiehniidihmdaaPx0
import Derived.Test.YteiehniidihmdaaPx1
import Derived.Test.YteiehniidihmdaaPx5
import Derived.Test.YteiehniidihmdaaPx9
import Derived.Test.YteiehniidihmdaaPx20
namespace Go.Proofs.Yteiehniidihmdaa.P
open Go.RowKit Go.Proofs.YteiehniidihmdaaW.PrintWords Go.Proofs.YteiehniidihmdaaW.PrintLast Go.Proofs.YteiehniidihmdaaW.PrintMore
attribute [local go_sem] max2_int min2_int max_two min_two max_three min_three max_four min_four   -- for this text's walks alone
set_option linter.unusedVariables false
set_option linter.unusedSimpArgs false

/-! ### spec_MergedBy: function 67 -/
mutual
def spec_MergedBy.j0 : Nat → Int → List Int → Int → Int → Bool → Option (Int)
  | 0, _, _, _, _, _ => none
  | k + 1, x0, x1, x2, x3, x27 => if x27 = true then (some (-1)) else (spec_MergedBy.l0 k x0 x1 x2 x3 (-1) 0 0)
def spec_MergedBy.l0 : Nat → Int → List Int → Int → Int → Int → Int → Int → Option (Int)
  | 0, _, _, _, _, _, _, _ => none
  | k + 1, x0, x1, x2, x3, x9, x10, x11 => if 0 ≤ x0 then (if x11 < (shl .i64 1 x0) then ((spec_l1Bit.f x2 x11).bind fun t883 => (if t883 = 0 then (spec_MergedBy.l0 k x0 x1 x2 x3 x9 x10 (wrap64 (x11 + 1))) else ((spec_DistancesOf.f k x0 x1 x11).bind fun t884 => ((spec_l8Weight.f k t884 x3).bind fun t887 => (if x9 < 0 then (spec_MergedBy.j2 k x0 x1 x2 x3 x9 x10 x11 t887 true) else (spec_MergedBy.j2 k x0 x1 x2 x3 x9 x10 x11 t887 (decide (t887 < x9)))))))) else (some x10)) else (none)
def spec_MergedBy.j2 : Nat → Int → List Int → Int → Int → Int → Int → Int → Int → Bool → Option (Int)
  | 0, _, _, _, _, _, _, _, _, _ => none
  | k + 1, x0, x1, x2, x3, x9, x10, x11, x12, x50 => if x50 = true then (if x12 = x12 then (if 0 ≤ x11 then (spec_MergedBy.l0 k x0 x1 x2 x3 x12 (wrap64 (0 + (shl .i64 1 x11))) (wrap64 (x11 + 1))) else (none)) else (spec_MergedBy.l0 k x0 x1 x2 x3 x12 0 (wrap64 (x11 + 1)))) else (if x12 = x9 then (if 0 ≤ x11 then (spec_MergedBy.l0 k x0 x1 x2 x3 x9 (wrap64 (x10 + (shl .i64 1 x11))) (wrap64 (x11 + 1))) else (none)) else (spec_MergedBy.l0 k x0 x1 x2 x3 x9 x10 (wrap64 (x11 + 1))))
end
def spec_MergedBy.f (k : Nat) (a0 : Int) (l1 : List Int) (a2 : Int) (a3 : Int) : Option (Int) := (spec_MindsOk.f k a0 l1).bind fun t880 => (if t880 = true then ((spec_SetOk.f a0 a2).bind fun t881 => (if t881 = true then ((spec_l1In.f a3 0 2).bind fun t882 => (spec_MergedBy.j0 k a0 l1 a2 a3 (!t882))) else (spec_MergedBy.j0 k a0 l1 a2 a3 true))) else (spec_MergedBy.j0 k a0 l1 a2 a3 true))
theorem spec_MergedBy.mono_l : ∀ k, (∀ y0 y1 y2 y3 y4, LeO (spec_MergedBy.j0 k y0 y1 y2 y3 y4) (spec_MergedBy.j0 (k + 1) y0 y1 y2 y3 y4)) ∧ (∀ y0 y1 y2 y3 y4 y5 y6, LeO (spec_MergedBy.l0 k y0 y1 y2 y3 y4 y5 y6) (spec_MergedBy.l0 (k + 1) y0 y1 y2 y3 y4 y5 y6)) ∧ (∀ y0 y1 y2 y3 y4 y5 y6 y7 y8, LeO (spec_MergedBy.j2 k y0 y1 y2 y3 y4 y5 y6 y7 y8) (spec_MergedBy.j2 (k + 1) y0 y1 y2 y3 y4 y5 y6 y7 y8))
  | 0 => ⟨fun _ _ _ _ _ r h => by simp [spec_MergedBy.j0] at h, fun _ _ _ _ _ _ _ r h => by simp [spec_MergedBy.l0] at h, fun _ _ _ _ _ _ _ _ _ r h => by simp [spec_MergedBy.j2] at h⟩
  | k + 1 => by
    obtain ⟨ih0, ih1, ih2⟩ := spec_MergedBy.mono_l k
    refine ⟨?_, ?_, ?_⟩
    · intro y0 y1 y2 y3 y4
      unfold spec_MergedBy.j0
      repeat' first
      | (with_reducible exact ih0 _ _ _ _ _)
      | (with_reducible exact ih1 _ _ _ _ _ _ _)
      | (with_reducible exact ih2 _ _ _ _ _ _ _ _ _)
      | (with_reducible exact spec_DistancesOf.mono _ _ _ _)
      | (with_reducible exact spec_MindsOk.mono _ _ _)
      | (with_reducible exact spec_l8Weight.mono _ _ _)
      | (with_reducible exact LeO.refl _)
      | (with_reducible exact LeO.none _)
      | (with_reducible refine LeO.ite ?_ ?_)
      | (with_reducible refine LeO.bind ?_ (fun _ => ?_))
      | exact ih0 _ _ _ _ _
      | exact ih1 _ _ _ _ _ _ _
      | exact ih2 _ _ _ _ _ _ _ _ _
      | exact spec_DistancesOf.mono _ _ _ _
      | exact spec_MindsOk.mono _ _ _
      | exact spec_l8Weight.mono _ _ _
      | exact LeO.none _
      | refine LeO.ite ?_ ?_
      | refine LeO.bind ?_ (fun _ => ?_)
    · intro y0 y1 y2 y3 y4 y5 y6
      unfold spec_MergedBy.l0
      repeat' first
      | (with_reducible exact ih0 _ _ _ _ _)
      | (with_reducible exact ih1 _ _ _ _ _ _ _)
      | (with_reducible exact ih2 _ _ _ _ _ _ _ _ _)
      | (with_reducible exact spec_DistancesOf.mono _ _ _ _)
      | (with_reducible exact spec_MindsOk.mono _ _ _)
      | (with_reducible exact spec_l8Weight.mono _ _ _)
      | (with_reducible exact LeO.refl _)
      | (with_reducible exact LeO.none _)
      | (with_reducible refine LeO.ite ?_ ?_)
      | (with_reducible refine LeO.bind ?_ (fun _ => ?_))
      | exact ih0 _ _ _ _ _
      | exact ih1 _ _ _ _ _ _ _
      | exact ih2 _ _ _ _ _ _ _ _ _
      | exact spec_DistancesOf.mono _ _ _ _
      | exact spec_MindsOk.mono _ _ _
      | exact spec_l8Weight.mono _ _ _
      | exact LeO.none _
      | refine LeO.ite ?_ ?_
      | refine LeO.bind ?_ (fun _ => ?_)
    · intro y0 y1 y2 y3 y4 y5 y6 y7 y8
      unfold spec_MergedBy.j2
      repeat' first
      | (with_reducible exact ih0 _ _ _ _ _)
      | (with_reducible exact ih1 _ _ _ _ _ _ _)
      | (with_reducible exact ih2 _ _ _ _ _ _ _ _ _)
      | (with_reducible exact spec_DistancesOf.mono _ _ _ _)
      | (with_reducible exact spec_MindsOk.mono _ _ _)
      | (with_reducible exact spec_l8Weight.mono _ _ _)
      | (with_reducible exact LeO.refl _)
      | (with_reducible exact LeO.none _)
      | (with_reducible refine LeO.ite ?_ ?_)
      | (with_reducible refine LeO.bind ?_ (fun _ => ?_))
      | exact ih0 _ _ _ _ _
      | exact ih1 _ _ _ _ _ _ _
      | exact ih2 _ _ _ _ _ _ _ _ _
      | exact spec_DistancesOf.mono _ _ _ _
      | exact spec_MindsOk.mono _ _ _
      | exact spec_l8Weight.mono _ _ _
      | exact LeO.none _
      | refine LeO.ite ?_ ?_
      | refine LeO.bind ?_ (fun _ => ?_)
theorem spec_MergedBy.mono : ∀ a0 a1 a2 a3 k, LeO (spec_MergedBy.f k a0 a1 a2 a3) (spec_MergedBy.f (k + 1) a0 a1 a2 a3) := by
  intro a0 a1 a2 a3 k
  obtain ⟨ih0, ih1, ih2⟩ := spec_MergedBy.mono_l k
  unfold spec_MergedBy.f
  repeat' first
      | (with_reducible exact ih0 _ _ _ _ _)
      | (with_reducible exact ih1 _ _ _ _ _ _ _)
      | (with_reducible exact ih2 _ _ _ _ _ _ _ _ _)
      | (with_reducible exact spec_DistancesOf.mono _ _ _ _)
      | (with_reducible exact spec_MindsOk.mono _ _ _)
      | (with_reducible exact spec_l8Weight.mono _ _ _)
      | (with_reducible exact LeO.refl _)
      | (with_reducible exact LeO.none _)
      | (with_reducible refine LeO.ite ?_ ?_)
      | (with_reducible refine LeO.bind ?_ (fun _ => ?_))
      | exact ih0 _ _ _ _ _
      | exact ih1 _ _ _ _ _ _ _
      | exact ih2 _ _ _ _ _ _ _ _ _
      | exact spec_DistancesOf.mono _ _ _ _
      | exact spec_MindsOk.mono _ _ _
      | exact spec_l8Weight.mono _ _ _
      | exact LeO.none _
      | refine LeO.ite ?_ ?_
      | refine LeO.bind ?_ (fun _ => ?_)
set_option maxHeartbeats 8000000 in
set_option maxRecDepth 100000 in
theorem spec_MergedBy.calls (k : Nat) (a0 : Int) (A1 : Option Addr) (c1 : Nat) (l1 : List Int) (a2 : Int) (a3 : Int) (r : Int) (w : World) (hr1 : Kd.C (Kd.int .i64) w A1 l1.length l1) (hc1 : l1.length ≤ c1) (h : spec_MergedBy.f k a0 l1 a2 a3 = some r) :
    Calls Try.prog 67 #[.int .i64 a0, .slice A1 l1.length c1, .int .i64 a2, .int .i64 a3] w fun e w' => e = .returned (.int .i64 r) ∧ Below w.heap.size w w' := by
  have HR1 := Aside0.mk hr1
  have HC1 := Aside0.mk hc1
  clear hr1 hc1
  have HB := Aside0.mk (Below.refl w.heap.size w)
  have H : ((spec_MindsOk.f k a0 l1).bind fun t880 => (if t880 = true then ((spec_SetOk.f a0 a2).bind fun t881 => (if t881 = true then ((spec_l1In.f a3 0 2).bind fun t882 => (spec_MergedBy.j0 k a0 l1 a2 a3 (!t882))) else (spec_MergedBy.j0 k a0 l1 a2 a3 true))) else (spec_MergedBy.j0 k a0 l1 a2 a3 true))) = some r := h
  clear h
  have HC5 := Aside0.mk H
  clear H
  go_enter Try.func67, Try.ntmps67
  go_upto_region 1 with (fail)
  go_cut [27] (fun v27 wc => ∃ (kq : Nat) (x27_4 : Bool), v27 = .bool x27_4 ∧ Aside0 (spec_MergedBy.j0 kq a0 l1 a2 a3 x27_4 = some r) ∧ Aside0 (kq ≤ k) ∧ Aside0 (Below w.heap.size w wc))
  case first =>
    have H := HC5.out
    clear HC5
    replace H := Option.bind_eq_some_iff.mp H
    obtain ⟨t880, A60, H⟩ := H
    replace H : (if t880 = true then ((spec_SetOk.f a0 a2).bind fun t881 => (if t881 = true then ((spec_l1In.f a3 0 2).bind fun t882 => (spec_MergedBy.j0 k a0 l1 a2 a3 (!t882))) else (spec_MergedBy.j0 k a0 l1 a2 a3 true))) else (spec_MergedBy.j0 k a0 l1 a2 a3 true)) = some r := H
    have A6 := Aside0.mk A60
    clear A60
    by_cases c7 : t880 = true
    · subst c7
      have H1 : ((spec_SetOk.f a0 a2).bind fun t881 => (if t881 = true then ((spec_l1In.f a3 0 2).bind fun t882 => (spec_MergedBy.j0 k a0 l1 a2 a3 (!t882))) else (spec_MergedBy.j0 k a0 l1 a2 a3 true))) = some r := by rw [if_pos rfl] at H; exact H
      clear H
      have H := H1
      clear H1
      replace H := Option.bind_eq_some_iff.mp H
      obtain ⟨t881, A80, H⟩ := H
      replace H : (if t881 = true then ((spec_l1In.f a3 0 2).bind fun t882 => (spec_MergedBy.j0 k a0 l1 a2 a3 (!t882))) else (spec_MergedBy.j0 k a0 l1 a2 a3 true)) = some r := H
      have A8 := Aside0.mk A80
      clear A80
      by_cases c9 : t881 = true
      · subst c9
        have H1 : ((spec_l1In.f a3 0 2).bind fun t882 => (spec_MergedBy.j0 k a0 l1 a2 a3 (!t882))) = some r := by rw [if_pos rfl] at H; exact H
        clear H
        have H := H1
        clear H1
        replace H := Option.bind_eq_some_iff.mp H
        obtain ⟨t882, A100, H⟩ := H
        replace H : (spec_MergedBy.j0 k a0 l1 a2 a3 (!t882)) = some r := H
        have A10 := Aside0.mk A100
        clear A100
        have H' := Aside0.mk H
        clear H
        go_wp2_with (first | ((with_reducible refine gate_callee (f := 29) rfl ?_); refine goesL_ (some 15) rfl rfl Try.func29 (by kernel_rfl) rfl #[.int .i64 a0, .slice A1 l1.length c1] rfl (by (try simp only [List.map_toArray, List.map_cons, List.map_nil]); first | done | rfl | (simp only [List.length_drop, List.length_take]; rfl)) ?_; (with_reducible refine (spec_MindsOk.calls k a0 _ _ l1 true _ ?side1 ?side2 A6.out).mono ?_); (case side1 => repeat (first | exact (Kd.C_below HR1.out HB.out) | (with_reducible refine Kd.C_alloc ?_ _) | (with_reducible refine Kd.C_drewN ?_ _) | (with_reducible refine Kd.C_drew ?_))); (case side2 => exact HC1.out); rintro e w' ⟨rfl, ⟨nd, rfl⟩⟩; refine ⟨_, rfl, ?_⟩) | (go_at_call 59; (with_reducible refine (spec_SetOk.calls a0 a2 true _ A8.out).mono ?_); rintro e w' ⟨rfl, ⟨nd, rfl⟩⟩) | (go_at_call 73; (with_reducible refine (spec_l1In.calls a3 0 2 t882 _ A10.out).mono ?_); rintro e w' ⟨rfl, ⟨nd, rfl⟩⟩))
        go_meet
        case rel => exact ⟨_, (!t882), (by first | rfl | (simp; done) | (simp [*]; done)), H', ⟨by first | omega | exact Nat.le_refl _⟩, ⟨by repeat (first | (with_reducible first | exact HB.out | apply below_alloc | apply pw_below_drewN | apply below_drew1) | exact HB.out)⟩⟩
      · replace c9 := Bool.eq_false_iff.mpr c9
        subst c9
        have H1 : (spec_MergedBy.j0 k a0 l1 a2 a3 true) = some r := by rw [if_neg (show ¬ (false = true) by decide)] at H; exact H
        clear H
        have H := H1
        clear H1
        have H' := Aside0.mk H
        clear H
        go_wp2_with (first | ((with_reducible refine gate_callee (f := 29) rfl ?_); refine goesL_ (some 15) rfl rfl Try.func29 (by kernel_rfl) rfl #[.int .i64 a0, .slice A1 l1.length c1] rfl (by (try simp only [List.map_toArray, List.map_cons, List.map_nil]); first | done | rfl | (simp only [List.length_drop, List.length_take]; rfl)) ?_; (with_reducible refine (spec_MindsOk.calls k a0 _ _ l1 true _ ?side1 ?side2 A6.out).mono ?_); (case side1 => repeat (first | exact (Kd.C_below HR1.out HB.out) | (with_reducible refine Kd.C_alloc ?_ _) | (with_reducible refine Kd.C_drewN ?_ _) | (with_reducible refine Kd.C_drew ?_))); (case side2 => exact HC1.out); rintro e w' ⟨rfl, ⟨nd, rfl⟩⟩; refine ⟨_, rfl, ?_⟩) | (go_at_call 59; (with_reducible refine (spec_SetOk.calls a0 a2 false _ A8.out).mono ?_); rintro e w' ⟨rfl, ⟨nd, rfl⟩⟩))
        go_meet
        case rel => exact ⟨_, (true), (by first | rfl | (simp; done) | (simp [*]; done)), H', ⟨by first | omega | exact Nat.le_refl _⟩, ⟨by repeat (first | (with_reducible first | exact HB.out | apply below_alloc | apply pw_below_drewN | apply below_drew1) | exact HB.out)⟩⟩
    · replace c7 := Bool.eq_false_iff.mpr c7
      subst c7
      have H1 : (spec_MergedBy.j0 k a0 l1 a2 a3 true) = some r := by rw [if_neg (show ¬ (false = true) by decide)] at H; exact H
      clear H
      have H := H1
      clear H1
      have H' := Aside0.mk H
      clear H
      go_wp2_with (first | ((with_reducible refine gate_callee (f := 29) rfl ?_); refine goesL_ (some 15) rfl rfl Try.func29 (by kernel_rfl) rfl #[.int .i64 a0, .slice A1 l1.length c1] rfl (by (try simp only [List.map_toArray, List.map_cons, List.map_nil]); first | done | rfl | (simp only [List.length_drop, List.length_take]; rfl)) ?_; (with_reducible refine (spec_MindsOk.calls k a0 _ _ l1 false _ ?side1 ?side2 A6.out).mono ?_); (case side1 => repeat (first | exact (Kd.C_below HR1.out HB.out) | (with_reducible refine Kd.C_alloc ?_ _) | (with_reducible refine Kd.C_drewN ?_ _) | (with_reducible refine Kd.C_drew ?_))); (case side2 => exact HC1.out); rintro e w' ⟨rfl, ⟨nd, rfl⟩⟩; refine ⟨_, rfl, ?_⟩))
      go_meet
      case rel => exact ⟨_, (true), (by first | rfl | (simp; done) | (simp [*]; done)), H', ⟨by first | omega | exact Nat.le_refl _⟩, ⟨by repeat (first | (with_reducible first | exact HB.out | apply below_alloc | apply pw_below_drewN | apply below_drew1) | exact HB.out)⟩⟩
  case rest =>
    clear HC5
    try clear c1
    try clear c2
    try clear p2
    try clear c6
    try clear c7
    try clear c9
    obtain ⟨kq, x27_4, rfl, HA, HJ4, HB⟩ := hcut
    cases kq with
    | zero => exact absurd HA.out (by simp [spec_MergedBy.j0])
    | succ kj4 =>
      have H := HA.out
      clear HA
      simp only [spec_MergedBy.j0] at H
      by_cases c11 : x27_4 = true
      · subst c11
        have H1 : (some (-1)) = some r := by rw [if_pos rfl] at H; exact H
        clear H
        have H := H1
        clear H1
        obtain rfl := Option.some.inj H
        go_wp2
        go_ret
        exact ⟨by first | rfl | (simp [errW_none, errW_some] <;> rfl) | (simp [*, errW_none, errW_some] <;> rfl), by repeat (first | (with_reducible first | exact HB.out | apply below_alloc | apply pw_below_drewN | apply below_drew1) | exact HB.out)⟩
      · replace c11 := Bool.eq_false_iff.mpr c11
        subst c11
        have H1 : (spec_MergedBy.l0 kj4 a0 l1 a2 a3 (-1) 0 0) = some r := by rw [if_neg (show ¬ (false = true) by decide)] at H; exact H
        clear H
        have H := H1
        clear H1
        have H' := Aside0.mk H
        clear H
        go_wp2
        go_loopg [9, 10, 11] kj4 (fun kq v9 v10 v11 w' => ∃ (x9_2 : Int) (x10_2 : Int) (x11_2 : Int), v9 = .int .i64 x9_2 ∧ v10 = .int .i64 x10_2 ∧ v11 = .int .i64 x11_2 ∧ Aside0 (spec_MergedBy.l0 kq a0 l1 a2 a3 x9_2 x10_2 x11_2 = some r) ∧ Aside0 (kq ≤ kj4) ∧ Aside0 (Below w.heap.size w w'))
        case atStart => exact ⟨((-1)), (0), (0), (by first | rfl | (simp; done) | (simp [*]; done)), (by first | rfl | (simp; done) | (simp [*]; done)), (by first | rfl | (simp; done) | (simp [*]; done)), H', ⟨Nat.le_refl _⟩, ⟨by repeat (first | (with_reducible first | exact HB.out | apply below_alloc | apply pw_below_drewN | apply below_drew1) | exact HB.out)⟩⟩
        case round =>
          clear H'
          try clear c1
          try clear c2
          try clear p2
          try clear c6
          try clear c7
          try clear c9
          try clear c11
          try clear p2
          obtain ⟨x9_2, x10_2, x11_2, rfl, rfl, rfl, HA, HK2, HB⟩ := hrel
          cases gk with
          | zero => exact absurd HA.out (by simp [spec_MergedBy.l0])
          | succ k2 =>
            have H := HA.out
            clear HA
            simp only [spec_MergedBy.l0] at H
            by_cases c12 : 0 ≤ a0
            · rw [if_pos c12] at H
              have c12b0 := eq_true c12
              have c12b1 : decide (0 ≤ a0) = true := decide_eq_true c12
              clear c12
              obtain ⟨ji13, hji13⟩ : ∃ j_ : Int, (shl .i64 1 a0) = j_ := ⟨_, rfl⟩
              replace H : (if x11_2 < (ji13) then ((spec_l1Bit.f a2 x11_2).bind fun t883 => (if t883 = 0 then (spec_MergedBy.l0 k2 a0 l1 a2 a3 x9_2 x10_2 (wrap64 (x11_2 + 1))) else ((spec_DistancesOf.f k2 a0 l1 x11_2).bind fun t884 => ((spec_l8Weight.f k2 t884 a3).bind fun t887 => (if x9_2 < 0 then (spec_MergedBy.j2 k2 a0 l1 a2 a3 x9_2 x10_2 x11_2 t887 true) else (spec_MergedBy.j2 k2 a0 l1 a2 a3 x9_2 x10_2 x11_2 t887 (decide (t887 < x9_2)))))))) else (some x10_2)) = some r := by first | (rw [hji13] at H; exact H) | (simp only [hji13] at H ⊢; exact H)
              have hji13_ : (IntKind.i64.wrap (1 * 2 ^ min a0.toNat 64)) = ji13 := hji13
              have hji13z : a0 ≤ 64 → (IntKind.i64.wrap (1 * 2 ^ a0.toNat)) = ji13 := shl_small hji13
              have hji13u : (IntKind.i64.wrap (2 ^ min a0.toNat 64)) = ji13 := by have h_ := hji13_; rw [Int.one_mul] at h_; exact h_
              have hji13v : a0 ≤ 64 → (IntKind.i64.wrap (2 ^ a0.toNat)) = ji13 := fun hle_ => by have h_ := hji13z hle_; rw [Int.one_mul] at h_; exact h_
              have hji13y : (wrap64 (1 * 2 ^ min a0.toNat 64)) = ji13 := (i64_w _).symm.trans hji13_
              have hji13x : a0 ≤ 64 → (wrap64 (1 * 2 ^ a0.toNat)) = ji13 := fun h_ => (i64_w _).symm.trans (hji13z h_)
              by_cases c14 : x11_2 < (ji13)
              · rw [if_pos c14] at H
                have c14b0 : decide (x11_2 < (ji13)) = true := decide_eq_true c14
                clear c14
                replace H := Option.bind_eq_some_iff.mp H
                obtain ⟨t883, A150, H⟩ := H
                replace H : (if t883 = 0 then (spec_MergedBy.l0 k2 a0 l1 a2 a3 x9_2 x10_2 (wrap64 (x11_2 + 1))) else ((spec_DistancesOf.f k2 a0 l1 x11_2).bind fun t884 => ((spec_l8Weight.f k2 t884 a3).bind fun t887 => (if x9_2 < 0 then (spec_MergedBy.j2 k2 a0 l1 a2 a3 x9_2 x10_2 x11_2 t887 true) else (spec_MergedBy.j2 k2 a0 l1 a2 a3 x9_2 x10_2 x11_2 t887 (decide (t887 < x9_2))))))) = some r := H
                have A15 := Aside0.mk A150
                clear A150
                by_cases c16 : t883 = 0
                · rw [if_pos c16] at H
                  have c16b0 : (t883 == 0) = true := beq_iff_eq.mpr c16
                  have c16b1 : (t883 != 0) = false := bne_eq_false_iff_eq.mpr c16
                  clear c16
                  have H' := Aside0.mk H
                  clear H
                  go_wp2_with (first | ((with_reducible refine gate_callee (f := 103) rfl ?_); refine goesL_ (some 36) rfl rfl Try.func103 (by kernel_rfl) rfl #[.int .i64 a2, .int .i64 x11_2] rfl (by (try simp only [List.map_toArray, List.map_cons, List.map_nil]); first | done | rfl | (simp only [List.length_drop, List.length_take]; rfl)) ?_; (with_reducible refine (spec_l1Bit.calls a2 x11_2 t883 _ A15.out).mono ?_); rintro e w' ⟨rfl, ⟨nd, rfl⟩⟩; refine ⟨_, rfl, ?_⟩))
                  go_roundg k2
                  case measure => have := HJ4.out; have := HK2.out; omega
                  case rel => exact ⟨(x9_2), (x10_2), (wrap64 (x11_2 + 1)), (by first | rfl | (simp; done) | (simp [*]; done)), (by first | rfl | (simp; done) | (simp [*]; done)), (by first | rfl | (simp; done) | (simp [*]; done)), H', ⟨by have := HJ4.out; have := HK2.out; omega⟩, ⟨by repeat (first | (with_reducible first | exact HB.out | apply below_alloc | apply pw_below_drewN | apply below_drew1) | exact HB.out)⟩⟩
                · rw [if_neg c16] at H
                  have c16b0 : (t883 == 0) = false := beq_eq_false_iff_ne.mpr c16
                  have c16b1 : (t883 != 0) = true := bne_iff_ne.mpr c16
                  replace H := Option.bind_eq_some_iff.mp H
                  obtain ⟨t884, A170, H⟩ := H
                  replace H : ((spec_l8Weight.f k2 t884 a3).bind fun t887 => (if x9_2 < 0 then (spec_MergedBy.j2 k2 a0 l1 a2 a3 x9_2 x10_2 x11_2 t887 true) else (spec_MergedBy.j2 k2 a0 l1 a2 a3 x9_2 x10_2 x11_2 t887 (decide (t887 < x9_2))))) = some r := H
                  have A17 := Aside0.mk A170
                  clear A170
                  replace H := Option.bind_eq_some_iff.mp H
                  obtain ⟨t887, A180, H⟩ := H
                  replace H : (if x9_2 < 0 then (spec_MergedBy.j2 k2 a0 l1 a2 a3 x9_2 x10_2 x11_2 t887 true) else (spec_MergedBy.j2 k2 a0 l1 a2 a3 x9_2 x10_2 x11_2 t887 (decide (t887 < x9_2)))) = some r := H
                  have A18 := Aside0.mk A180
                  clear A180
                  have HC19 := Aside0.mk H
                  clear H
                  go_upto_region 10 with (first | ((with_reducible refine gate_callee (f := 103) rfl ?_); refine goesL_ (some 36) rfl rfl Try.func103 (by kernel_rfl) rfl #[.int .i64 a2, .int .i64 x11_2] rfl (by (try simp only [List.map_toArray, List.map_cons, List.map_nil]); first | done | rfl | (simp only [List.length_drop, List.length_take]; rfl)) ?_; (with_reducible refine (spec_l1Bit.calls a2 x11_2 t883 _ A15.out).mono ?_); rintro e w' ⟨rfl, ⟨nd, rfl⟩⟩; refine ⟨_, rfl, ?_⟩) | ((with_reducible refine gate_callee (f := 62) rfl ?_); refine goesL_ (some 41) rfl rfl Try.func62 (by kernel_rfl) rfl #[.int .i64 a0, .slice A1 l1.length c1, .int .i64 x11_2] rfl (by (try simp only [List.map_toArray, List.map_cons, List.map_nil]); first | done | rfl | (simp only [List.length_drop, List.length_take]; rfl)) ?_; (with_reducible refine (spec_DistancesOf.calls k2 a0 _ _ l1 x11_2 t884 _ ?side1 ?side2 A17.out).mono ?_); (case side1 => repeat (first | exact (Kd.C_below HR1.out (by repeat (first | (with_reducible first | exact HB.out | apply below_alloc | apply pw_below_drewN | apply below_drew1) | exact HB.out))) | (with_reducible refine Kd.C_alloc ?_ _) | (with_reducible refine Kd.C_drewN ?_ _) | (with_reducible refine Kd.C_drew ?_))); (case side2 => exact HC1.out); rintro e w20 ⟨v885, rfl, ho0, hb⟩; refine ⟨_, rfl, ?_⟩; have n0_ := Aside0.mk (Kd.R_lower ho0 (below_size (by repeat (first | (with_reducible first | exact HB.out | apply below_alloc | apply pw_below_drewN | apply below_drew1) | exact HB.out)))); have n1_ := Aside0.mk (below_step (by repeat (first | (with_reducible first | exact HB.out | apply below_alloc | apply pw_below_drewN | apply below_drew1) | exact HB.out)) hb); clear HB; have HO886 := n0_; have HB := n1_; clear n0_ n1_; (try clear hb); (try clear hb2); (try clear hk); (try clear hi); (try clear ho0); obtain ⟨Ao21, co21, eo21⟩ := Kd.R_slice HO886.out; subst eo21) | ((with_reducible refine gate_callee (f := 101) rfl ?_); refine goesL_ (some 43) rfl rfl Try.func101 (by kernel_rfl) rfl #[.slice Ao21 t884.length co21, .int .i64 a3] rfl (by (try simp only [List.map_toArray, List.map_cons, List.map_nil]); first | done | rfl | (simp only [List.length_drop, List.length_take]; rfl)) ?_; (with_reducible refine (spec_l8Weight.calls k2 _ _ t884 a3 t887 _ ?side1 ?side2 A18.out).mono ?_); (case side1 => repeat (first | exact (Kd.R_reads' HO886.out).2.2 | (with_reducible refine Kd.C_alloc ?_ _) | (with_reducible refine Kd.C_drewN ?_ _) | (with_reducible refine Kd.C_drew ?_))); (case side2 => exact (Kd.R_reads' HO886.out).2.1); rintro e w22 ⟨rfl, hb⟩; refine ⟨_, rfl, ?_⟩; have n0_ := Aside0.mk (Kd.R_below (by (with_reducible repeat (first | apply Kd.R_alloc | apply Kd.R_drewN | apply Kd.R_drew)); exact HO886.out) hb); have n1_ := Aside0.mk (below_step (by repeat (first | (with_reducible first | exact HB.out | apply below_alloc | apply pw_below_drewN | apply below_drew1) | exact HB.out)) hb); clear HO886; clear HB; have HO886 := n0_; have HB := n1_; clear n0_ n1_; (try clear hb); (try clear hb2); (try clear hk); (try clear hi)))
                  (try simp only [Act.put, List.setIfInBounds_toArray, List.set_cons_zero, List.set_cons_succ])
                  go_cut [50] (fun v50 wc => ∃ (kq : Nat) (x50_18 : Bool), v50 = .bool x50_18 ∧ Aside0 (spec_MergedBy.j2 kq a0 l1 a2 a3 x9_2 x10_2 x11_2 t887 x50_18 = some r) ∧ Aside0 (kq ≤ k2) ∧ Aside0 (Below w.heap.size w wc))
                  case first =>
                    have H := HC19.out
                    clear HC19
                    by_cases c23 : x9_2 < 0
                    · rw [if_pos c23] at H
                      have c23b0 : decide (x9_2 < 0) = true := decide_eq_true c23
                      clear c23
                      (first | rw [c23b0] | (simp only [i64_w, i32_w]; rw [c23b0]) | skip)
                      have H' := Aside0.mk H
                      clear H
                      go_wp2
                      go_meet
                      case rel => exact ⟨_, (true), (by first | rfl | (simp; done) | (simp [*]; done)), H', ⟨by have := HJ4.out; have := HK2.out; first | omega | exact Nat.le_refl _⟩, ⟨by repeat (first | (with_reducible first | exact HB.out | apply below_alloc | apply pw_below_drewN | apply below_drew1) | exact HB.out)⟩⟩
                    · rw [if_neg c23] at H
                      have c23b0 : decide (x9_2 < 0) = false := decide_eq_false c23
                      clear c23
                      (first | rw [c23b0] | (simp only [i64_w, i32_w]; rw [c23b0]) | skip)
                      have H' := Aside0.mk H
                      clear H
                      go_wp2
                      go_meet
                      case rel => exact ⟨_, (decide (t887 < x9_2)), (by first | rfl | (simp; done) | (simp [*]; done)), H', ⟨by have := HJ4.out; have := HK2.out; first | omega | exact Nat.le_refl _⟩, ⟨by repeat (first | (with_reducible first | exact HB.out | apply below_alloc | apply pw_below_drewN | apply below_drew1) | exact HB.out)⟩⟩
                  case rest =>
                    clear HC19
                    try clear c1
                    try clear c2
                    try clear p2
                    try clear c6
                    try clear p6
                    try clear c7
                    try clear c9
                    try clear c10
                    try clear c11
                    try clear c12
                    try clear c12b0
                    try clear c12b1
                    try clear c14
                    try clear c14b0
                    try clear c16
                    try clear c16b0
                    try clear c16b1
                    try clear c23
                    try clear c23b0
                    try clear p2
                    obtain ⟨kq, x50_18, rfl, HA, HJ18, HB⟩ := hcut
                    cases kq with
                    | zero => exact absurd HA.out (by simp [spec_MergedBy.j2])
                    | succ kj18 =>
                      have H := HA.out
                      clear HA
                      simp only [spec_MergedBy.j2] at H
                      by_cases c24 : x50_18 = true
                      · subst c24
                        have H1 : (if t887 = t887 then (if 0 ≤ x11_2 then (spec_MergedBy.l0 kj18 a0 l1 a2 a3 t887 (wrap64 (0 + (shl .i64 1 x11_2))) (wrap64 (x11_2 + 1))) else (none)) else (spec_MergedBy.l0 kj18 a0 l1 a2 a3 t887 0 (wrap64 (x11_2 + 1)))) = some r := by rw [if_pos rfl] at H; first | exact H | (simp only [eq_self, if_true] at H ⊢; exact H)
                        clear H
                        have H := H1
                        clear H1
                        by_cases c25 : t887 = t887
                        · rw [if_pos c25] at H
                          have c25b0 : (t887 == t887) = true := beq_iff_eq.mpr c25
                          have c25b1 : (t887 != t887) = false := bne_eq_false_iff_eq.mpr c25
                          clear c25
                          by_cases c26 : 0 ≤ x11_2
                          · rw [if_pos c26] at H
                            have c26b0 := eq_true c26
                            have c26b1 : decide (0 ≤ x11_2) = true := decide_eq_true c26
                            clear c26
                            obtain ⟨ji27, hji27⟩ : ∃ j_ : Int, (shl .i64 1 x11_2) = j_ := ⟨_, rfl⟩
                            replace H : (spec_MergedBy.l0 kj18 a0 l1 a2 a3 t887 (wrap64 (0 + (ji27))) (wrap64 (x11_2 + 1))) = some r := by first | (rw [hji27] at H; exact H) | (simp only [hji27] at H ⊢; exact H)
                            have hji27_ : (IntKind.i64.wrap (1 * 2 ^ min x11_2.toNat 64)) = ji27 := hji27
                            have hji27z : x11_2 ≤ 64 → (IntKind.i64.wrap (1 * 2 ^ x11_2.toNat)) = ji27 := shl_small hji27
                            have hji27u : (IntKind.i64.wrap (2 ^ min x11_2.toNat 64)) = ji27 := by have h_ := hji27_; rw [Int.one_mul] at h_; exact h_
                            have hji27v : x11_2 ≤ 64 → (IntKind.i64.wrap (2 ^ x11_2.toNat)) = ji27 := fun hle_ => by have h_ := hji27z hle_; rw [Int.one_mul] at h_; exact h_
                            have hji27y : (wrap64 (1 * 2 ^ min x11_2.toNat 64)) = ji27 := (i64_w _).symm.trans hji27_
                            have hji27x : x11_2 ≤ 64 → (wrap64 (1 * 2 ^ x11_2.toNat)) = ji27 := fun h_ => (i64_w _).symm.trans (hji27z h_)
                            have H' := Aside0.mk H
                            clear H
                            go_wp2
                            go_roundg kj18
                            case measure => have := HJ4.out; have := HK2.out; have := HJ18.out; omega
                            case rel => exact ⟨(t887), (wrap64 (0 + (ji27))), (wrap64 (x11_2 + 1)), (by first | rfl | (simp; done) | (simp [*]; done)), (by first | rfl | (simp; done) | (simp only [← hji27] <;> (first | rfl | simp)) | (simp [*]; done)), (by first | rfl | (simp; done) | (simp [*]; done)), H', ⟨by have := HJ4.out; have := HK2.out; have := HJ18.out; omega⟩, ⟨by repeat (first | (with_reducible first | exact HB.out | apply below_alloc | apply pw_below_drewN | apply below_drew1) | exact HB.out)⟩⟩
                          · rw [if_neg c26] at H
                            exact absurd H (by simp)
                        · exact absurd (by first | rfl | trivial) c25
                      · replace c24 := Bool.eq_false_iff.mpr c24
                        subst c24
                        have H1 : (if t887 = x9_2 then (if 0 ≤ x11_2 then (spec_MergedBy.l0 kj18 a0 l1 a2 a3 x9_2 (wrap64 (x10_2 + (shl .i64 1 x11_2))) (wrap64 (x11_2 + 1))) else (none)) else (spec_MergedBy.l0 kj18 a0 l1 a2 a3 x9_2 x10_2 (wrap64 (x11_2 + 1)))) = some r := by rw [if_neg (show ¬ (false = true) by decide)] at H; exact H
                        clear H
                        have H := H1
                        clear H1
                        by_cases c28 : t887 = x9_2
                        · rw [if_pos c28] at H
                          have c28b0 : (t887 == x9_2) = true := beq_iff_eq.mpr c28
                          have c28b1 : (t887 != x9_2) = false := bne_eq_false_iff_eq.mpr c28
                          clear c28
                          by_cases c29 : 0 ≤ x11_2
                          · rw [if_pos c29] at H
                            have c29b0 := eq_true c29
                            have c29b1 : decide (0 ≤ x11_2) = true := decide_eq_true c29
                            clear c29
                            obtain ⟨ji30, hji30⟩ : ∃ j_ : Int, (shl .i64 1 x11_2) = j_ := ⟨_, rfl⟩
                            replace H : (spec_MergedBy.l0 kj18 a0 l1 a2 a3 x9_2 (wrap64 (x10_2 + (ji30))) (wrap64 (x11_2 + 1))) = some r := by first | (rw [hji30] at H; exact H) | (simp only [hji30] at H ⊢; exact H)
                            have hji30_ : (IntKind.i64.wrap (1 * 2 ^ min x11_2.toNat 64)) = ji30 := hji30
                            have hji30z : x11_2 ≤ 64 → (IntKind.i64.wrap (1 * 2 ^ x11_2.toNat)) = ji30 := shl_small hji30
                            have hji30u : (IntKind.i64.wrap (2 ^ min x11_2.toNat 64)) = ji30 := by have h_ := hji30_; rw [Int.one_mul] at h_; exact h_
                            have hji30v : x11_2 ≤ 64 → (IntKind.i64.wrap (2 ^ x11_2.toNat)) = ji30 := fun hle_ => by have h_ := hji30z hle_; rw [Int.one_mul] at h_; exact h_
                            have hji30y : (wrap64 (1 * 2 ^ min x11_2.toNat 64)) = ji30 := (i64_w _).symm.trans hji30_
                            have hji30x : x11_2 ≤ 64 → (wrap64 (1 * 2 ^ x11_2.toNat)) = ji30 := fun h_ => (i64_w _).symm.trans (hji30z h_)
                            have H' := Aside0.mk H
                            clear H
                            go_wp2
                            go_roundg kj18
                            case measure => have := HJ4.out; have := HK2.out; have := HJ18.out; omega
                            case rel => exact ⟨(x9_2), (wrap64 (x10_2 + (ji30))), (wrap64 (x11_2 + 1)), (by first | rfl | (simp; done) | (simp [*]; done)), (by first | rfl | (simp; done) | (simp only [← hji30] <;> (first | rfl | simp)) | (simp [*]; done)), (by first | rfl | (simp; done) | (simp [*]; done)), H', ⟨by have := HJ4.out; have := HK2.out; have := HJ18.out; omega⟩, ⟨by repeat (first | (with_reducible first | exact HB.out | apply below_alloc | apply pw_below_drewN | apply below_drew1) | exact HB.out)⟩⟩
                          · rw [if_neg c29] at H
                            exact absurd H (by simp)
                        · rw [if_neg c28] at H
                          have c28b0 : (t887 == x9_2) = false := beq_eq_false_iff_ne.mpr c28
                          have c28b1 : (t887 != x9_2) = true := bne_iff_ne.mpr c28
                          have H' := Aside0.mk H
                          clear H
                          go_wp2
                          go_roundg kj18
                          case measure => have := HJ4.out; have := HK2.out; have := HJ18.out; omega
                          case rel => exact ⟨(x9_2), (x10_2), (wrap64 (x11_2 + 1)), (by first | rfl | (simp; done) | (simp [*]; done)), (by first | rfl | (simp; done) | (simp [*]; done)), (by first | rfl | (simp; done) | (simp [*]; done)), H', ⟨by have := HJ4.out; have := HK2.out; have := HJ18.out; omega⟩, ⟨by repeat (first | (with_reducible first | exact HB.out | apply below_alloc | apply pw_below_drewN | apply below_drew1) | exact HB.out)⟩⟩
              · rw [if_neg c14] at H
                have c14b0 : decide (x11_2 < (ji13)) = false := decide_eq_false c14
                clear c14
                obtain rfl := Option.some.inj H
                go_wp2
                go_ret
                exact ⟨by first | rfl | (simp [errW_none, errW_some] <;> rfl) | (simp only [← hji13]; first | rfl | (simp [errW_none, errW_some] <;> rfl)) | (simp [*, errW_none, errW_some] <;> rfl), by repeat (first | (with_reducible first | exact HB.out | apply below_alloc | apply pw_below_drewN | apply below_drew1) | exact HB.out)⟩
            · rw [if_neg c12] at H
              exact absurd H (by simp)

end Go.Proofs.Yteiehniidihmdaa.P
