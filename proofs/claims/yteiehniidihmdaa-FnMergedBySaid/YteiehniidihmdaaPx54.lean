-- Written by a program of this session (wip/hook.py), which runs the kit's printer; Lean checks it.
import Derived.Test.YteiehniidihmdaaPx0
import Derived.Test.YteiehniidihmdaaPx3
import Derived.Test.YteiehniidihmdaaPx8
import Derived.Test.YteiehniidihmdaaPx15
import Derived.Test.YteiehniidihmdaaPx19
import Derived.Test.YteiehniidihmdaaPx21
import Derived.Test.YteiehniidihmdaaPx22
import Derived.Test.YteiehniidihmdaaPx30
import Derived.Test.YteiehniidihmdaaPx53
namespace Go.Proofs.Yteiehniidihmdaa.P
open Go.RowKit Go.Proofs.YteiehniidihmdaaW.PrintWords Go.Proofs.YteiehniidihmdaaW.PrintLast Go.Proofs.YteiehniidihmdaaW.PrintMore
attribute [local go_sem] max2_int min2_int max_two min_two max_three min_three max_four min_four   -- for this text's walks alone
set_option linter.unusedVariables false
set_option linter.unusedSimpArgs false

/-! ### laws_FnMergedBy: function 24 -/
mutual
def laws_FnMergedBy.j0 : Nat → List Int → List Int → Bool → Option (Bool)
  | 0, _, _, _ => none
  | k + 1, x0, x1, x22 => if x22 = true then (some true) else ((spec_DrawMergedBy.f k x0).bind fun bt964 => ((impl_MergedBy.f k bt964.1 bt964.2.1 bt964.2.2.1 bt964.2.2.2).bind fun t970 => ((spec_MergedBy.f k bt964.1 bt964.2.1 bt964.2.2.1 bt964.2.2.2).bind fun t971 => (if t970 = t971 then (if t970 < 0 then (if t970 = (-1) then ((laws_alive.f).bind fun t972 => (some t972)) else (some false)) else ((impl_AgreeOn.f k bt964.1 bt964.2.1).bind fun t973 => ((laws_both.f k t973 bt964.2.2.1).bind fun t974 => ((laws_within.f k t970 bt964.2.2.1).bind fun t975 => (if t975 = true then (if ((t970 == 0) != (bt964.2.2.1 == 0)) = true then (laws_FnMergedBy.j1 k x1 bt964.1 bt964.2.1 bt964.2.2.1 bt964.2.2.2 t970 true) else (if t974 = 0 then (laws_FnMergedBy.j1 k x1 bt964.1 bt964.2.1 bt964.2.2.1 bt964.2.2.2 t970 false) else (laws_FnMergedBy.j1 k x1 bt964.1 bt964.2.1 bt964.2.2.1 bt964.2.2.2 t970 (t970 != t974)))) else (laws_FnMergedBy.j1 k x1 bt964.1 bt964.2.1 bt964.2.2.1 bt964.2.2.2 t970 true)))))) else (some false)))))
def laws_FnMergedBy.j1 : Nat → List Int → Int → List Int → Int → Int → Int → Bool → Option (Bool)
  | 0, _, _, _, _, _, _, _ => none
  | k + 1, x1, x5, x6, x7, x8, x9, x73 => if x73 = true then (some false) else ((laws_whole.f x5).bind fun t976 => (if (wrap64 (t976 + 1)) = 0 then (none) else ((laws_both.f k x7 (Int.tmod (wrap64 ((x1.length : Int) * 37)) (wrap64 (t976 + 1)))).bind fun t977 => ((laws_both.f k x9 t977).bind fun t978 => (if t978 = 0 then (laws_FnMergedBy.j2 k x1 x5 x6 x7 x8 x9 false) else ((impl_MergedBy.f k x5 x6 t977 x8).bind fun t979 => ((laws_both.f k x9 t977).bind fun t980 => (laws_FnMergedBy.j2 k x1 x5 x6 x7 x8 x9 (t979 != t980)))))))))
def laws_FnMergedBy.j2 : Nat → List Int → Int → List Int → Int → Int → Int → Bool → Option (Bool)
  | 0, _, _, _, _, _, _, _ => none
  | k + 1, x1, x5, x6, x7, x8, x9, x97 => if x97 = true then (some false) else (if (x6.length : Int) = 1 then (if 0 < (x6.length : Int) then ((impl_NearestOf.f k x5 (rd x6 0) x7).bind fun t982 => (laws_FnMergedBy.j3 k x1 x5 x6 x7 x8 x9 (x9 != t982))) else (none)) else (laws_FnMergedBy.j3 k x1 x5 x6 x7 x8 x9 false))
def laws_FnMergedBy.j3 : Nat → List Int → Int → List Int → Int → Int → Int → Bool → Option (Bool)
  | 0, _, _, _, _, _, _, _ => none
  | k + 1, x1, x5, x6, x7, x8, x9, x110 => if x110 = true then (some false) else ((laws_whole.f x5).bind fun t983 => (if t983 = 0 then (none) else ((some (([wrap64 (1 + ((x1.length : Int) % t983))] : List Int) : List Int)).bind fun y984 => ((impl_MergedBy.f k x5 y984 x7 x8).bind fun t987 => ((some (([] : List Int) : List Int)).bind fun y988 => (if y988.length + x6.length < 17592186044416 then ((some (y988 ++ x6 : List Int)).bind fun y991 => (if y991.length + y984.length < 17592186044416 then ((some (y991 ++ y984 : List Int)).bind fun y994 => (if x8 = 1 then (laws_FnMergedBy.j4 k x5 x7 x8 x9 t987 y994 true) else (if (y994.length : Int) > 4 then (laws_FnMergedBy.j4 k x5 x7 x8 x9 t987 y994 true) else ((laws_both.f k x9 t987).bind fun t997 => (laws_FnMergedBy.j4 k x5 x7 x8 x9 t987 y994 (t997 == 0)))))) else (none))) else (none)))))))
def laws_FnMergedBy.j4 : Nat → Int → Int → Int → Int → Int → List Int → Bool → Option (Bool)
  | 0, _, _, _, _, _, _, _ => none
  | k + 1, x5, x7, x8, x9, x13, x14, x140 => if x140 = true then (some true) else ((impl_MergedBy.f k x5 x14 x7 x8).bind fun t998 => ((laws_both.f k x9 x13).bind fun t999 => (some (t998 == t999))))
end
def laws_FnMergedBy.f (k : Nat) (l0 : List Int) (l1 : List Int) : Option (Bool) := if (l0.length : Int) > 1048576 then (laws_FnMergedBy.j0 k l0 l1 true) else (laws_FnMergedBy.j0 k l0 l1 (decide ((l1.length : Int) > 1048576)))
theorem laws_FnMergedBy.mono_l : ∀ k, (∀ y0 y1 y2, LeO (laws_FnMergedBy.j0 k y0 y1 y2) (laws_FnMergedBy.j0 (k + 1) y0 y1 y2)) ∧ (∀ y0 y1 y2 y3 y4 y5 y6, LeO (laws_FnMergedBy.j1 k y0 y1 y2 y3 y4 y5 y6) (laws_FnMergedBy.j1 (k + 1) y0 y1 y2 y3 y4 y5 y6)) ∧ (∀ y0 y1 y2 y3 y4 y5 y6, LeO (laws_FnMergedBy.j2 k y0 y1 y2 y3 y4 y5 y6) (laws_FnMergedBy.j2 (k + 1) y0 y1 y2 y3 y4 y5 y6)) ∧ (∀ y0 y1 y2 y3 y4 y5 y6, LeO (laws_FnMergedBy.j3 k y0 y1 y2 y3 y4 y5 y6) (laws_FnMergedBy.j3 (k + 1) y0 y1 y2 y3 y4 y5 y6)) ∧ (∀ y0 y1 y2 y3 y4 y5 y6, LeO (laws_FnMergedBy.j4 k y0 y1 y2 y3 y4 y5 y6) (laws_FnMergedBy.j4 (k + 1) y0 y1 y2 y3 y4 y5 y6))
  | 0 => ⟨fun _ _ _ r h => by simp [laws_FnMergedBy.j0] at h, fun _ _ _ _ _ _ _ r h => by simp [laws_FnMergedBy.j1] at h, fun _ _ _ _ _ _ _ r h => by simp [laws_FnMergedBy.j2] at h, fun _ _ _ _ _ _ _ r h => by simp [laws_FnMergedBy.j3] at h, fun _ _ _ _ _ _ _ r h => by simp [laws_FnMergedBy.j4] at h⟩
  | k + 1 => by
    obtain ⟨ih0, ih1, ih2, ih3, ih4⟩ := laws_FnMergedBy.mono_l k
    refine ⟨?_, ?_, ?_, ?_, ?_⟩
    · intro y0 y1 y2
      unfold laws_FnMergedBy.j0
      repeat' first
      | (with_reducible exact ih0 _ _ _)
      | (with_reducible exact ih1 _ _ _ _ _ _ _)
      | (with_reducible exact ih2 _ _ _ _ _ _ _)
      | (with_reducible exact ih3 _ _ _ _ _ _ _)
      | (with_reducible exact ih4 _ _ _ _ _ _ _)
      | (with_reducible exact impl_AgreeOn.mono _ _ _)
      | (with_reducible exact impl_MergedBy.mono _ _ _ _ _)
      | (with_reducible exact impl_NearestOf.mono _ _ _ _)
      | (with_reducible exact laws_both.mono _ _ _)
      | (with_reducible exact laws_within.mono _ _ _)
      | (with_reducible exact spec_DrawMergedBy.mono _ _)
      | (with_reducible exact spec_MergedBy.mono _ _ _ _ _)
      | (with_reducible exact LeO.refl _)
      | (with_reducible exact LeO.none _)
      | (with_reducible refine LeO.ite ?_ ?_)
      | (with_reducible refine LeO.bind ?_ (fun _ => ?_))
      | exact ih0 _ _ _
      | exact ih1 _ _ _ _ _ _ _
      | exact ih2 _ _ _ _ _ _ _
      | exact ih3 _ _ _ _ _ _ _
      | exact ih4 _ _ _ _ _ _ _
      | exact impl_AgreeOn.mono _ _ _
      | exact impl_MergedBy.mono _ _ _ _ _
      | exact impl_NearestOf.mono _ _ _ _
      | exact laws_both.mono _ _ _
      | exact laws_within.mono _ _ _
      | exact spec_DrawMergedBy.mono _ _
      | exact spec_MergedBy.mono _ _ _ _ _
      | exact LeO.none _
      | refine LeO.ite ?_ ?_
      | refine LeO.bind ?_ (fun _ => ?_)
    · intro y0 y1 y2 y3 y4 y5 y6
      unfold laws_FnMergedBy.j1
      repeat' first
      | (with_reducible exact ih0 _ _ _)
      | (with_reducible exact ih1 _ _ _ _ _ _ _)
      | (with_reducible exact ih2 _ _ _ _ _ _ _)
      | (with_reducible exact ih3 _ _ _ _ _ _ _)
      | (with_reducible exact ih4 _ _ _ _ _ _ _)
      | (with_reducible exact impl_AgreeOn.mono _ _ _)
      | (with_reducible exact impl_MergedBy.mono _ _ _ _ _)
      | (with_reducible exact impl_NearestOf.mono _ _ _ _)
      | (with_reducible exact laws_both.mono _ _ _)
      | (with_reducible exact laws_within.mono _ _ _)
      | (with_reducible exact spec_DrawMergedBy.mono _ _)
      | (with_reducible exact spec_MergedBy.mono _ _ _ _ _)
      | (with_reducible exact LeO.refl _)
      | (with_reducible exact LeO.none _)
      | (with_reducible refine LeO.ite ?_ ?_)
      | (with_reducible refine LeO.bind ?_ (fun _ => ?_))
      | exact ih0 _ _ _
      | exact ih1 _ _ _ _ _ _ _
      | exact ih2 _ _ _ _ _ _ _
      | exact ih3 _ _ _ _ _ _ _
      | exact ih4 _ _ _ _ _ _ _
      | exact impl_AgreeOn.mono _ _ _
      | exact impl_MergedBy.mono _ _ _ _ _
      | exact impl_NearestOf.mono _ _ _ _
      | exact laws_both.mono _ _ _
      | exact laws_within.mono _ _ _
      | exact spec_DrawMergedBy.mono _ _
      | exact spec_MergedBy.mono _ _ _ _ _
      | exact LeO.none _
      | refine LeO.ite ?_ ?_
      | refine LeO.bind ?_ (fun _ => ?_)
    · intro y0 y1 y2 y3 y4 y5 y6
      unfold laws_FnMergedBy.j2
      repeat' first
      | (with_reducible exact ih0 _ _ _)
      | (with_reducible exact ih1 _ _ _ _ _ _ _)
      | (with_reducible exact ih2 _ _ _ _ _ _ _)
      | (with_reducible exact ih3 _ _ _ _ _ _ _)
      | (with_reducible exact ih4 _ _ _ _ _ _ _)
      | (with_reducible exact impl_AgreeOn.mono _ _ _)
      | (with_reducible exact impl_MergedBy.mono _ _ _ _ _)
      | (with_reducible exact impl_NearestOf.mono _ _ _ _)
      | (with_reducible exact laws_both.mono _ _ _)
      | (with_reducible exact laws_within.mono _ _ _)
      | (with_reducible exact spec_DrawMergedBy.mono _ _)
      | (with_reducible exact spec_MergedBy.mono _ _ _ _ _)
      | (with_reducible exact LeO.refl _)
      | (with_reducible exact LeO.none _)
      | (with_reducible refine LeO.ite ?_ ?_)
      | (with_reducible refine LeO.bind ?_ (fun _ => ?_))
      | exact ih0 _ _ _
      | exact ih1 _ _ _ _ _ _ _
      | exact ih2 _ _ _ _ _ _ _
      | exact ih3 _ _ _ _ _ _ _
      | exact ih4 _ _ _ _ _ _ _
      | exact impl_AgreeOn.mono _ _ _
      | exact impl_MergedBy.mono _ _ _ _ _
      | exact impl_NearestOf.mono _ _ _ _
      | exact laws_both.mono _ _ _
      | exact laws_within.mono _ _ _
      | exact spec_DrawMergedBy.mono _ _
      | exact spec_MergedBy.mono _ _ _ _ _
      | exact LeO.none _
      | refine LeO.ite ?_ ?_
      | refine LeO.bind ?_ (fun _ => ?_)
    · intro y0 y1 y2 y3 y4 y5 y6
      unfold laws_FnMergedBy.j3
      repeat' first
      | (with_reducible exact ih0 _ _ _)
      | (with_reducible exact ih1 _ _ _ _ _ _ _)
      | (with_reducible exact ih2 _ _ _ _ _ _ _)
      | (with_reducible exact ih3 _ _ _ _ _ _ _)
      | (with_reducible exact ih4 _ _ _ _ _ _ _)
      | (with_reducible exact impl_AgreeOn.mono _ _ _)
      | (with_reducible exact impl_MergedBy.mono _ _ _ _ _)
      | (with_reducible exact impl_NearestOf.mono _ _ _ _)
      | (with_reducible exact laws_both.mono _ _ _)
      | (with_reducible exact laws_within.mono _ _ _)
      | (with_reducible exact spec_DrawMergedBy.mono _ _)
      | (with_reducible exact spec_MergedBy.mono _ _ _ _ _)
      | (with_reducible exact LeO.refl _)
      | (with_reducible exact LeO.none _)
      | (with_reducible refine LeO.ite ?_ ?_)
      | (with_reducible refine LeO.bind ?_ (fun _ => ?_))
      | exact ih0 _ _ _
      | exact ih1 _ _ _ _ _ _ _
      | exact ih2 _ _ _ _ _ _ _
      | exact ih3 _ _ _ _ _ _ _
      | exact ih4 _ _ _ _ _ _ _
      | exact impl_AgreeOn.mono _ _ _
      | exact impl_MergedBy.mono _ _ _ _ _
      | exact impl_NearestOf.mono _ _ _ _
      | exact laws_both.mono _ _ _
      | exact laws_within.mono _ _ _
      | exact spec_DrawMergedBy.mono _ _
      | exact spec_MergedBy.mono _ _ _ _ _
      | exact LeO.none _
      | refine LeO.ite ?_ ?_
      | refine LeO.bind ?_ (fun _ => ?_)
    · intro y0 y1 y2 y3 y4 y5 y6
      unfold laws_FnMergedBy.j4
      repeat' first
      | (with_reducible exact ih0 _ _ _)
      | (with_reducible exact ih1 _ _ _ _ _ _ _)
      | (with_reducible exact ih2 _ _ _ _ _ _ _)
      | (with_reducible exact ih3 _ _ _ _ _ _ _)
      | (with_reducible exact ih4 _ _ _ _ _ _ _)
      | (with_reducible exact impl_AgreeOn.mono _ _ _)
      | (with_reducible exact impl_MergedBy.mono _ _ _ _ _)
      | (with_reducible exact impl_NearestOf.mono _ _ _ _)
      | (with_reducible exact laws_both.mono _ _ _)
      | (with_reducible exact laws_within.mono _ _ _)
      | (with_reducible exact spec_DrawMergedBy.mono _ _)
      | (with_reducible exact spec_MergedBy.mono _ _ _ _ _)
      | (with_reducible exact LeO.refl _)
      | (with_reducible exact LeO.none _)
      | (with_reducible refine LeO.ite ?_ ?_)
      | (with_reducible refine LeO.bind ?_ (fun _ => ?_))
      | exact ih0 _ _ _
      | exact ih1 _ _ _ _ _ _ _
      | exact ih2 _ _ _ _ _ _ _
      | exact ih3 _ _ _ _ _ _ _
      | exact ih4 _ _ _ _ _ _ _
      | exact impl_AgreeOn.mono _ _ _
      | exact impl_MergedBy.mono _ _ _ _ _
      | exact impl_NearestOf.mono _ _ _ _
      | exact laws_both.mono _ _ _
      | exact laws_within.mono _ _ _
      | exact spec_DrawMergedBy.mono _ _
      | exact spec_MergedBy.mono _ _ _ _ _
      | exact LeO.none _
      | refine LeO.ite ?_ ?_
      | refine LeO.bind ?_ (fun _ => ?_)
theorem laws_FnMergedBy.mono : ∀ a0 a1 k, LeO (laws_FnMergedBy.f k a0 a1) (laws_FnMergedBy.f (k + 1) a0 a1) := by
  intro a0 a1 k
  obtain ⟨ih0, ih1, ih2, ih3, ih4⟩ := laws_FnMergedBy.mono_l k
  unfold laws_FnMergedBy.f
  repeat' first
      | (with_reducible exact ih0 _ _ _)
      | (with_reducible exact ih1 _ _ _ _ _ _ _)
      | (with_reducible exact ih2 _ _ _ _ _ _ _)
      | (with_reducible exact ih3 _ _ _ _ _ _ _)
      | (with_reducible exact ih4 _ _ _ _ _ _ _)
      | (with_reducible exact impl_AgreeOn.mono _ _ _)
      | (with_reducible exact impl_MergedBy.mono _ _ _ _ _)
      | (with_reducible exact impl_NearestOf.mono _ _ _ _)
      | (with_reducible exact laws_both.mono _ _ _)
      | (with_reducible exact laws_within.mono _ _ _)
      | (with_reducible exact spec_DrawMergedBy.mono _ _)
      | (with_reducible exact spec_MergedBy.mono _ _ _ _ _)
      | (with_reducible exact LeO.refl _)
      | (with_reducible exact LeO.none _)
      | (with_reducible refine LeO.ite ?_ ?_)
      | (with_reducible refine LeO.bind ?_ (fun _ => ?_))
      | exact ih0 _ _ _
      | exact ih1 _ _ _ _ _ _ _
      | exact ih2 _ _ _ _ _ _ _
      | exact ih3 _ _ _ _ _ _ _
      | exact ih4 _ _ _ _ _ _ _
      | exact impl_AgreeOn.mono _ _ _
      | exact impl_MergedBy.mono _ _ _ _ _
      | exact impl_NearestOf.mono _ _ _ _
      | exact laws_both.mono _ _ _
      | exact laws_within.mono _ _ _
      | exact spec_DrawMergedBy.mono _ _
      | exact spec_MergedBy.mono _ _ _ _ _
      | exact LeO.none _
      | refine LeO.ite ?_ ?_
      | refine LeO.bind ?_ (fun _ => ?_)
set_option maxHeartbeats 8000000 in
set_option maxRecDepth 100000 in
theorem laws_FnMergedBy.calls (k : Nat) (A0 : Option Addr) (c0 : Nat) (l0 : List Int) (A1 : Option Addr) (c1 : Nat) (l1 : List Int) (r : Bool) (w : World) (hr0 : Kd.C (Kd.int .u8) w A0 l0.length l0) (hc0 : l0.length ≤ c0) (hr1 : Kd.C (Kd.int .u8) w A1 l1.length l1) (hc1 : l1.length ≤ c1) (h : laws_FnMergedBy.f k l0 l1 = some r) :
    Calls Try.prog 24 #[.slice A0 l0.length c0, .slice A1 l1.length c1] w fun e w' => e = .returned (.bool r) ∧ Below w.heap.size w w' := by
  have HR0 := Aside0.mk hr0
  have HC0 := Aside0.mk hc0
  clear hr0 hc0
  have HR1 := Aside0.mk hr1
  have HC1 := Aside0.mk hc1
  clear hr1 hc1
  have HB := Aside0.mk (Below.refl w.heap.size w)
  have H : (if (l0.length : Int) > 1048576 then (laws_FnMergedBy.j0 k l0 l1 true) else (laws_FnMergedBy.j0 k l0 l1 (decide ((l1.length : Int) > 1048576)))) = some r := h
  clear h
  have HC3 := Aside0.mk H
  clear H
  go_enter Try.func24, Try.ntmps24
  go_upto_region 1 with (fail)
  go_cut [22] (fun v22 wc => ∃ (kq : Nat) (x22_2 : Bool), v22 = .bool x22_2 ∧ Aside0 (laws_FnMergedBy.j0 kq l0 l1 x22_2 = some r) ∧ Aside0 (kq ≤ k) ∧ Aside0 (Below w.heap.size w wc))
  case first =>
    have H := HC3.out
    clear HC3
    by_cases c4 : (l0.length : Int) > 1048576
    · rw [if_pos c4] at H
      have c4b0 : decide (1048576 < (l0.length : Int)) = true := decide_eq_true c4
      have c4b1 : decide (1048576 < l0.length) = true := decide_eq_true (by omega)
      clear c4
      (first | rw [c4b0] | (simp only [i64_w, i32_w]; rw [c4b0]) | skip)
      have H' := Aside0.mk H
      clear H
      go_wp2
      go_meet
      case rel => exact ⟨_, (true), (by first | rfl | (simp; done) | (simp [*]; done)), H', ⟨by first | omega | exact Nat.le_refl _⟩, ⟨by repeat (first | (with_reducible first | exact HB.out | apply below_alloc | apply pw_below_drewN | apply below_drew1) | exact HB.out)⟩⟩
    · rw [if_neg c4] at H
      have c4b0 : decide (1048576 < (l0.length : Int)) = false := decide_eq_false c4
      have c4b1 : decide (1048576 < l0.length) = false := decide_eq_false (by omega)
      clear c4
      (first | rw [c4b0] | (simp only [i64_w, i32_w]; rw [c4b0]) | skip)
      have H' := Aside0.mk H
      clear H
      go_wp2
      go_meet
      case rel => exact ⟨_, (decide ((l1.length : Int) > 1048576)), (by first | rfl | (simp; done) | (simp [*]; done)), H', ⟨by first | omega | exact Nat.le_refl _⟩, ⟨by repeat (first | (with_reducible first | exact HB.out | apply below_alloc | apply pw_below_drewN | apply below_drew1) | exact HB.out)⟩⟩
  case rest =>
    clear HC3
    try clear c1
    try clear c2
    try clear p2
    try clear c4
    try clear c4b0
    try clear c4b1
    obtain ⟨kq, x22_2, rfl, HA, HJ2, HB⟩ := hcut
    cases kq with
    | zero => exact absurd HA.out (by simp [laws_FnMergedBy.j0])
    | succ kj2 =>
      have H := HA.out
      clear HA
      simp only [laws_FnMergedBy.j0] at H
      by_cases c5 : x22_2 = true
      · subst c5
        have H1 : (some true) = some r := by rw [if_pos rfl] at H; exact H
        clear H
        have H := H1
        clear H1
        obtain rfl := Option.some.inj H
        go_wp2
        go_ret
        exact ⟨by first | rfl | (simp [errW_none, errW_some] <;> rfl) | (simp [*, errW_none, errW_some] <;> rfl), by repeat (first | (with_reducible first | exact HB.out | apply below_alloc | apply pw_below_drewN | apply below_drew1) | exact HB.out)⟩
      · replace c5 := Bool.eq_false_iff.mpr c5
        subst c5
        have H1 : ((spec_DrawMergedBy.f kj2 l0).bind fun bt964 => ((impl_MergedBy.f kj2 bt964.1 bt964.2.1 bt964.2.2.1 bt964.2.2.2).bind fun t970 => ((spec_MergedBy.f kj2 bt964.1 bt964.2.1 bt964.2.2.1 bt964.2.2.2).bind fun t971 => (if t970 = t971 then (if t970 < 0 then (if t970 = (-1) then ((laws_alive.f).bind fun t972 => (some t972)) else (some false)) else ((impl_AgreeOn.f kj2 bt964.1 bt964.2.1).bind fun t973 => ((laws_both.f kj2 t973 bt964.2.2.1).bind fun t974 => ((laws_within.f kj2 t970 bt964.2.2.1).bind fun t975 => (if t975 = true then (if ((t970 == 0) != (bt964.2.2.1 == 0)) = true then (laws_FnMergedBy.j1 kj2 l1 bt964.1 bt964.2.1 bt964.2.2.1 bt964.2.2.2 t970 true) else (if t974 = 0 then (laws_FnMergedBy.j1 kj2 l1 bt964.1 bt964.2.1 bt964.2.2.1 bt964.2.2.2 t970 false) else (laws_FnMergedBy.j1 kj2 l1 bt964.1 bt964.2.1 bt964.2.2.1 bt964.2.2.2 t970 (t970 != t974)))) else (laws_FnMergedBy.j1 kj2 l1 bt964.1 bt964.2.1 bt964.2.2.1 bt964.2.2.2 t970 true)))))) else (some false))))) = some r := by rw [if_neg (show ¬ (false = true) by decide)] at H; exact H
        clear H
        have H := H1
        clear H1
        replace H := Option.bind_eq_some_iff.mp H
        obtain ⟨⟨t964, t965, t966, t967⟩, A60, H⟩ := H
        replace H : ((impl_MergedBy.f kj2 t964 t965 t966 t967).bind fun t970 => ((spec_MergedBy.f kj2 t964 t965 t966 t967).bind fun t971 => (if t970 = t971 then (if t970 < 0 then (if t970 = (-1) then ((laws_alive.f).bind fun t972 => (some t972)) else (some false)) else ((impl_AgreeOn.f kj2 t964 t965).bind fun t973 => ((laws_both.f kj2 t973 t966).bind fun t974 => ((laws_within.f kj2 t970 t966).bind fun t975 => (if t975 = true then (if ((t970 == 0) != (t966 == 0)) = true then (laws_FnMergedBy.j1 kj2 l1 t964 t965 t966 t967 t970 true) else (if t974 = 0 then (laws_FnMergedBy.j1 kj2 l1 t964 t965 t966 t967 t970 false) else (laws_FnMergedBy.j1 kj2 l1 t964 t965 t966 t967 t970 (t970 != t974)))) else (laws_FnMergedBy.j1 kj2 l1 t964 t965 t966 t967 t970 true)))))) else (some false)))) = some r := H
        have A6 := Aside0.mk A60
        clear A60
        replace H := Option.bind_eq_some_iff.mp H
        obtain ⟨t970, A70, H⟩ := H
        replace H : ((spec_MergedBy.f kj2 t964 t965 t966 t967).bind fun t971 => (if t970 = t971 then (if t970 < 0 then (if t970 = (-1) then ((laws_alive.f).bind fun t972 => (some t972)) else (some false)) else ((impl_AgreeOn.f kj2 t964 t965).bind fun t973 => ((laws_both.f kj2 t973 t966).bind fun t974 => ((laws_within.f kj2 t970 t966).bind fun t975 => (if t975 = true then (if ((t970 == 0) != (t966 == 0)) = true then (laws_FnMergedBy.j1 kj2 l1 t964 t965 t966 t967 t970 true) else (if t974 = 0 then (laws_FnMergedBy.j1 kj2 l1 t964 t965 t966 t967 t970 false) else (laws_FnMergedBy.j1 kj2 l1 t964 t965 t966 t967 t970 (t970 != t974)))) else (laws_FnMergedBy.j1 kj2 l1 t964 t965 t966 t967 t970 true)))))) else (some false))) = some r := H
        have A7 := Aside0.mk A70
        clear A70
        replace H := Option.bind_eq_some_iff.mp H
        obtain ⟨t971, A80, H⟩ := H
        replace H : (if t970 = t971 then (if t970 < 0 then (if t970 = (-1) then ((laws_alive.f).bind fun t972 => (some t972)) else (some false)) else ((impl_AgreeOn.f kj2 t964 t965).bind fun t973 => ((laws_both.f kj2 t973 t966).bind fun t974 => ((laws_within.f kj2 t970 t966).bind fun t975 => (if t975 = true then (if ((t970 == 0) != (t966 == 0)) = true then (laws_FnMergedBy.j1 kj2 l1 t964 t965 t966 t967 t970 true) else (if t974 = 0 then (laws_FnMergedBy.j1 kj2 l1 t964 t965 t966 t967 t970 false) else (laws_FnMergedBy.j1 kj2 l1 t964 t965 t966 t967 t970 (t970 != t974)))) else (laws_FnMergedBy.j1 kj2 l1 t964 t965 t966 t967 t970 true)))))) else (some false)) = some r := H
        have A8 := Aside0.mk A80
        clear A80
        by_cases c9 : t970 = t971
        · rw [if_pos c9] at H
          have c9b0 : (t970 == t971) = true := beq_iff_eq.mpr c9
          have c9b1 : (t970 != t971) = false := bne_eq_false_iff_eq.mpr c9
          clear c9
          by_cases c10 : t970 < 0
          · rw [if_pos c10] at H
            have c10b0 : decide (t970 < 0) = true := decide_eq_true c10
            clear c10
            by_cases c11 : t970 = (-1)
            · rw [if_pos c11] at H
              have c11b0 : (t970 == (-1)) = true := beq_iff_eq.mpr c11
              have c11b1 : (t970 != (-1)) = false := bne_eq_false_iff_eq.mpr c11
              clear c11
              replace H := Option.bind_eq_some_iff.mp H
              obtain ⟨t972, A120, H⟩ := H
              replace H : (some t972) = some r := H
              have A12 := Aside0.mk A120
              clear A120
              obtain rfl := Option.some.inj H
              go_wp2_with (first | ((with_reducible refine gate_callee (f := 71) rfl ?_); refine goesL_ (some 25) rfl rfl Try.func71 (by kernel_rfl) rfl #[.slice A0 l0.length c0] rfl (by (try simp only [List.map_toArray, List.map_cons, List.map_nil]); first | done | rfl | (simp only [List.length_drop, List.length_take]; rfl)) ?_; (with_reducible refine (spec_DrawMergedBy.calls kj2 _ _ l0 t964 t965 t966 t967 _ ?side1 ?side2 A6.out).mono ?_); (case side1 => repeat (first | exact (Kd.C_below HR0.out HB.out) | (with_reducible refine Kd.C_alloc ?_ _) | (with_reducible refine Kd.C_drewN ?_ _) | (with_reducible refine Kd.C_drew ?_))); (case side2 => exact HC0.out); rintro e w13 ⟨v968, rfl, ho0, hb⟩; refine ⟨_, rfl, ?_⟩; have n0_ := Aside0.mk (Kd.R_lower ho0 (below_size (by repeat (first | (with_reducible first | exact HB.out | apply below_alloc | apply pw_below_drewN | apply below_drew1) | exact HB.out)))); have n1_ := Aside0.mk (below_step (by repeat (first | (with_reducible first | exact HB.out | apply below_alloc | apply pw_below_drewN | apply below_drew1) | exact HB.out)) hb); clear HB; have HO969 := n0_; have HB := n1_; clear n0_ n1_; (try clear hb); (try clear hb2); (try clear hk); (try clear hi); (try clear ho0); obtain ⟨Ao14, co14, eo14⟩ := Kd.R_slice HO969.out; subst eo14) | ((with_reducible refine gate_callee (f := 68) rfl ?_); refine goesL_ (some 34) rfl rfl Try.func68 (by kernel_rfl) rfl #[.int .i64 t964, .slice Ao14 t965.length co14, .int .i64 t966, .int .i64 t967] rfl (by (try simp only [List.map_toArray, List.map_cons, List.map_nil]); first | done | rfl | (simp only [List.length_drop, List.length_take]; rfl)) ?_; (with_reducible refine (impl_MergedBy.calls kj2 t964 _ _ t965 t966 t967 t970 _ ?side1 ?side2 A7.out).mono ?_); (case side1 => repeat (first | exact (Kd.R_reads' HO969.out).2.2 | (with_reducible refine Kd.C_alloc ?_ _) | (with_reducible refine Kd.C_drewN ?_ _) | (with_reducible refine Kd.C_drew ?_))); (case side2 => exact (Kd.R_reads' HO969.out).2.1); rintro e w15 ⟨rfl, hb⟩; refine ⟨_, rfl, ?_⟩; have n0_ := Aside0.mk (Kd.R_below (by (with_reducible repeat (first | apply Kd.R_alloc | apply Kd.R_drewN | apply Kd.R_drew)); exact HO969.out) hb); have n1_ := Aside0.mk (below_step (by repeat (first | (with_reducible first | exact HB.out | apply below_alloc | apply pw_below_drewN | apply below_drew1) | exact HB.out)) hb); clear HO969; clear HB; have HO969 := n0_; have HB := n1_; clear n0_ n1_; (try clear hb); (try clear hb2); (try clear hk); (try clear hi)) | ((with_reducible refine gate_callee (f := 67) rfl ?_); refine goesL_ (some 40) rfl rfl Try.func67 (by kernel_rfl) rfl #[.int .i64 t964, .slice Ao14 t965.length co14, .int .i64 t966, .int .i64 t967] rfl (by (try simp only [List.map_toArray, List.map_cons, List.map_nil]); first | done | rfl | (simp only [List.length_drop, List.length_take]; rfl)) ?_; (with_reducible refine (spec_MergedBy.calls kj2 t964 _ _ t965 t966 t967 t971 _ ?side1 ?side2 A8.out).mono ?_); (case side1 => repeat (first | exact (Kd.R_reads' HO969.out).2.2 | (with_reducible refine Kd.C_alloc ?_ _) | (with_reducible refine Kd.C_drewN ?_ _) | (with_reducible refine Kd.C_drew ?_))); (case side2 => exact (Kd.R_reads' HO969.out).2.1); rintro e w16 ⟨rfl, hb⟩; refine ⟨_, rfl, ?_⟩; have n0_ := Aside0.mk (Kd.R_below (by (with_reducible repeat (first | apply Kd.R_alloc | apply Kd.R_drewN | apply Kd.R_drew)); exact HO969.out) hb); have n1_ := Aside0.mk (below_step (by repeat (first | (with_reducible first | exact HB.out | apply below_alloc | apply pw_below_drewN | apply below_drew1) | exact HB.out)) hb); clear HO969; clear HB; have HO969 := n0_; have HB := n1_; clear n0_ n1_; (try clear hb); (try clear hb2); (try clear hk); (try clear hi)) | (go_at_call 40; (with_reducible refine (laws_alive.calls  t972 _ A12.out).mono ?_); rintro e w' ⟨rfl, ⟨nd, rfl⟩⟩))
              go_ret
              exact ⟨by first | rfl | (simp [errW_none, errW_some] <;> rfl) | (simp [*, errW_none, errW_some] <;> rfl), by repeat (first | (with_reducible first | exact HB.out | apply below_alloc | apply pw_below_drewN | apply below_drew1) | exact HB.out)⟩
            · rw [if_neg c11] at H
              have c11b0 : (t970 == (-1)) = false := beq_eq_false_iff_ne.mpr c11
              have c11b1 : (t970 != (-1)) = true := bne_iff_ne.mpr c11
              obtain rfl := Option.some.inj H
              go_wp2_with (first | ((with_reducible refine gate_callee (f := 71) rfl ?_); refine goesL_ (some 25) rfl rfl Try.func71 (by kernel_rfl) rfl #[.slice A0 l0.length c0] rfl (by (try simp only [List.map_toArray, List.map_cons, List.map_nil]); first | done | rfl | (simp only [List.length_drop, List.length_take]; rfl)) ?_; (with_reducible refine (spec_DrawMergedBy.calls kj2 _ _ l0 t964 t965 t966 t967 _ ?side1 ?side2 A6.out).mono ?_); (case side1 => repeat (first | exact (Kd.C_below HR0.out HB.out) | (with_reducible refine Kd.C_alloc ?_ _) | (with_reducible refine Kd.C_drewN ?_ _) | (with_reducible refine Kd.C_drew ?_))); (case side2 => exact HC0.out); rintro e w17 ⟨v968, rfl, ho0, hb⟩; refine ⟨_, rfl, ?_⟩; have n0_ := Aside0.mk (Kd.R_lower ho0 (below_size (by repeat (first | (with_reducible first | exact HB.out | apply below_alloc | apply pw_below_drewN | apply below_drew1) | exact HB.out)))); have n1_ := Aside0.mk (below_step (by repeat (first | (with_reducible first | exact HB.out | apply below_alloc | apply pw_below_drewN | apply below_drew1) | exact HB.out)) hb); clear HB; have HO969 := n0_; have HB := n1_; clear n0_ n1_; (try clear hb); (try clear hb2); (try clear hk); (try clear hi); (try clear ho0); obtain ⟨Ao18, co18, eo18⟩ := Kd.R_slice HO969.out; subst eo18) | ((with_reducible refine gate_callee (f := 68) rfl ?_); refine goesL_ (some 34) rfl rfl Try.func68 (by kernel_rfl) rfl #[.int .i64 t964, .slice Ao18 t965.length co18, .int .i64 t966, .int .i64 t967] rfl (by (try simp only [List.map_toArray, List.map_cons, List.map_nil]); first | done | rfl | (simp only [List.length_drop, List.length_take]; rfl)) ?_; (with_reducible refine (impl_MergedBy.calls kj2 t964 _ _ t965 t966 t967 t970 _ ?side1 ?side2 A7.out).mono ?_); (case side1 => repeat (first | exact (Kd.R_reads' HO969.out).2.2 | (with_reducible refine Kd.C_alloc ?_ _) | (with_reducible refine Kd.C_drewN ?_ _) | (with_reducible refine Kd.C_drew ?_))); (case side2 => exact (Kd.R_reads' HO969.out).2.1); rintro e w19 ⟨rfl, hb⟩; refine ⟨_, rfl, ?_⟩; have n0_ := Aside0.mk (Kd.R_below (by (with_reducible repeat (first | apply Kd.R_alloc | apply Kd.R_drewN | apply Kd.R_drew)); exact HO969.out) hb); have n1_ := Aside0.mk (below_step (by repeat (first | (with_reducible first | exact HB.out | apply below_alloc | apply pw_below_drewN | apply below_drew1) | exact HB.out)) hb); clear HO969; clear HB; have HO969 := n0_; have HB := n1_; clear n0_ n1_; (try clear hb); (try clear hb2); (try clear hk); (try clear hi)) | ((with_reducible refine gate_callee (f := 67) rfl ?_); refine goesL_ (some 40) rfl rfl Try.func67 (by kernel_rfl) rfl #[.int .i64 t964, .slice Ao18 t965.length co18, .int .i64 t966, .int .i64 t967] rfl (by (try simp only [List.map_toArray, List.map_cons, List.map_nil]); first | done | rfl | (simp only [List.length_drop, List.length_take]; rfl)) ?_; (with_reducible refine (spec_MergedBy.calls kj2 t964 _ _ t965 t966 t967 t971 _ ?side1 ?side2 A8.out).mono ?_); (case side1 => repeat (first | exact (Kd.R_reads' HO969.out).2.2 | (with_reducible refine Kd.C_alloc ?_ _) | (with_reducible refine Kd.C_drewN ?_ _) | (with_reducible refine Kd.C_drew ?_))); (case side2 => exact (Kd.R_reads' HO969.out).2.1); rintro e w20 ⟨rfl, hb⟩; refine ⟨_, rfl, ?_⟩; have n0_ := Aside0.mk (Kd.R_below (by (with_reducible repeat (first | apply Kd.R_alloc | apply Kd.R_drewN | apply Kd.R_drew)); exact HO969.out) hb); have n1_ := Aside0.mk (below_step (by repeat (first | (with_reducible first | exact HB.out | apply below_alloc | apply pw_below_drewN | apply below_drew1) | exact HB.out)) hb); clear HO969; clear HB; have HO969 := n0_; have HB := n1_; clear n0_ n1_; (try clear hb); (try clear hb2); (try clear hk); (try clear hi)))
              go_ret
              exact ⟨by first | rfl | (simp [errW_none, errW_some] <;> rfl) | (simp [*, errW_none, errW_some] <;> rfl), by repeat (first | (with_reducible first | exact HB.out | apply below_alloc | apply pw_below_drewN | apply below_drew1) | exact HB.out)⟩
          · rw [if_neg c10] at H
            have c10b0 : decide (t970 < 0) = false := decide_eq_false c10
            clear c10
            replace H := Option.bind_eq_some_iff.mp H
            obtain ⟨t973, A210, H⟩ := H
            replace H : ((laws_both.f kj2 t973 t966).bind fun t974 => ((laws_within.f kj2 t970 t966).bind fun t975 => (if t975 = true then (if ((t970 == 0) != (t966 == 0)) = true then (laws_FnMergedBy.j1 kj2 l1 t964 t965 t966 t967 t970 true) else (if t974 = 0 then (laws_FnMergedBy.j1 kj2 l1 t964 t965 t966 t967 t970 false) else (laws_FnMergedBy.j1 kj2 l1 t964 t965 t966 t967 t970 (t970 != t974)))) else (laws_FnMergedBy.j1 kj2 l1 t964 t965 t966 t967 t970 true)))) = some r := H
            have A21 := Aside0.mk A210
            clear A210
            replace H := Option.bind_eq_some_iff.mp H
            obtain ⟨t974, A220, H⟩ := H
            replace H : ((laws_within.f kj2 t970 t966).bind fun t975 => (if t975 = true then (if ((t970 == 0) != (t966 == 0)) = true then (laws_FnMergedBy.j1 kj2 l1 t964 t965 t966 t967 t970 true) else (if t974 = 0 then (laws_FnMergedBy.j1 kj2 l1 t964 t965 t966 t967 t970 false) else (laws_FnMergedBy.j1 kj2 l1 t964 t965 t966 t967 t970 (t970 != t974)))) else (laws_FnMergedBy.j1 kj2 l1 t964 t965 t966 t967 t970 true))) = some r := H
            have A22 := Aside0.mk A220
            clear A220
            have HC23 := Aside0.mk H
            clear H
            go_upto_region 10 with (first | ((with_reducible refine gate_callee (f := 71) rfl ?_); refine goesL_ (some 25) rfl rfl Try.func71 (by kernel_rfl) rfl #[.slice A0 l0.length c0] rfl (by (try simp only [List.map_toArray, List.map_cons, List.map_nil]); first | done | rfl | (simp only [List.length_drop, List.length_take]; rfl)) ?_; (with_reducible refine (spec_DrawMergedBy.calls kj2 _ _ l0 t964 t965 t966 t967 _ ?side1 ?side2 A6.out).mono ?_); (case side1 => repeat (first | exact (Kd.C_below HR0.out HB.out) | (with_reducible refine Kd.C_alloc ?_ _) | (with_reducible refine Kd.C_drewN ?_ _) | (with_reducible refine Kd.C_drew ?_))); (case side2 => exact HC0.out); rintro e w24 ⟨v968, rfl, ho0, hb⟩; refine ⟨_, rfl, ?_⟩; have n0_ := Aside0.mk (Kd.R_lower ho0 (below_size (by repeat (first | (with_reducible first | exact HB.out | apply below_alloc | apply pw_below_drewN | apply below_drew1) | exact HB.out)))); have n1_ := Aside0.mk (below_step (by repeat (first | (with_reducible first | exact HB.out | apply below_alloc | apply pw_below_drewN | apply below_drew1) | exact HB.out)) hb); clear HB; have HO969 := n0_; have HB := n1_; clear n0_ n1_; (try clear hb); (try clear hb2); (try clear hk); (try clear hi); (try clear ho0); obtain ⟨Ao25, co25, eo25⟩ := Kd.R_slice HO969.out; subst eo25) | ((with_reducible refine gate_callee (f := 68) rfl ?_); refine goesL_ (some 34) rfl rfl Try.func68 (by kernel_rfl) rfl #[.int .i64 t964, .slice Ao25 t965.length co25, .int .i64 t966, .int .i64 t967] rfl (by (try simp only [List.map_toArray, List.map_cons, List.map_nil]); first | done | rfl | (simp only [List.length_drop, List.length_take]; rfl)) ?_; (with_reducible refine (impl_MergedBy.calls kj2 t964 _ _ t965 t966 t967 t970 _ ?side1 ?side2 A7.out).mono ?_); (case side1 => repeat (first | exact (Kd.R_reads' HO969.out).2.2 | (with_reducible refine Kd.C_alloc ?_ _) | (with_reducible refine Kd.C_drewN ?_ _) | (with_reducible refine Kd.C_drew ?_))); (case side2 => exact (Kd.R_reads' HO969.out).2.1); rintro e w26 ⟨rfl, hb⟩; refine ⟨_, rfl, ?_⟩; have n0_ := Aside0.mk (Kd.R_below (by (with_reducible repeat (first | apply Kd.R_alloc | apply Kd.R_drewN | apply Kd.R_drew)); exact HO969.out) hb); have n1_ := Aside0.mk (below_step (by repeat (first | (with_reducible first | exact HB.out | apply below_alloc | apply pw_below_drewN | apply below_drew1) | exact HB.out)) hb); clear HO969; clear HB; have HO969 := n0_; have HB := n1_; clear n0_ n1_; (try clear hb); (try clear hb2); (try clear hk); (try clear hi)) | ((with_reducible refine gate_callee (f := 67) rfl ?_); refine goesL_ (some 40) rfl rfl Try.func67 (by kernel_rfl) rfl #[.int .i64 t964, .slice Ao25 t965.length co25, .int .i64 t966, .int .i64 t967] rfl (by (try simp only [List.map_toArray, List.map_cons, List.map_nil]); first | done | rfl | (simp only [List.length_drop, List.length_take]; rfl)) ?_; (with_reducible refine (spec_MergedBy.calls kj2 t964 _ _ t965 t966 t967 t971 _ ?side1 ?side2 A8.out).mono ?_); (case side1 => repeat (first | exact (Kd.R_reads' HO969.out).2.2 | (with_reducible refine Kd.C_alloc ?_ _) | (with_reducible refine Kd.C_drewN ?_ _) | (with_reducible refine Kd.C_drew ?_))); (case side2 => exact (Kd.R_reads' HO969.out).2.1); rintro e w27 ⟨rfl, hb⟩; refine ⟨_, rfl, ?_⟩; have n0_ := Aside0.mk (Kd.R_below (by (with_reducible repeat (first | apply Kd.R_alloc | apply Kd.R_drewN | apply Kd.R_drew)); exact HO969.out) hb); have n1_ := Aside0.mk (below_step (by repeat (first | (with_reducible first | exact HB.out | apply below_alloc | apply pw_below_drewN | apply below_drew1) | exact HB.out)) hb); clear HO969; clear HB; have HO969 := n0_; have HB := n1_; clear n0_ n1_; (try clear hb); (try clear hb2); (try clear hk); (try clear hi)) | ((with_reducible refine gate_callee (f := 32) rfl ?_); refine goesL_ (some 51) rfl rfl Try.func32 (by kernel_rfl) rfl #[.int .i64 t964, .slice Ao25 t965.length co25] rfl (by (try simp only [List.map_toArray, List.map_cons, List.map_nil]); first | done | rfl | (simp only [List.length_drop, List.length_take]; rfl)) ?_; (with_reducible refine (impl_AgreeOn.calls kj2 t964 _ _ t965 t973 _ ?side1 ?side2 A21.out).mono ?_); (case side1 => repeat (first | exact (Kd.R_reads' HO969.out).2.2 | (with_reducible refine Kd.C_alloc ?_ _) | (with_reducible refine Kd.C_drewN ?_ _) | (with_reducible refine Kd.C_drew ?_))); (case side2 => exact (Kd.R_reads' HO969.out).2.1); rintro e w28 ⟨rfl, hb⟩; refine ⟨_, rfl, ?_⟩; have n0_ := Aside0.mk (Kd.R_below (by (with_reducible repeat (first | apply Kd.R_alloc | apply Kd.R_drewN | apply Kd.R_drew)); exact HO969.out) hb); have n1_ := Aside0.mk (below_step (by repeat (first | (with_reducible first | exact HB.out | apply below_alloc | apply pw_below_drewN | apply below_drew1) | exact HB.out)) hb); clear HO969; clear HB; have HO969 := n0_; have HB := n1_; clear n0_ n1_; (try clear hb); (try clear hb2); (try clear hk); (try clear hi)) | ((with_reducible refine gate_callee (f := 52) rfl ?_); refine goesL_ (some 53) rfl rfl Try.func52 (by kernel_rfl) rfl #[.int .i64 t973, .int .i64 t966] rfl (by (try simp only [List.map_toArray, List.map_cons, List.map_nil]); first | done | rfl | (simp only [List.length_drop, List.length_take]; rfl)) ?_; (with_reducible refine (laws_both.calls kj2 t973 t966 t974 _ A22.out).mono ?_); rintro e w' ⟨rfl, ⟨nd, rfl⟩⟩; refine ⟨_, rfl, ?_⟩))
            (try simp only [Act.put, List.setIfInBounds_toArray, List.set_cons_zero, List.set_cons_succ])
            go_cut [73] (fun v73 wc => ∃ (kq : Nat) (x73_22 : Bool), v73 = .bool x73_22 ∧ Aside0 (laws_FnMergedBy.j1 kq l1 t964 t965 t966 t967 t970 x73_22 = some r) ∧ Aside0 (kq ≤ kj2) ∧ Aside0 (Kd.R (Kd.int .i64) 3 wc w.heap.size (fun _ => True) (.slice Ao25 t965.length co25) t965) ∧ Aside0 (Below w.heap.size w wc))
            case first =>
              have H := HC23.out
              clear HC23
              replace H := Option.bind_eq_some_iff.mp H
              obtain ⟨t975, A290, H⟩ := H
              replace H : (if t975 = true then (if ((t970 == 0) != (t966 == 0)) = true then (laws_FnMergedBy.j1 kj2 l1 t964 t965 t966 t967 t970 true) else (if t974 = 0 then (laws_FnMergedBy.j1 kj2 l1 t964 t965 t966 t967 t970 false) else (laws_FnMergedBy.j1 kj2 l1 t964 t965 t966 t967 t970 (t970 != t974)))) else (laws_FnMergedBy.j1 kj2 l1 t964 t965 t966 t967 t970 true)) = some r := H
              have A29 := Aside0.mk A290
              clear A290
              by_cases c30 : t975 = true
              · subst c30
                have H1 : (if ((t970 == 0) != (t966 == 0)) = true then (laws_FnMergedBy.j1 kj2 l1 t964 t965 t966 t967 t970 true) else (if t974 = 0 then (laws_FnMergedBy.j1 kj2 l1 t964 t965 t966 t967 t970 false) else (laws_FnMergedBy.j1 kj2 l1 t964 t965 t966 t967 t970 (t970 != t974)))) = some r := by rw [if_pos rfl] at H; exact H
                clear H
                have H := H1
                clear H1
                by_cases c31 : ((t970 == 0) != (t966 == 0)) = true
                · rw [if_pos c31] at H
                  have c31b0 : ((t970 == 0) != (t966 == 0)) = true := c31
                  (try (have c31b1 : decide ((t970 == 0) = (t966 == 0)) = false := by simpa using c31))
                  (try (have c31b2 : ((t970 == 0) == (t966 == 0)) = false := by simpa using c31))
                  (try (have c31b3 : ¬ ((t970 == 0) = (t966 == 0)) := by simpa using c31))
                  clear c31
                  (first | rw [c31b0] | (simp only [i64_w, i32_w]; rw [c31b0]) | skip)
                  have H' := Aside0.mk H
                  clear H
                  go_wp2_with (first | ((with_reducible refine gate_callee (f := 56) rfl ?_); refine goesL_ (some 56) rfl rfl Try.func56 (by kernel_rfl) rfl #[.int .i64 t970, .int .i64 t966] rfl (by (try simp only [List.map_toArray, List.map_cons, List.map_nil]); first | done | rfl | (simp only [List.length_drop, List.length_take]; rfl)) ?_; (with_reducible refine (laws_within.calls kj2 t970 t966 true _ A29.out).mono ?_); rintro e w' ⟨rfl, ⟨nd, rfl⟩⟩; refine ⟨_, rfl, ?_⟩))
                  go_meet
                  case rel => exact ⟨_, (true), (by first | rfl | (simp; done) | (simp [*]; done)), H', ⟨by have := HJ2.out; first | omega | exact Nat.le_refl _⟩, ⟨by (with_reducible repeat (first | apply Kd.R_alloc | apply Kd.R_drewN | apply Kd.R_drew)); exact HO969.out⟩, ⟨by repeat (first | (with_reducible first | exact HB.out | apply below_alloc | apply pw_below_drewN | apply below_drew1) | exact HB.out)⟩⟩
                · rw [if_neg c31] at H
                  have c31b0 : ((t970 == 0) != (t966 == 0)) = false := by simpa using c31
                  (try (have c31b1 : decide ((t970 == 0) = (t966 == 0)) = true := by simpa using c31))
                  (try (have c31b2 : ((t970 == 0) == (t966 == 0)) = true := by simpa using c31))
                  clear c31
                  (first | rw [c31b0] | (simp only [i64_w, i32_w]; rw [c31b0]) | skip)
                  by_cases c32 : t974 = 0
                  · rw [if_pos c32] at H
                    have c32b0 : (t974 == 0) = true := beq_iff_eq.mpr c32
                    have c32b1 : (t974 != 0) = false := bne_eq_false_iff_eq.mpr c32
                    clear c32
                    have H' := Aside0.mk H
                    clear H
                    go_wp2_with (first | ((with_reducible refine gate_callee (f := 56) rfl ?_); refine goesL_ (some 56) rfl rfl Try.func56 (by kernel_rfl) rfl #[.int .i64 t970, .int .i64 t966] rfl (by (try simp only [List.map_toArray, List.map_cons, List.map_nil]); first | done | rfl | (simp only [List.length_drop, List.length_take]; rfl)) ?_; (with_reducible refine (laws_within.calls kj2 t970 t966 true _ A29.out).mono ?_); rintro e w' ⟨rfl, ⟨nd, rfl⟩⟩; refine ⟨_, rfl, ?_⟩))
                    go_meet
                    case rel => exact ⟨_, (false), (by first | rfl | (simp; done) | (simp [*]; done)), H', ⟨by have := HJ2.out; first | omega | exact Nat.le_refl _⟩, ⟨by (with_reducible repeat (first | apply Kd.R_alloc | apply Kd.R_drewN | apply Kd.R_drew)); exact HO969.out⟩, ⟨by repeat (first | (with_reducible first | exact HB.out | apply below_alloc | apply pw_below_drewN | apply below_drew1) | exact HB.out)⟩⟩
                  · rw [if_neg c32] at H
                    have c32b0 : (t974 == 0) = false := beq_eq_false_iff_ne.mpr c32
                    have c32b1 : (t974 != 0) = true := bne_iff_ne.mpr c32
                    have H' := Aside0.mk H
                    clear H
                    go_wp2_with (first | ((with_reducible refine gate_callee (f := 56) rfl ?_); refine goesL_ (some 56) rfl rfl Try.func56 (by kernel_rfl) rfl #[.int .i64 t970, .int .i64 t966] rfl (by (try simp only [List.map_toArray, List.map_cons, List.map_nil]); first | done | rfl | (simp only [List.length_drop, List.length_take]; rfl)) ?_; (with_reducible refine (laws_within.calls kj2 t970 t966 true _ A29.out).mono ?_); rintro e w' ⟨rfl, ⟨nd, rfl⟩⟩; refine ⟨_, rfl, ?_⟩))
                    go_meet
                    case rel => exact ⟨_, ((t970 != t974)), (by first | rfl | (simp; done) | (simp [*]; done)), H', ⟨by have := HJ2.out; first | omega | exact Nat.le_refl _⟩, ⟨by (with_reducible repeat (first | apply Kd.R_alloc | apply Kd.R_drewN | apply Kd.R_drew)); exact HO969.out⟩, ⟨by repeat (first | (with_reducible first | exact HB.out | apply below_alloc | apply pw_below_drewN | apply below_drew1) | exact HB.out)⟩⟩
              · replace c30 := Bool.eq_false_iff.mpr c30
                subst c30
                have H1 : (laws_FnMergedBy.j1 kj2 l1 t964 t965 t966 t967 t970 true) = some r := by rw [if_neg (show ¬ (false = true) by decide)] at H; exact H
                clear H
                have H := H1
                clear H1
                have H' := Aside0.mk H
                clear H
                go_wp2_with (first | ((with_reducible refine gate_callee (f := 56) rfl ?_); refine goesL_ (some 56) rfl rfl Try.func56 (by kernel_rfl) rfl #[.int .i64 t970, .int .i64 t966] rfl (by (try simp only [List.map_toArray, List.map_cons, List.map_nil]); first | done | rfl | (simp only [List.length_drop, List.length_take]; rfl)) ?_; (with_reducible refine (laws_within.calls kj2 t970 t966 false _ A29.out).mono ?_); rintro e w' ⟨rfl, ⟨nd, rfl⟩⟩; refine ⟨_, rfl, ?_⟩))
                go_meet
                case rel => exact ⟨_, (true), (by first | rfl | (simp; done) | (simp [*]; done)), H', ⟨by have := HJ2.out; first | omega | exact Nat.le_refl _⟩, ⟨by (with_reducible repeat (first | apply Kd.R_alloc | apply Kd.R_drewN | apply Kd.R_drew)); exact HO969.out⟩, ⟨by repeat (first | (with_reducible first | exact HB.out | apply below_alloc | apply pw_below_drewN | apply below_drew1) | exact HB.out)⟩⟩
            case rest =>
              clear HC23
              try clear c1
              try clear c2
              try clear p2
              try clear c3
              try clear c4
              try clear c4b0
              try clear c4b1
              try clear c5
              try clear c6
              try clear c7
              try clear c9
              try clear c9b0
              try clear c9b1
              try clear c10
              try clear c10b0
              try clear c11
              try clear c11b0
              try clear c11b1
              try clear c24
              try clear c30
              try clear c31
              try clear c31b0
              try clear c31b1
              try clear c31b2
              try clear c32
              try clear c32b0
              try clear c32b1
              try clear p2
              obtain ⟨kq, x73_22, rfl, HA, HJ22, HO_6, HB⟩ := hcut
              cases kq with
              | zero => exact absurd HA.out (by simp [laws_FnMergedBy.j1])
              | succ kj22 =>
                have H := HA.out
                clear HA
                simp only [laws_FnMergedBy.j1] at H
                by_cases c33 : x73_22 = true
                · subst c33
                  have H1 : (some false) = some r := by rw [if_pos rfl] at H; exact H
                  clear H
                  have H := H1
                  clear H1
                  obtain rfl := Option.some.inj H
                  go_wp2
                  go_ret
                  exact ⟨by first | rfl | (simp [errW_none, errW_some] <;> rfl) | (simp [*, errW_none, errW_some] <;> rfl), by repeat (first | (with_reducible first | exact HB.out | apply below_alloc | apply pw_below_drewN | apply below_drew1) | exact HB.out)⟩
                · replace c33 := Bool.eq_false_iff.mpr c33
                  subst c33
                  have H1 : ((laws_whole.f t964).bind fun t976 => (if (wrap64 (t976 + 1)) = 0 then (none) else ((laws_both.f kj22 t966 (Int.tmod (wrap64 ((l1.length : Int) * 37)) (wrap64 (t976 + 1)))).bind fun t977 => ((laws_both.f kj22 t970 t977).bind fun t978 => (if t978 = 0 then (laws_FnMergedBy.j2 kj22 l1 t964 t965 t966 t967 t970 false) else ((impl_MergedBy.f kj22 t964 t965 t977 t967).bind fun t979 => ((laws_both.f kj22 t970 t977).bind fun t980 => (laws_FnMergedBy.j2 kj22 l1 t964 t965 t966 t967 t970 (t979 != t980))))))))) = some r := by rw [if_neg (show ¬ (false = true) by decide)] at H; exact H
                  clear H
                  have H := H1
                  clear H1
                  replace H := Option.bind_eq_some_iff.mp H
                  obtain ⟨t976, A340, H⟩ := H
                  replace H : (if (wrap64 (t976 + 1)) = 0 then (none) else ((laws_both.f kj22 t966 (Int.tmod (wrap64 ((l1.length : Int) * 37)) (wrap64 (t976 + 1)))).bind fun t977 => ((laws_both.f kj22 t970 t977).bind fun t978 => (if t978 = 0 then (laws_FnMergedBy.j2 kj22 l1 t964 t965 t966 t967 t970 false) else ((impl_MergedBy.f kj22 t964 t965 t977 t967).bind fun t979 => ((laws_both.f kj22 t970 t977).bind fun t980 => (laws_FnMergedBy.j2 kj22 l1 t964 t965 t966 t967 t970 (t979 != t980)))))))) = some r := H
                  have A34 := Aside0.mk A340
                  clear A340
                  by_cases c35 : (wrap64 (t976 + 1)) = 0
                  · rw [if_pos c35] at H
                    exact absurd H (by simp)
                  · rw [if_neg c35] at H
                    have c35b0 : ((wrap64 (t976 + 1)) == 0) = false := beq_eq_false_iff_ne.mpr c35
                    have c35b1 : ((wrap64 (t976 + 1)) != 0) = true := bne_iff_ne.mpr c35
                    replace H := Option.bind_eq_some_iff.mp H
                    obtain ⟨t977, A360, H⟩ := H
                    replace H : ((laws_both.f kj22 t970 t977).bind fun t978 => (if t978 = 0 then (laws_FnMergedBy.j2 kj22 l1 t964 t965 t966 t967 t970 false) else ((impl_MergedBy.f kj22 t964 t965 t977 t967).bind fun t979 => ((laws_both.f kj22 t970 t977).bind fun t980 => (laws_FnMergedBy.j2 kj22 l1 t964 t965 t966 t967 t970 (t979 != t980)))))) = some r := H
                    have A36 := Aside0.mk A360
                    clear A360
                    have HC37 := Aside0.mk H
                    clear H
                    go_upto_region 13 with (first | ((with_reducible refine gate_callee (f := 57) rfl ?_); refine goesL_ (some 79) rfl rfl Try.func57 (by kernel_rfl) rfl #[.int .i64 t964] rfl (by (try simp only [List.map_toArray, List.map_cons, List.map_nil]); first | done | rfl | (simp only [List.length_drop, List.length_take]; rfl)) ?_; (with_reducible refine (laws_whole.calls t964 t976 _ A34.out).mono ?_); rintro e w38 ⟨rfl, hb⟩; refine ⟨_, rfl, ?_⟩; have n0_ := Aside0.mk (Kd.R_below (by (with_reducible repeat (first | apply Kd.R_alloc | apply Kd.R_drewN | apply Kd.R_drew)); exact HO_6.out) hb); have n1_ := Aside0.mk (below_step (by repeat (first | (with_reducible first | exact HB.out | apply below_alloc | apply pw_below_drewN | apply below_drew1) | exact HB.out)) hb); clear HO_6; clear HB; have HO_6 := n0_; have HB := n1_; clear n0_ n1_; (try clear hb); (try clear hb2); (try clear hk); (try clear hi)) | ((with_reducible refine gate_callee (f := 52) rfl ?_); refine goesL_ (some 82) rfl rfl Try.func52 (by kernel_rfl) rfl #[.int .i64 t966, .int .i64 (Int.tmod (wrap64 ((l1.length : Int) * 37)) (wrap64 (t976 + 1)))] rfl (by (try simp only [List.map_toArray, List.map_cons, List.map_nil]); first | done | rfl | (simp only [List.length_drop, List.length_take]; rfl)) ?_; (with_reducible refine (laws_both.calls kj22 t966 (Int.tmod (wrap64 ((l1.length : Int) * 37)) (wrap64 (t976 + 1))) t977 _ A36.out).mono ?_); rintro e w' ⟨rfl, ⟨nd, rfl⟩⟩; refine ⟨_, rfl, ?_⟩))
                    (try simp only [Act.put, List.setIfInBounds_toArray, List.set_cons_zero, List.set_cons_succ])
                    go_cut [97] (fun v97 wc => ∃ (kq : Nat) (x97_36 : Bool), v97 = .bool x97_36 ∧ Aside0 (laws_FnMergedBy.j2 kq l1 t964 t965 t966 t967 t970 x97_36 = some r) ∧ Aside0 (kq ≤ kj22) ∧ Aside0 (Kd.R (Kd.int .i64) 3 wc w.heap.size (fun _ => True) (.slice Ao25 t965.length co25) t965) ∧ Aside0 (Below w.heap.size w wc))
                    case first =>
                      have H := HC37.out
                      clear HC37
                      replace H := Option.bind_eq_some_iff.mp H
                      obtain ⟨t978, A390, H⟩ := H
                      replace H : (if t978 = 0 then (laws_FnMergedBy.j2 kj22 l1 t964 t965 t966 t967 t970 false) else ((impl_MergedBy.f kj22 t964 t965 t977 t967).bind fun t979 => ((laws_both.f kj22 t970 t977).bind fun t980 => (laws_FnMergedBy.j2 kj22 l1 t964 t965 t966 t967 t970 (t979 != t980))))) = some r := H
                      have A39 := Aside0.mk A390
                      clear A390
                      by_cases c40 : t978 = 0
                      · rw [if_pos c40] at H
                        have c40b0 : (t978 == 0) = true := beq_iff_eq.mpr c40
                        have c40b1 : (t978 != 0) = false := bne_eq_false_iff_eq.mpr c40
                        clear c40
                        (first | rw [c40b0] | (simp only [i64_w, i32_w]; rw [c40b0]) | skip)
                        have H' := Aside0.mk H
                        clear H
                        go_wp2_with (first | ((with_reducible refine gate_callee (f := 52) rfl ?_); refine goesL_ (some 85) rfl rfl Try.func52 (by kernel_rfl) rfl #[.int .i64 t970, .int .i64 t977] rfl (by (try simp only [List.map_toArray, List.map_cons, List.map_nil]); first | done | rfl | (simp only [List.length_drop, List.length_take]; rfl)) ?_; (with_reducible refine (laws_both.calls kj22 t970 t977 t978 _ A39.out).mono ?_); rintro e w' ⟨rfl, ⟨nd, rfl⟩⟩; refine ⟨_, rfl, ?_⟩))
                        go_meet
                        case rel => exact ⟨_, (false), (by first | rfl | (simp; done) | (simp [*]; done)), H', ⟨by have := HJ2.out; have := HJ22.out; first | omega | exact Nat.le_refl _⟩, ⟨by (with_reducible repeat (first | apply Kd.R_alloc | apply Kd.R_drewN | apply Kd.R_drew)); exact HO_6.out⟩, ⟨by repeat (first | (with_reducible first | exact HB.out | apply below_alloc | apply pw_below_drewN | apply below_drew1) | exact HB.out)⟩⟩
                      · rw [if_neg c40] at H
                        have c40b0 : (t978 == 0) = false := beq_eq_false_iff_ne.mpr c40
                        have c40b1 : (t978 != 0) = true := bne_iff_ne.mpr c40
                        (first | rw [c40b0] | (simp only [i64_w, i32_w]; rw [c40b0]) | skip)
                        replace H := Option.bind_eq_some_iff.mp H
                        obtain ⟨t979, A410, H⟩ := H
                        replace H : ((laws_both.f kj22 t970 t977).bind fun t980 => (laws_FnMergedBy.j2 kj22 l1 t964 t965 t966 t967 t970 (t979 != t980))) = some r := H
                        have A41 := Aside0.mk A410
                        clear A410
                        replace H := Option.bind_eq_some_iff.mp H
                        obtain ⟨t980, A420, H⟩ := H
                        replace H : (laws_FnMergedBy.j2 kj22 l1 t964 t965 t966 t967 t970 (t979 != t980)) = some r := H
                        have A42 := Aside0.mk A420
                        clear A420
                        have H' := Aside0.mk H
                        clear H
                        go_wp2_with (first | ((with_reducible refine gate_callee (f := 52) rfl ?_); refine goesL_ (some 85) rfl rfl Try.func52 (by kernel_rfl) rfl #[.int .i64 t970, .int .i64 t977] rfl (by (try simp only [List.map_toArray, List.map_cons, List.map_nil]); first | done | rfl | (simp only [List.length_drop, List.length_take]; rfl)) ?_; (with_reducible refine (laws_both.calls kj22 t970 t977 t978 _ A39.out).mono ?_); rintro e w' ⟨rfl, ⟨nd, rfl⟩⟩; refine ⟨_, rfl, ?_⟩) | (go_at_call 68; (with_reducible refine (impl_MergedBy.calls kj22 t964 _ _ t965 t977 t967 t979 _ ?side1 ?side2 A41.out).mono ?_); (case side1 => repeat (first | exact (Kd.R_reads' HO_6.out).2.2 | (with_reducible refine Kd.C_alloc ?_ _) | (with_reducible refine Kd.C_drewN ?_ _) | (with_reducible refine Kd.C_drew ?_))); (case side2 => exact (Kd.R_reads' HO_6.out).2.1); rintro e w43 ⟨rfl, hb⟩; have n0_ := Aside0.mk (Kd.R_below (by (with_reducible repeat (first | apply Kd.R_alloc | apply Kd.R_drewN | apply Kd.R_drew)); exact HO_6.out) hb); have n1_ := Aside0.mk (below_step (by repeat (first | (with_reducible first | exact HB.out | apply below_alloc | apply pw_below_drewN | apply below_drew1) | exact HB.out)) hb); clear HO_6; clear HB; have HO_6 := n0_; have HB := n1_; clear n0_ n1_; (try clear hb); (try clear hb2); (try clear hk); (try clear hi)) | (go_at_call 52; (with_reducible refine (laws_both.calls kj22 t970 t977 t980 _ A42.out).mono ?_); rintro e w' ⟨rfl, ⟨nd, rfl⟩⟩))
                        go_meet
                        case rel => exact ⟨_, ((t979 != t980)), (by first | rfl | (simp; done) | (simp [*]; done)), H', ⟨by have := HJ2.out; have := HJ22.out; first | omega | exact Nat.le_refl _⟩, ⟨by (with_reducible repeat (first | apply Kd.R_alloc | apply Kd.R_drewN | apply Kd.R_drew)); exact HO_6.out⟩, ⟨by repeat (first | (with_reducible first | exact HB.out | apply below_alloc | apply pw_below_drewN | apply below_drew1) | exact HB.out)⟩⟩
                    case rest =>
                      clear HC37
                      try clear c1
                      try clear c2
                      try clear p2
                      try clear c3
                      try clear c4
                      try clear c4b0
                      try clear c4b1
                      try clear c5
                      try clear c6
                      try clear p6
                      try clear c7
                      try clear c9
                      try clear c9b0
                      try clear c9b1
                      try clear c10
                      try clear c10b0
                      try clear c11
                      try clear c11b0
                      try clear c11b1
                      try clear c24
                      try clear c30
                      try clear c31
                      try clear c31b0
                      try clear c31b1
                      try clear c31b2
                      try clear c32
                      try clear c32b0
                      try clear c32b1
                      try clear c33
                      try clear c35
                      try clear c35b0
                      try clear c35b1
                      try clear c40
                      try clear c40b0
                      try clear c40b1
                      try clear p2
                      obtain ⟨kq, x97_36, rfl, HA, HJ36, HO_6, HB⟩ := hcut
                      cases kq with
                      | zero => exact absurd HA.out (by simp [laws_FnMergedBy.j2])
                      | succ kj36 =>
                        have H := HA.out
                        clear HA
                        simp only [laws_FnMergedBy.j2] at H
                        by_cases c44 : x97_36 = true
                        · subst c44
                          have H1 : (some false) = some r := by rw [if_pos rfl] at H; exact H
                          clear H
                          have H := H1
                          clear H1
                          obtain rfl := Option.some.inj H
                          go_wp2
                          go_ret
                          exact ⟨by first | rfl | (simp [errW_none, errW_some] <;> rfl) | (simp [*, errW_none, errW_some] <;> rfl), by repeat (first | (with_reducible first | exact HB.out | apply below_alloc | apply pw_below_drewN | apply below_drew1) | exact HB.out)⟩
                        · replace c44 := Bool.eq_false_iff.mpr c44
                          subst c44
                          have H1 : (if (t965.length : Int) = 1 then (if 0 < (t965.length : Int) then ((impl_NearestOf.f kj36 t964 (rd t965 0) t966).bind fun t982 => (laws_FnMergedBy.j3 kj36 l1 t964 t965 t966 t967 t970 (t970 != t982))) else (none)) else (laws_FnMergedBy.j3 kj36 l1 t964 t965 t966 t967 t970 false)) = some r := by rw [if_neg (show ¬ (false = true) by decide)] at H; exact H
                          clear H
                          have H := H1
                          clear H1
                          have HC45 := Aside0.mk H
                          clear H
                          go_upto_region 15 with (fail)
                          go_cut [110] (fun v110 wc => ∃ (kq : Nat) (x110_44 : Bool), v110 = .bool x110_44 ∧ Aside0 (laws_FnMergedBy.j3 kq l1 t964 t965 t966 t967 t970 x110_44 = some r) ∧ Aside0 (kq ≤ kj36) ∧ Aside0 (Kd.R (Kd.int .i64) 3 wc w.heap.size (fun _ => True) (.slice Ao25 t965.length co25) t965) ∧ Aside0 (Below w.heap.size w wc))
                          case first =>
                            have H := HC45.out
                            clear HC45
                            by_cases c46 : (t965.length : Int) = 1
                            · rw [if_pos c46] at H
                              have c46b0 : ((t965.length : Int) == 1) = true := beq_iff_eq.mpr c46
                              have c46b1 : ((t965.length : Int) != 1) = false := bne_eq_false_iff_eq.mpr c46
                              clear c46
                              (first | rw [c46b0] | (simp only [i64_w, i32_w]; rw [c46b0]) | skip)
                              by_cases c47 : 0 < (t965.length : Int)
                              · rw [if_pos c47] at H
                                have c47b0 : decide (0 < (t965.length : Int)) = true := decide_eq_true c47
                                have c47b1 : decide (0 < t965.length) = true := decide_eq_true (by omega)
                                clear c47
                                replace H := Option.bind_eq_some_iff.mp H
                                obtain ⟨t982, A480, H⟩ := H
                                replace H : (laws_FnMergedBy.j3 kj36 l1 t964 t965 t966 t967 t970 (t970 != t982)) = some r := H
                                have A48 := Aside0.mk A480
                                clear A480
                                have H' := Aside0.mk H
                                clear H
                                have p981 : 0 ≤ (0 : Int) := (by omega)
                                have q981 : 0 < (t965.length : Int) := of_decide_eq_true (by first | (with_reducible assumption) | assumption)
                                obtain ⟨ad981, e981, hx981_0⟩ := Kd.at_int (Kd.R_reads' HO_6.out).2.2 0 p981 q981
                                cases e981
                                have qi981 : (0 < t965.length) = True := eq_true (by omega)
                                (try rw [show ((0 : Int)).toNat = 0 from rfl] at hx981_0)
                                (try rw [Addr.add_zero'] at hx981_0)
                                replace p981 := eq_true p981
                                replace q981 := eq_true q981
                                go_wp2_with (first | (go_at_call 72; (with_reducible refine (impl_NearestOf.calls kj36 t964 (rd t965 0) t966 t982 _ A48.out).mono ?_); rintro e w49 ⟨rfl, hb⟩; have n0_ := Aside0.mk (Kd.R_below (by (with_reducible repeat (first | apply Kd.R_alloc | apply Kd.R_drewN | apply Kd.R_drew)); exact HO_6.out) hb); have n1_ := Aside0.mk (below_step (by repeat (first | (with_reducible first | exact HB.out | apply below_alloc | apply pw_below_drewN | apply below_drew1) | exact HB.out)) hb); clear HO_6; clear HB; have HO_6 := n0_; have HB := n1_; clear n0_ n1_; (try clear hb); (try clear hb2); (try clear hk); (try clear hi)))
                                go_meet
                                case rel => exact ⟨_, ((t970 != t982)), (by first | rfl | (simp; done) | (simp [*]; done)), H', ⟨by have := HJ2.out; have := HJ22.out; have := HJ36.out; first | omega | exact Nat.le_refl _⟩, ⟨by (with_reducible repeat (first | apply Kd.R_alloc | apply Kd.R_drewN | apply Kd.R_drew)); exact HO_6.out⟩, ⟨by repeat (first | (with_reducible first | exact HB.out | apply below_alloc | apply pw_below_drewN | apply below_drew1) | exact HB.out)⟩⟩
                              · rw [if_neg c47] at H
                                exact absurd H (by simp)
                            · rw [if_neg c46] at H
                              have c46b0 : ((t965.length : Int) == 1) = false := beq_eq_false_iff_ne.mpr c46
                              have c46b1 : ((t965.length : Int) != 1) = true := bne_iff_ne.mpr c46
                              (first | rw [c46b0] | (simp only [i64_w, i32_w]; rw [c46b0]) | skip)
                              have H' := Aside0.mk H
                              clear H
                              go_wp2
                              go_meet
                              case rel => exact ⟨_, (false), (by first | rfl | (simp; done) | (simp [*]; done)), H', ⟨by have := HJ2.out; have := HJ22.out; have := HJ36.out; first | omega | exact Nat.le_refl _⟩, ⟨by (with_reducible repeat (first | apply Kd.R_alloc | apply Kd.R_drewN | apply Kd.R_drew)); exact HO_6.out⟩, ⟨by repeat (first | (with_reducible first | exact HB.out | apply below_alloc | apply pw_below_drewN | apply below_drew1) | exact HB.out)⟩⟩
                          case rest =>
                            clear HC45
                            try clear c1
                            try clear c2
                            try clear p2
                            try clear c3
                            try clear c4
                            try clear c4b0
                            try clear c4b1
                            try clear c5
                            try clear c6
                            try clear p6
                            try clear c7
                            try clear c9
                            try clear c9b0
                            try clear c9b1
                            try clear p9
                            try clear q9
                            try clear hx9
                            try clear qi9
                            try clear c10
                            try clear c10b0
                            try clear c11
                            try clear c11b0
                            try clear c11b1
                            try clear c24
                            try clear c30
                            try clear c31
                            try clear c31b0
                            try clear c31b1
                            try clear c31b2
                            try clear c32
                            try clear c32b0
                            try clear c32b1
                            try clear c33
                            try clear c35
                            try clear c35b0
                            try clear c35b1
                            try clear c40
                            try clear c40b0
                            try clear c40b1
                            try clear c44
                            try clear c46
                            try clear c46b0
                            try clear c46b1
                            try clear c47
                            try clear c47b0
                            try clear c47b1
                            try clear hx981_0
                            try clear p2
                            try clear p6
                            try clear p981
                            try clear q981
                            obtain ⟨kq, x110_44, rfl, HA, HJ44, HO_6, HB⟩ := hcut
                            cases kq with
                            | zero => exact absurd HA.out (by simp [laws_FnMergedBy.j3])
                            | succ kj44 =>
                              have H := HA.out
                              clear HA
                              simp only [laws_FnMergedBy.j3] at H
                              by_cases c50 : x110_44 = true
                              · subst c50
                                have H1 : (some false) = some r := by rw [if_pos rfl] at H; exact H
                                clear H
                                have H := H1
                                clear H1
                                obtain rfl := Option.some.inj H
                                go_wp2
                                go_ret
                                exact ⟨by first | rfl | (simp [errW_none, errW_some] <;> rfl) | (simp [*, errW_none, errW_some] <;> rfl), by repeat (first | (with_reducible first | exact HB.out | apply below_alloc | apply pw_below_drewN | apply below_drew1) | exact HB.out)⟩
                              · replace c50 := Bool.eq_false_iff.mpr c50
                                subst c50
                                have H1 : ((laws_whole.f t964).bind fun t983 => (if t983 = 0 then (none) else ((some (([wrap64 (1 + ((l1.length : Int) % t983))] : List Int) : List Int)).bind fun y984 => ((impl_MergedBy.f kj44 t964 y984 t966 t967).bind fun t987 => ((some (([] : List Int) : List Int)).bind fun y988 => (if y988.length + t965.length < 17592186044416 then ((some (y988 ++ t965 : List Int)).bind fun y991 => (if y991.length + y984.length < 17592186044416 then ((some (y991 ++ y984 : List Int)).bind fun y994 => (if t967 = 1 then (laws_FnMergedBy.j4 kj44 t964 t966 t967 t970 t987 y994 true) else (if (y994.length : Int) > 4 then (laws_FnMergedBy.j4 kj44 t964 t966 t967 t970 t987 y994 true) else ((laws_both.f kj44 t970 t987).bind fun t997 => (laws_FnMergedBy.j4 kj44 t964 t966 t967 t970 t987 y994 (t997 == 0)))))) else (none))) else (none))))))) = some r := by rw [if_neg (show ¬ (false = true) by decide)] at H; exact H
                                clear H
                                have H := H1
                                clear H1
                                replace H := Option.bind_eq_some_iff.mp H
                                obtain ⟨t983, A510, H⟩ := H
                                replace H : (if t983 = 0 then (none) else ((some (([wrap64 (1 + ((l1.length : Int) % t983))] : List Int) : List Int)).bind fun y984 => ((impl_MergedBy.f kj44 t964 y984 t966 t967).bind fun t987 => ((some (([] : List Int) : List Int)).bind fun y988 => (if y988.length + t965.length < 17592186044416 then ((some (y988 ++ t965 : List Int)).bind fun y991 => (if y991.length + y984.length < 17592186044416 then ((some (y991 ++ y984 : List Int)).bind fun y994 => (if t967 = 1 then (laws_FnMergedBy.j4 kj44 t964 t966 t967 t970 t987 y994 true) else (if (y994.length : Int) > 4 then (laws_FnMergedBy.j4 kj44 t964 t966 t967 t970 t987 y994 true) else ((laws_both.f kj44 t970 t987).bind fun t997 => (laws_FnMergedBy.j4 kj44 t964 t966 t967 t970 t987 y994 (t997 == 0)))))) else (none))) else (none)))))) = some r := H
                                have A51 := Aside0.mk A510
                                clear A510
                                by_cases c52 : t983 = 0
                                · rw [if_pos c52] at H
                                  exact absurd H (by simp)
                                · rw [if_neg c52] at H
                                  have c52b0 : (t983 == 0) = false := beq_eq_false_iff_ne.mpr c52
                                  have c52b1 : (t983 != 0) = true := bne_iff_ne.mpr c52
                                  obtain ⟨y984, hy984⟩ : ∃ y_ : List Int, y_ = (([wrap64 (1 + ((l1.length : Int) % t983))] : List Int)) := ⟨_, rfl⟩
                                  replace H : ((impl_MergedBy.f kj44 t964 y984 t966 t967).bind fun t987 => ((some (([] : List Int) : List Int)).bind fun y988 => (if y988.length + t965.length < 17592186044416 then ((some (y988 ++ t965 : List Int)).bind fun y991 => (if y991.length + y984.length < 17592186044416 then ((some (y991 ++ y984 : List Int)).bind fun y994 => (if t967 = 1 then (laws_FnMergedBy.j4 kj44 t964 t966 t967 t970 t987 y994 true) else (if (y994.length : Int) > 4 then (laws_FnMergedBy.j4 kj44 t964 t966 t967 t970 t987 y994 true) else ((laws_both.f kj44 t970 t987).bind fun t997 => (laws_FnMergedBy.j4 kj44 t964 t966 t967 t970 t987 y994 (t997 == 0)))))) else (none))) else (none)))) = some r := by first | (rw [hy984]; with_reducible exact H) | (have H2_ := (Option.bind_some _ _).symm.trans H; rw [hy984]; with_reducible exact H2_) | (have H2_ := (Option.bind_some _ _).symm.trans H; with_reducible exact H2_) | with_reducible exact H | (rw [hy984]; exact H) | exact H
                                  have Ny984 := Aside0.mk hy984
                                  clear hy984
                                  replace H := Option.bind_eq_some_iff.mp H
                                  obtain ⟨t987, A530, H⟩ := H
                                  replace H : ((some (([] : List Int) : List Int)).bind fun y988 => (if y988.length + t965.length < 17592186044416 then ((some (y988 ++ t965 : List Int)).bind fun y991 => (if y991.length + y984.length < 17592186044416 then ((some (y991 ++ y984 : List Int)).bind fun y994 => (if t967 = 1 then (laws_FnMergedBy.j4 kj44 t964 t966 t967 t970 t987 y994 true) else (if (y994.length : Int) > 4 then (laws_FnMergedBy.j4 kj44 t964 t966 t967 t970 t987 y994 true) else ((laws_both.f kj44 t970 t987).bind fun t997 => (laws_FnMergedBy.j4 kj44 t964 t966 t967 t970 t987 y994 (t997 == 0)))))) else (none))) else (none))) = some r := H
                                  have A53 := Aside0.mk A530
                                  clear A530
                                  obtain ⟨y988, hy988⟩ : ∃ y_ : List Int, y_ = (([] : List Int)) := ⟨_, rfl⟩
                                  replace H : (if y988.length + t965.length < 17592186044416 then ((some (y988 ++ t965 : List Int)).bind fun y991 => (if y991.length + y984.length < 17592186044416 then ((some (y991 ++ y984 : List Int)).bind fun y994 => (if t967 = 1 then (laws_FnMergedBy.j4 kj44 t964 t966 t967 t970 t987 y994 true) else (if (y994.length : Int) > 4 then (laws_FnMergedBy.j4 kj44 t964 t966 t967 t970 t987 y994 true) else ((laws_both.f kj44 t970 t987).bind fun t997 => (laws_FnMergedBy.j4 kj44 t964 t966 t967 t970 t987 y994 (t997 == 0)))))) else (none))) else (none)) = some r := by first | (rw [hy988]; with_reducible exact H) | (have H2_ := (Option.bind_some _ _).symm.trans H; rw [hy988]; with_reducible exact H2_) | (have H2_ := (Option.bind_some _ _).symm.trans H; with_reducible exact H2_) | with_reducible exact H | (rw [hy988]; exact H) | exact H
                                  have Ny988 := Aside0.mk hy988
                                  clear hy988
                                  by_cases c54 : y988.length + t965.length < 17592186044416
                                  · rw [if_pos c54] at H
                                    have LMc54 := Aside0.mk c54
                                    clear c54
                                    obtain ⟨y991, hy991⟩ : ∃ y_ : List Int, y_ = (y988 ++ t965) := ⟨_, rfl⟩
                                    replace H : (if y991.length + y984.length < 17592186044416 then ((some (y991 ++ y984 : List Int)).bind fun y994 => (if t967 = 1 then (laws_FnMergedBy.j4 kj44 t964 t966 t967 t970 t987 y994 true) else (if (y994.length : Int) > 4 then (laws_FnMergedBy.j4 kj44 t964 t966 t967 t970 t987 y994 true) else ((laws_both.f kj44 t970 t987).bind fun t997 => (laws_FnMergedBy.j4 kj44 t964 t966 t967 t970 t987 y994 (t997 == 0)))))) else (none)) = some r := by first | (rw [hy991]; with_reducible exact H) | (have H2_ := (Option.bind_some _ _).symm.trans H; rw [hy991]; with_reducible exact H2_) | (have H2_ := (Option.bind_some _ _).symm.trans H; with_reducible exact H2_) | with_reducible exact H | (rw [hy991]; exact H) | exact H
                                    have Ny991 := Aside0.mk hy991
                                    clear hy991
                                    by_cases c55 : y991.length + y984.length < 17592186044416
                                    · rw [if_pos c55] at H
                                      have LMc55 := Aside0.mk c55
                                      clear c55
                                      obtain ⟨y994, hy994⟩ : ∃ y_ : List Int, y_ = (y991 ++ y984) := ⟨_, rfl⟩
                                      replace H : (if t967 = 1 then (laws_FnMergedBy.j4 kj44 t964 t966 t967 t970 t987 y994 true) else (if (y994.length : Int) > 4 then (laws_FnMergedBy.j4 kj44 t964 t966 t967 t970 t987 y994 true) else ((laws_both.f kj44 t970 t987).bind fun t997 => (laws_FnMergedBy.j4 kj44 t964 t966 t967 t970 t987 y994 (t997 == 0))))) = some r := by first | (rw [hy994]; with_reducible exact H) | (have H2_ := (Option.bind_some _ _).symm.trans H; rw [hy994]; with_reducible exact H2_) | (have H2_ := (Option.bind_some _ _).symm.trans H; with_reducible exact H2_) | with_reducible exact H | (rw [hy994]; exact H) | exact H
                                      have Ny994 := Aside0.mk hy994
                                      clear hy994
                                      have HC56 := Aside0.mk H
                                      clear H
                                      go_upto_region 20 with (first | ((with_reducible refine gate_callee (f := 57) rfl ?_); refine goesL_ (some 114) rfl rfl Try.func57 (by kernel_rfl) rfl #[.int .i64 t964] rfl (by (try simp only [List.map_toArray, List.map_cons, List.map_nil]); first | done | rfl | (simp only [List.length_drop, List.length_take]; rfl)) ?_; (with_reducible refine (laws_whole.calls t964 t983 _ A51.out).mono ?_); rintro e w57 ⟨rfl, hb⟩; refine ⟨_, rfl, ?_⟩; have n0_ := Aside0.mk (Kd.R_below (by (with_reducible repeat (first | apply Kd.R_alloc | apply Kd.R_drewN | apply Kd.R_drew)); exact HO_6.out) hb); have n1_ := Aside0.mk (below_step (by repeat (first | (with_reducible first | exact HB.out | apply below_alloc | apply pw_below_drewN | apply below_drew1) | exact HB.out)) hb); clear HO_6; clear HB; have HO_6 := n0_; have HB := n1_; clear n0_ n1_; (try clear hb); (try clear hb2); (try clear hk); (try clear hi)) | ((with_reducible refine gate_dst (N := 117) rfl ?_); (try (refine gate_guard (by rfl) ?_; dsimp only)); refine Kd.R_lit (Kd.int .i64) _ 3 ?hg (N := 117) ?hd (xs := ([wrap64 (1 + ((l1.length : Int) % t983))] : List Int)) (inner := [.int .i64 (wrap64 (1 + ((l1.length : Int) % t983)))]) (ok := fun _ => True) (okp := fun _ => True) ?hr ?hp (fun _ hk => hk) trivial (Below.refl _ _) (Nat.le_refl _) (by simp) ?_; (case hd => rfl); (case hg => rfl); (case hr => first | (go_simp; done) | (go_simp; rfl)); (case hp => exact (Reps.one (show Kd.M (Kd.int .i64) _ _ _ (wrap64 (1 + ((l1.length : Int) % t983))) [.int .i64 (wrap64 (1 + ((l1.length : Int) % t983)))] from rfl) (Reps.none _ _))); intro v985 w58 ho59 hb hg_ hnew_; clear hg_ hnew_; (first | rw [← Ny984.out] at ho59 | (simp only [Int.reduceToNat] at ho59; rw [← Ny984.out] at ho59)); have n0_ := Aside0.mk (Kd.R_elder' (by (with_reducible repeat (first | apply Kd.R_alloc | apply Kd.R_drewN | apply Kd.R_drew)); exact HO_6.out) (Kd.R_base ho59) hb); have n1_ := Aside0.mk (Kd.R_lower (Kd.R_new' ho59 (Kd.R_lt (by (with_reducible repeat (first | apply Kd.R_alloc | apply Kd.R_drewN | apply Kd.R_drew)); exact HO_6.out))) (below_size (by repeat (first | (with_reducible first | exact HB.out | apply below_alloc | apply pw_below_drewN | apply below_drew1) | exact HB.out)))); have n2_ := Aside0.mk (below_step (by repeat (first | (with_reducible first | exact HB.out | apply below_alloc | apply pw_below_drewN | apply below_drew1) | exact HB.out)) hb); clear HO_6; clear HB; have HO_6 := n0_; have HO986 := n1_; have HB := n2_; clear n0_ n1_ n2_; clear hb ho59; obtain ⟨Ao60, co60, eo60⟩ := Kd.R_slice HO986.out; subst eo60) | ((with_reducible refine gate_callee (f := 68) rfl ?_); refine goesL_ (some 122) rfl rfl Try.func68 (by kernel_rfl) rfl #[.int .i64 t964, .slice Ao60 y984.length co60, .int .i64 t966, .int .i64 t967] rfl (by (try simp only [List.map_toArray, List.map_cons, List.map_nil]); first | done | rfl | (simp only [List.length_drop, List.length_take]; rfl)) ?_; (with_reducible refine (impl_MergedBy.calls kj44 t964 _ _ y984 t966 t967 t987 _ ?side1 ?side2 A53.out).mono ?_); (case side1 => repeat (first | exact (Kd.R_reads' HO986.out).2.2 | (with_reducible refine Kd.C_alloc ?_ _) | (with_reducible refine Kd.C_drewN ?_ _) | (with_reducible refine Kd.C_drew ?_))); (case side2 => exact (Kd.R_reads' HO986.out).2.1); rintro e w61 ⟨rfl, hb⟩; refine ⟨_, rfl, ?_⟩; have n0_ := Aside0.mk (Kd.R_below (by (with_reducible repeat (first | apply Kd.R_alloc | apply Kd.R_drewN | apply Kd.R_drew)); exact HO_6.out) hb); have n1_ := Aside0.mk (Kd.R_below (by (with_reducible repeat (first | apply Kd.R_alloc | apply Kd.R_drewN | apply Kd.R_drew)); exact HO986.out) hb); have n2_ := Aside0.mk (below_step (by repeat (first | (with_reducible first | exact HB.out | apply below_alloc | apply pw_below_drewN | apply below_drew1) | exact HB.out)) hb); clear HO_6; clear HO986; clear HB; have HO_6 := n0_; have HO986 := n1_; have HB := n2_; clear n0_ n1_ n2_; (try clear hb); (try clear hb2); (try clear hk); (try clear hi)) | ((with_reducible refine gate_dst (N := 123) rfl ?_); (try (refine gate_guard (by rfl) ?_; dsimp only)); refine Kd.R_lit (Kd.int .i64) _ 3 ?hg (N := 123) ?hd (xs := ([] : List Int)) (inner := []) (ok := fun _ => True) (okp := fun _ => True) ?hr ?hp (fun _ hk => hk) trivial (Below.refl _ _) (Nat.le_refl _) (by simp) ?_; (case hd => rfl); (case hg => rfl); (case hr => first | (go_simp; done) | (go_simp; rfl)); (case hp => exact (Reps.none _ _)); intro v989 w62 ho63 hb hg_ hnew_; clear hg_ hnew_; (first | rw [← Ny988.out] at ho63 | (simp only [Int.reduceToNat] at ho63; rw [← Ny988.out] at ho63)); have n0_ := Aside0.mk (Kd.R_elder' (by (with_reducible repeat (first | apply Kd.R_alloc | apply Kd.R_drewN | apply Kd.R_drew)); exact HO_6.out) (Kd.R_base ho63) hb); have n1_ := Aside0.mk (Kd.R_elder' (by (with_reducible repeat (first | apply Kd.R_alloc | apply Kd.R_drewN | apply Kd.R_drew)); exact HO986.out) (Kd.R_base ho63) hb); have n2_ := Aside0.mk (Kd.R_lower (Kd.R_new' (Kd.R_new' ho63 (Kd.R_lt (by (with_reducible repeat (first | apply Kd.R_alloc | apply Kd.R_drewN | apply Kd.R_drew)); exact HO_6.out))) (Kd.R_lt (by (with_reducible repeat (first | apply Kd.R_alloc | apply Kd.R_drewN | apply Kd.R_drew)); exact HO986.out))) (below_size (by repeat (first | (with_reducible first | exact HB.out | apply below_alloc | apply pw_below_drewN | apply below_drew1) | exact HB.out)))); have n3_ := Aside0.mk (below_step (by repeat (first | (with_reducible first | exact HB.out | apply below_alloc | apply pw_below_drewN | apply below_drew1) | exact HB.out)) hb); clear HO_6; clear HO986; clear HB; have HO_6 := n0_; have HO986 := n1_; have HO990 := n2_; have HB := n3_; clear n0_ n1_ n2_ n3_; clear hb ho63) | ((with_reducible refine gate_builtin (b := .append) (xs := #[.tmp 123, .tmp 124]) rfl ?_); (try (refine gate_guard (by rfl) ?_; dsimp only)); at_builtin; refine Kd.R_append_rows (Kd.int .i64) (w0 := w) w.heap.size rfl (.tmp 123) (.tmp 124) 22 3 (.int .i64 0) 8 rfl Try.underlying22 info3 rfl (by decide) (by omega) v989 y988 t965 _ _ _ (fun k_ => some k_ ≠ (.slice Ao25 t965.length co25 : Value).ownBlock ∧ some k_ ≠ (.slice Ao60 y984.length co60 : Value).ownBlock) (fun _ => False) rfl rfl ?aO ?aR (fun _ _ h => h) (fun _ h => h.elim) ?aF ?aB ?aS ?aL ?_; (case aR => repeat (first | exact (Kd.R_reads' HO_6.out).2.2 | (with_reducible refine Kd.C_alloc ?_ _) | (with_reducible refine Kd.C_drewN ?_ _) | (with_reducible refine Kd.C_drew ?_))); (case aB => exact (by repeat (first | (with_reducible first | exact HB.out | apply below_alloc | apply pw_below_drewN | apply below_drew1) | exact HB.out))); (case aF => exact (fun k_ hk => ⟨Kd.fresh' (Kd.R_lt (by (with_reducible repeat (first | apply Kd.R_alloc | apply Kd.R_drewN | apply Kd.R_drew)); exact HO_6.out)) k_ hk, Kd.fresh' (Kd.R_lt (by (with_reducible repeat (first | apply Kd.R_alloc | apply Kd.R_drewN | apply Kd.R_drew)); exact HO986.out)) k_ hk⟩)); (case aO => exact (by (with_reducible repeat (first | apply Kd.R_alloc | apply Kd.R_drewN | apply Kd.R_drew)); exact Kd.R_mono HO990.out (fun _ hk => ⟨hk.1.2, hk.2⟩))); (case aS => exact (below_size (by repeat (first | (with_reducible first | exact HB.out | apply below_alloc | apply pw_below_drewN | apply below_drew1) | exact HB.out)))); (case aL => have := LMc54.out; omega); intro v992 w64 ho hb hg hat; rw [← Ny991.out] at ho; have n0_ := Aside0.mk (Kd.R_after (ok := (fun k_ => some k_ ≠ (.slice Ao60 y984.length co60 : Value).ownBlock)) (by (with_reducible repeat (first | apply Kd.R_alloc | apply Kd.R_drewN | apply Kd.R_drew)); exact Kd.R_mono HO_6.out (fun _ hk => ⟨hk.1.2, hk.2⟩)) hg hat); have n1_ := Aside0.mk (Kd.R_after (ok := (fun k_ => some k_ ≠ (.slice Ao25 t965.length co25 : Value).ownBlock)) (by (with_reducible repeat (first | apply Kd.R_alloc | apply Kd.R_drewN | apply Kd.R_drew)); exact Kd.R_mono HO986.out (fun _ hk => ⟨hk.1.2, hk.2⟩)) hg hat); have n2_ := Aside0.mk (hb); have n3_ := Aside0.mk (ho); clear HO_6; clear HO986; clear HB; clear HO990; have HO_6 := n0_; have HO986 := n1_; have HB := n2_; have HO993 := n3_; clear n0_ n1_ n2_ n3_; clear ho hb hg hat) | ((with_reducible refine gate_builtin (b := .append) (xs := #[.tmp 125, .tmp 126]) rfl ?_); (try (refine gate_guard (by rfl) ?_; dsimp only)); at_builtin; refine Kd.R_append_rows (Kd.int .i64) (w0 := w) w.heap.size rfl (.tmp 125) (.tmp 126) 22 3 (.int .i64 0) 8 rfl Try.underlying22 info3 rfl (by decide) (by omega) v992 y991 y984 _ _ _ (fun k_ => some k_ ≠ (.slice Ao25 t965.length co25 : Value).ownBlock ∧ some k_ ≠ (.slice Ao60 y984.length co60 : Value).ownBlock) (fun _ => False) rfl rfl ?aO ?aR (fun _ _ h => h) (fun _ h => h.elim) ?aF ?aB ?aS ?aL ?_; (case aR => repeat (first | exact (Kd.R_reads' HO986.out).2.2 | (with_reducible refine Kd.C_alloc ?_ _) | (with_reducible refine Kd.C_drewN ?_ _) | (with_reducible refine Kd.C_drew ?_))); (case aB => exact (by repeat (first | (with_reducible first | exact HB.out | apply below_alloc | apply pw_below_drewN | apply below_drew1) | exact HB.out))); (case aF => exact (fun k_ hk => ⟨Kd.fresh' (Kd.R_lt (by (with_reducible repeat (first | apply Kd.R_alloc | apply Kd.R_drewN | apply Kd.R_drew)); exact HO_6.out)) k_ hk, Kd.fresh' (Kd.R_lt (by (with_reducible repeat (first | apply Kd.R_alloc | apply Kd.R_drewN | apply Kd.R_drew)); exact HO986.out)) k_ hk⟩)); (case aO => exact (by (with_reducible repeat (first | apply Kd.R_alloc | apply Kd.R_drewN | apply Kd.R_drew)); exact HO993.out)); (case aS => exact (below_size (by repeat (first | (with_reducible first | exact HB.out | apply below_alloc | apply pw_below_drewN | apply below_drew1) | exact HB.out)))); (case aL => have := LMc55.out; omega); intro v995 w65 ho hb hg hat; rw [← Ny994.out] at ho; have n0_ := Aside0.mk (Kd.R_after (ok := (fun k_ => some k_ ≠ (.slice Ao60 y984.length co60 : Value).ownBlock)) (by (with_reducible repeat (first | apply Kd.R_alloc | apply Kd.R_drewN | apply Kd.R_drew)); exact HO_6.out) hg hat); have n1_ := Aside0.mk (Kd.R_after (ok := (fun k_ => some k_ ≠ (.slice Ao25 t965.length co25 : Value).ownBlock)) (by (with_reducible repeat (first | apply Kd.R_alloc | apply Kd.R_drewN | apply Kd.R_drew)); exact HO986.out) hg hat); have n2_ := Aside0.mk (hb); have n3_ := Aside0.mk (ho); clear HO_6; clear HO986; clear HB; clear HO993; have HO_6 := n0_; have HO986 := n1_; have HB := n2_; have HO996 := n3_; clear n0_ n1_ n2_ n3_; clear ho hb hg hat))
                                      (try simp only [Act.put, List.setIfInBounds_toArray, List.set_cons_zero, List.set_cons_succ])
                                      go_cut [140] (fun v140 wc => ∃ (kq : Nat) (x140_55 : Bool), v140 = .bool x140_55 ∧ Aside0 (laws_FnMergedBy.j4 kq t964 t966 t967 t970 t987 y994 x140_55 = some r) ∧ Aside0 (kq ≤ kj44) ∧ Aside0 (Kd.R (Kd.int .i64) 3 wc w.heap.size (fun _ => True) v995 y994) ∧ Aside0 (Below w.heap.size w wc))
                                      case first =>
                                        have H := HC56.out
                                        clear HC56
                                        by_cases c66 : t967 = 1
                                        · rw [if_pos c66] at H
                                          have c66b0 : (t967 == 1) = true := beq_iff_eq.mpr c66
                                          have c66b1 : (t967 != 1) = false := bne_eq_false_iff_eq.mpr c66
                                          clear c66
                                          (first | rw [c66b0] | (simp only [i64_w, i32_w]; rw [c66b0]) | skip)
                                          have H' := Aside0.mk H
                                          clear H
                                          go_wp2
                                          go_meet
                                          case rel => exact ⟨_, (true), (by first | rfl | (simp; done) | (simp [*]; done)), H', ⟨by have := HJ2.out; have := HJ22.out; have := HJ36.out; have := HJ44.out; first | omega | exact Nat.le_refl _⟩, ⟨by (with_reducible repeat (first | apply Kd.R_alloc | apply Kd.R_drewN | apply Kd.R_drew)); exact Kd.R_mono HO996.out (fun _ hk => trivial)⟩, ⟨by repeat (first | (with_reducible first | exact HB.out | apply below_alloc | apply pw_below_drewN | apply below_drew1) | exact HB.out)⟩⟩
                                        · rw [if_neg c66] at H
                                          have c66b0 : (t967 == 1) = false := beq_eq_false_iff_ne.mpr c66
                                          have c66b1 : (t967 != 1) = true := bne_iff_ne.mpr c66
                                          (first | rw [c66b0] | (simp only [i64_w, i32_w]; rw [c66b0]) | skip)
                                          by_cases c67 : (y994.length : Int) > 4
                                          · rw [if_pos c67] at H
                                            have c67b0 : decide (4 < (y994.length : Int)) = true := decide_eq_true c67
                                            have c67b1 : decide (4 < y994.length) = true := decide_eq_true (by omega)
                                            clear c67
                                            have H' := Aside0.mk H
                                            clear H
                                            obtain ⟨Ao68, co68, eo68⟩ := Kd.R_slice HO996.out
                                            subst eo68
                                            go_wp2
                                            go_meet
                                            case rel => exact ⟨_, (true), (by first | rfl | (simp; done) | (simp [*]; done)), H', ⟨by have := HJ2.out; have := HJ22.out; have := HJ36.out; have := HJ44.out; first | omega | exact Nat.le_refl _⟩, ⟨by (with_reducible repeat (first | apply Kd.R_alloc | apply Kd.R_drewN | apply Kd.R_drew)); exact Kd.R_mono HO996.out (fun _ hk => trivial)⟩, ⟨by repeat (first | (with_reducible first | exact HB.out | apply below_alloc | apply pw_below_drewN | apply below_drew1) | exact HB.out)⟩⟩
                                          · rw [if_neg c67] at H
                                            have c67b0 : decide (4 < (y994.length : Int)) = false := decide_eq_false c67
                                            have c67b1 : decide (4 < y994.length) = false := decide_eq_false (by omega)
                                            clear c67
                                            replace H := Option.bind_eq_some_iff.mp H
                                            obtain ⟨t997, A690, H⟩ := H
                                            replace H : (laws_FnMergedBy.j4 kj44 t964 t966 t967 t970 t987 y994 (t997 == 0)) = some r := H
                                            have A69 := Aside0.mk A690
                                            clear A690
                                            have H' := Aside0.mk H
                                            clear H
                                            obtain ⟨Ao70, co70, eo70⟩ := Kd.R_slice HO996.out
                                            subst eo70
                                            go_wp2_with (first | (go_at_call 52; (with_reducible refine (laws_both.calls kj44 t970 t987 t997 _ A69.out).mono ?_); rintro e w' ⟨rfl, ⟨nd, rfl⟩⟩))
                                            go_meet
                                            case rel => exact ⟨_, ((t997 == 0)), (by first | rfl | (simp; done) | (simp [*]; done)), H', ⟨by have := HJ2.out; have := HJ22.out; have := HJ36.out; have := HJ44.out; first | omega | exact Nat.le_refl _⟩, ⟨by (with_reducible repeat (first | apply Kd.R_alloc | apply Kd.R_drewN | apply Kd.R_drew)); exact Kd.R_mono HO996.out (fun _ hk => trivial)⟩, ⟨by repeat (first | (with_reducible first | exact HB.out | apply below_alloc | apply pw_below_drewN | apply below_drew1) | exact HB.out)⟩⟩
                                      case rest =>
                                        clear HC56
                                        try clear c1
                                        try clear c2
                                        try clear p2
                                        try clear c3
                                        try clear c4
                                        try clear c4b0
                                        try clear c4b1
                                        try clear c5
                                        try clear c6
                                        try clear p6
                                        try clear c7
                                        try clear c9
                                        try clear c9b0
                                        try clear c9b1
                                        try clear p9
                                        try clear q9
                                        try clear hx9
                                        try clear qi9
                                        try clear c10
                                        try clear c10b0
                                        try clear c11
                                        try clear c11b0
                                        try clear c11b1
                                        try clear c24
                                        try clear c30
                                        try clear c31
                                        try clear c31b0
                                        try clear c31b1
                                        try clear c31b2
                                        try clear c32
                                        try clear c32b0
                                        try clear c32b1
                                        try clear c33
                                        try clear c35
                                        try clear c35b0
                                        try clear c35b1
                                        try clear c40
                                        try clear c40b0
                                        try clear c40b1
                                        try clear c44
                                        try clear c46
                                        try clear c46b0
                                        try clear c46b1
                                        try clear c47
                                        try clear c47b0
                                        try clear c47b1
                                        try clear c50
                                        try clear c52
                                        try clear c52b0
                                        try clear c52b1
                                        try clear c54
                                        try clear c55
                                        try clear c56
                                        try clear c57
                                        try clear p64
                                        try clear c66
                                        try clear c66b0
                                        try clear c66b1
                                        try clear c67
                                        try clear c67b0
                                        try clear c67b1
                                        try clear c68
                                        try clear hx981_0
                                        try clear p2
                                        try clear p6
                                        try clear p9
                                        try clear p981
                                        try clear q9
                                        try clear q981
                                        obtain ⟨kq, x140_55, rfl, HA, HJ55, HO_14, HB⟩ := hcut
                                        cases kq with
                                        | zero => exact absurd HA.out (by simp [laws_FnMergedBy.j4])
                                        | succ kj55 =>
                                          have H := HA.out
                                          clear HA
                                          simp only [laws_FnMergedBy.j4] at H
                                          by_cases c71 : x140_55 = true
                                          · subst c71
                                            have H1 : (some true) = some r := by rw [if_pos rfl] at H; exact H
                                            clear H
                                            have H := H1
                                            clear H1
                                            obtain rfl := Option.some.inj H
                                            go_wp2
                                            go_ret
                                            exact ⟨by first | rfl | (simp [errW_none, errW_some] <;> rfl) | (simp [*, errW_none, errW_some] <;> rfl), by repeat (first | (with_reducible first | exact HB.out | apply below_alloc | apply pw_below_drewN | apply below_drew1) | exact HB.out)⟩
                                          · replace c71 := Bool.eq_false_iff.mpr c71
                                            subst c71
                                            have H1 : ((impl_MergedBy.f kj55 t964 y994 t966 t967).bind fun t998 => ((laws_both.f kj55 t970 t987).bind fun t999 => (some (t998 == t999)))) = some r := by rw [if_neg (show ¬ (false = true) by decide)] at H; exact H
                                            clear H
                                            have H := H1
                                            clear H1
                                            replace H := Option.bind_eq_some_iff.mp H
                                            obtain ⟨t998, A720, H⟩ := H
                                            replace H : ((laws_both.f kj55 t970 t987).bind fun t999 => (some (t998 == t999))) = some r := H
                                            have A72 := Aside0.mk A720
                                            clear A720
                                            replace H := Option.bind_eq_some_iff.mp H
                                            obtain ⟨t999, A730, H⟩ := H
                                            replace H : (some (t998 == t999)) = some r := H
                                            have A73 := Aside0.mk A730
                                            clear A730
                                            obtain rfl := Option.some.inj H
                                            obtain ⟨Ao74, co74, eo74⟩ := Kd.R_slice HO_14.out
                                            subst eo74
                                            go_wp2_with (first | ((with_reducible refine gate_callee (f := 68) rfl ?_); refine goesL_ (some 145) rfl rfl Try.func68 (by kernel_rfl) rfl #[.int .i64 t964, .slice Ao74 y994.length co74, .int .i64 t966, .int .i64 t967] rfl (by (try simp only [List.map_toArray, List.map_cons, List.map_nil]); first | done | rfl | (simp only [List.length_drop, List.length_take]; rfl)) ?_; (with_reducible refine (impl_MergedBy.calls kj55 t964 _ _ y994 t966 t967 t998 _ ?side1 ?side2 A72.out).mono ?_); (case side1 => repeat (first | exact (Kd.R_reads' HO_14.out).2.2 | (with_reducible refine Kd.C_alloc ?_ _) | (with_reducible refine Kd.C_drewN ?_ _) | (with_reducible refine Kd.C_drew ?_))); (case side2 => exact (Kd.R_reads' HO_14.out).2.1); rintro e w75 ⟨rfl, hb⟩; refine ⟨_, rfl, ?_⟩; have n0_ := Aside0.mk (Kd.R_below (by (with_reducible repeat (first | apply Kd.R_alloc | apply Kd.R_drewN | apply Kd.R_drew)); exact HO_14.out) hb); have n1_ := Aside0.mk (below_step (by repeat (first | (with_reducible first | exact HB.out | apply below_alloc | apply pw_below_drewN | apply below_drew1) | exact HB.out)) hb); clear HO_14; clear HB; have HO_14 := n0_; have HB := n1_; clear n0_ n1_; (try clear hb); (try clear hb2); (try clear hk); (try clear hi)) | ((with_reducible refine gate_callee (f := 52) rfl ?_); refine goesL_ (some 148) rfl rfl Try.func52 (by kernel_rfl) rfl #[.int .i64 t970, .int .i64 t987] rfl (by (try simp only [List.map_toArray, List.map_cons, List.map_nil]); first | done | rfl | (simp only [List.length_drop, List.length_take]; rfl)) ?_; (with_reducible refine (laws_both.calls kj55 t970 t987 t999 _ A73.out).mono ?_); rintro e w' ⟨rfl, ⟨nd, rfl⟩⟩; refine ⟨_, rfl, ?_⟩))
                                            go_ret
                                            exact ⟨by first | rfl | (simp [errW_none, errW_some] <;> rfl) | (simp [*, errW_none, errW_some] <;> rfl), by repeat (first | (with_reducible first | exact HB.out | apply below_alloc | apply pw_below_drewN | apply below_drew1) | exact HB.out)⟩
                                    · rw [if_neg c55] at H
                                      exact absurd H (by simp)
                                  · rw [if_neg c54] at H
                                    exact absurd H (by simp)
        · rw [if_neg c9] at H
          have c9b0 : (t970 == t971) = false := beq_eq_false_iff_ne.mpr c9
          have c9b1 : (t970 != t971) = true := bne_iff_ne.mpr c9
          obtain rfl := Option.some.inj H
          go_wp2_with (first | ((with_reducible refine gate_callee (f := 71) rfl ?_); refine goesL_ (some 25) rfl rfl Try.func71 (by kernel_rfl) rfl #[.slice A0 l0.length c0] rfl (by (try simp only [List.map_toArray, List.map_cons, List.map_nil]); first | done | rfl | (simp only [List.length_drop, List.length_take]; rfl)) ?_; (with_reducible refine (spec_DrawMergedBy.calls kj2 _ _ l0 t964 t965 t966 t967 _ ?side1 ?side2 A6.out).mono ?_); (case side1 => repeat (first | exact (Kd.C_below HR0.out HB.out) | (with_reducible refine Kd.C_alloc ?_ _) | (with_reducible refine Kd.C_drewN ?_ _) | (with_reducible refine Kd.C_drew ?_))); (case side2 => exact HC0.out); rintro e w76 ⟨v968, rfl, ho0, hb⟩; refine ⟨_, rfl, ?_⟩; have n0_ := Aside0.mk (Kd.R_lower ho0 (below_size (by repeat (first | (with_reducible first | exact HB.out | apply below_alloc | apply pw_below_drewN | apply below_drew1) | exact HB.out)))); have n1_ := Aside0.mk (below_step (by repeat (first | (with_reducible first | exact HB.out | apply below_alloc | apply pw_below_drewN | apply below_drew1) | exact HB.out)) hb); clear HB; have HO969 := n0_; have HB := n1_; clear n0_ n1_; (try clear hb); (try clear hb2); (try clear hk); (try clear hi); (try clear ho0); obtain ⟨Ao77, co77, eo77⟩ := Kd.R_slice HO969.out; subst eo77) | ((with_reducible refine gate_callee (f := 68) rfl ?_); refine goesL_ (some 34) rfl rfl Try.func68 (by kernel_rfl) rfl #[.int .i64 t964, .slice Ao77 t965.length co77, .int .i64 t966, .int .i64 t967] rfl (by (try simp only [List.map_toArray, List.map_cons, List.map_nil]); first | done | rfl | (simp only [List.length_drop, List.length_take]; rfl)) ?_; (with_reducible refine (impl_MergedBy.calls kj2 t964 _ _ t965 t966 t967 t970 _ ?side1 ?side2 A7.out).mono ?_); (case side1 => repeat (first | exact (Kd.R_reads' HO969.out).2.2 | (with_reducible refine Kd.C_alloc ?_ _) | (with_reducible refine Kd.C_drewN ?_ _) | (with_reducible refine Kd.C_drew ?_))); (case side2 => exact (Kd.R_reads' HO969.out).2.1); rintro e w78 ⟨rfl, hb⟩; refine ⟨_, rfl, ?_⟩; have n0_ := Aside0.mk (Kd.R_below (by (with_reducible repeat (first | apply Kd.R_alloc | apply Kd.R_drewN | apply Kd.R_drew)); exact HO969.out) hb); have n1_ := Aside0.mk (below_step (by repeat (first | (with_reducible first | exact HB.out | apply below_alloc | apply pw_below_drewN | apply below_drew1) | exact HB.out)) hb); clear HO969; clear HB; have HO969 := n0_; have HB := n1_; clear n0_ n1_; (try clear hb); (try clear hb2); (try clear hk); (try clear hi)) | ((with_reducible refine gate_callee (f := 67) rfl ?_); refine goesL_ (some 40) rfl rfl Try.func67 (by kernel_rfl) rfl #[.int .i64 t964, .slice Ao77 t965.length co77, .int .i64 t966, .int .i64 t967] rfl (by (try simp only [List.map_toArray, List.map_cons, List.map_nil]); first | done | rfl | (simp only [List.length_drop, List.length_take]; rfl)) ?_; (with_reducible refine (spec_MergedBy.calls kj2 t964 _ _ t965 t966 t967 t971 _ ?side1 ?side2 A8.out).mono ?_); (case side1 => repeat (first | exact (Kd.R_reads' HO969.out).2.2 | (with_reducible refine Kd.C_alloc ?_ _) | (with_reducible refine Kd.C_drewN ?_ _) | (with_reducible refine Kd.C_drew ?_))); (case side2 => exact (Kd.R_reads' HO969.out).2.1); rintro e w79 ⟨rfl, hb⟩; refine ⟨_, rfl, ?_⟩; have n0_ := Aside0.mk (Kd.R_below (by (with_reducible repeat (first | apply Kd.R_alloc | apply Kd.R_drewN | apply Kd.R_drew)); exact HO969.out) hb); have n1_ := Aside0.mk (below_step (by repeat (first | (with_reducible first | exact HB.out | apply below_alloc | apply pw_below_drewN | apply below_drew1) | exact HB.out)) hb); clear HO969; clear HB; have HO969 := n0_; have HB := n1_; clear n0_ n1_; (try clear hb); (try clear hb2); (try clear hk); (try clear hi)))
          go_ret
          exact ⟨by first | rfl | (simp [errW_none, errW_some] <;> rfl) | (simp [*, errW_none, errW_some] <;> rfl), by repeat (first | (with_reducible first | exact HB.out | apply below_alloc | apply pw_below_drewN | apply below_drew1) | exact HB.out)⟩

/-- THE ONE PURE STATEMENT of laws_FnMergedBy: yours. -/
def laws_FnMergedBy.Pure : Prop := ∀ (l0 : List Int) (l1 : List Int), l0.length ≤ maxLen → l0.length * 1 ≤ 140737488351232 → (∀ x ∈ l0, (Lit.int .u8 x).wf = true) → l1.length ≤ maxLen → l1.length * 1 ≤ 140737488351232 → (∀ x ∈ l1, (Lit.int .u8 x).wf = true) → ∃ k, laws_FnMergedBy.f k l0 l1 = some true
theorem laws_FnMergedBy.walk (P : laws_FnMergedBy.Pure) (a0 : Option Addr) (len0 cap0 : Nat) (z0 : List Int) (a1 : Option Addr) (len1 cap1 : Nat) (z1 : List Int) (w : World) (w0 : (a0 = none ∧ len0 = 0 ∧ cap0 = 0 ∧ z0 = []) ∨ ∃ x, a0 = some x ∧ len0 ≤ cap0 ∧ cap0 ≤ maxLen ∧ z0.length = cap0 ∧ (∀ i, i < z0.length → w.cell? (x.add i) = some (.int .u8 (z0.getD i 0))) ∧ ∀ n ∈ z0, (Lit.int .u8 n).wf = true) (y0 : len0 * 1 ≤ 140737488351232) (w1 : (a1 = none ∧ len1 = 0 ∧ cap1 = 0 ∧ z1 = []) ∨ ∃ x, a1 = some x ∧ len1 ≤ cap1 ∧ cap1 ≤ maxLen ∧ z1.length = cap1 ∧ (∀ i, i < z1.length → w.cell? (x.add i) = some (.int .u8 (z1.getD i 0))) ∧ ∀ n ∈ z1, (Lit.int .u8 n).wf = true) (y1 : len1 * 1 ≤ 140737488351232) :
    Calls Try.prog 24 #[.slice a0 len0 cap0, .slice a1 len1 cap1] w fun e w' => e = .returned (.bool true) ∧ Below w.heap.size w w' := by
  obtain ⟨l0, rfl, hr0, hm0, hw0, hc0⟩ := ReadsInt.ofRowC w0
  obtain ⟨l1, rfl, hr1, hm1, hw1, hc1⟩ := ReadsInt.ofRowC w1
  obtain ⟨k, h⟩ := P l0 l1 hm0 y0 hw0 hm1 y1 hw1
  refine (laws_FnMergedBy.calls k _ _ l0 _ _ l1 true w (Kd.C_of_reads (d := (0 : Int)) (h1 := fun _ => rfl) hr0) hc0 (Kd.C_of_reads (d := (0 : Int)) (h1 := fun _ => rfl) hr1) hc1 h).mono ?_
  rintro e w' ⟨rfl, hd⟩
  exact ⟨rfl, hd⟩

end Go.Proofs.Yteiehniidihmdaa.P
