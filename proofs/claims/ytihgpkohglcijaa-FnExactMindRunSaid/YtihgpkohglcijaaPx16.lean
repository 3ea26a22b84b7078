-- Written by a program of this session (wip/hook.py), which runs the kit's printer; Lean checks it.
import Derived.Test.YtihgpkohglcijaaPx0
import Derived.Test.YtihgpkohglcijaaPx11
import Derived.Test.YtihgpkohglcijaaPx12
namespace Go.Proofs.Ytihgpkohglcijaa.P
open Go.RowKit Go.Proofs.YtihgpkohglcijaaW.PrintWords Go.Proofs.YtihgpkohglcijaaW.PrintLast Go.Proofs.YtihgpkohglcijaaW.PrintMore
attribute [local go_sem] max2_int min2_int max_two min_two max_three min_three max_four min_four   -- for this text's walks alone
set_option linter.unusedVariables false
set_option linter.unusedSimpArgs false

/-! ### spec_SameOrder: function 109 -/
mutual
def spec_SameOrder.j0 : Nat → Int → List Int → List Int → Bool → Option (Bool)
 | 0, _, _, _, _ => none
 | k + 1, x0, x1, x2, x19 => if x19 = true then (some false) else ((spec_TidyRank.f k x0 x1).bind fun t431 => ((spec_TidyRank.f k x0 x2).bind fun t434 => (spec_SameOrder.l0 k t431 t434 0)))
def spec_SameOrder.l0 : Nat → List Int → List Int → Int → Option (Bool)
 | 0, _, _, _ => none
 | k + 1, x7, x8, x9 => if x9 < (x7.length : Int) then (if 0 ≤ x9 then (if x9 < (x8.length : Int) then (if (rd x7 x9) = (rd x8 x9) then (spec_SameOrder.l0 k x7 x8 (wrap64 (x9 + 1))) else (some false)) else (none)) else (none)) else (some true)
end
def spec_SameOrder.f (k : Nat) (a0 : Int) (l1 : List Int) (l2 : List Int) : Option (Bool) := (spec_RankOk.f k a0 l1).bind fun t429 => (if t429 = true then ((spec_RankOk.f k a0 l2).bind fun t430 => (spec_SameOrder.j0 k a0 l1 l2 (!t430))) else (spec_SameOrder.j0 k a0 l1 l2 true))
theorem spec_SameOrder.mono_l : ∀ k, (∀ y0 y1 y2 y3, LeO (spec_SameOrder.j0 k y0 y1 y2 y3) (spec_SameOrder.j0 (k + 1) y0 y1 y2 y3)) ∧ (∀ y0 y1 y2, LeO (spec_SameOrder.l0 k y0 y1 y2) (spec_SameOrder.l0 (k + 1) y0 y1 y2))
 | 0 => ⟨fun _ _ _ _ r h => by simp [spec_SameOrder.j0] at h, fun _ _ _ r h => by simp [spec_SameOrder.l0] at h⟩
 | k + 1 => by
  obtain ⟨ih0, ih1⟩ := spec_SameOrder.mono_l k
  refine ⟨?_, ?_⟩
  ·intro y0 y1 y2 y3
   unfold spec_SameOrder.j0
   repeat' first
   | (with_reducible first | exact ih0 _ _ _ _ | exact ih1 _ _ _ | exact spec_RankOk.mono _ _ _ | exact spec_TidyRank.mono _ _ _ | exact LeO.refl _ | exact LeO.none _ | refine LeO.ite ?_ ?_ | refine LeO.bind ?_ (fun _ => ?_))
   | refine LeO.ite ?_ ?_
   | refine LeO.bind ?_ (fun _ => ?_)
  ·intro y0 y1 y2
   unfold spec_SameOrder.l0
   repeat' first
   | (with_reducible first | exact ih0 _ _ _ _ | exact ih1 _ _ _ | exact spec_RankOk.mono _ _ _ | exact spec_TidyRank.mono _ _ _ | exact LeO.refl _ | exact LeO.none _ | refine LeO.ite ?_ ?_ | refine LeO.bind ?_ (fun _ => ?_))
   | refine LeO.ite ?_ ?_
   | refine LeO.bind ?_ (fun _ => ?_)
theorem spec_SameOrder.mono : ∀ a0 a1 a2 k, LeO (spec_SameOrder.f k a0 a1 a2) (spec_SameOrder.f (k + 1) a0 a1 a2) := by
 intro a0 a1 a2 k
 obtain ⟨ih0, ih1⟩ := spec_SameOrder.mono_l k
 unfold spec_SameOrder.f
 repeat' first
   | (with_reducible first | exact ih0 _ _ _ _ | exact ih1 _ _ _ | exact spec_RankOk.mono _ _ _ | exact spec_TidyRank.mono _ _ _ | exact LeO.refl _ | exact LeO.none _ | refine LeO.ite ?_ ?_ | refine LeO.bind ?_ (fun _ => ?_))
   | refine LeO.ite ?_ ?_
   | refine LeO.bind ?_ (fun _ => ?_)
set_option maxHeartbeats 8000000 in
set_option maxRecDepth 100000 in
theorem spec_SameOrder.calls (k : Nat) (a0 : Int) (A1 : Option Addr) (c1 : Nat) (l1 : List Int) (A2 : Option Addr) (c2 : Nat) (l2 : List Int) (r : Bool) (w : World) (hr1 : Kd.C (Kd.int .i64) w A1 l1.length l1) (hc1 : l1.length ≤ c1) (hr2 : Kd.C (Kd.int .i64) w A2 l2.length l2) (hc2 : l2.length ≤ c2) (h : spec_SameOrder.f k a0 l1 l2 = some r) :
  Calls Try.prog 109 #[.int .i64 a0, .slice A1 l1.length c1, .slice A2 l2.length c2] w fun e w' => e = .returned (.bool r) ∧ Below w.heap.size w w' := by
 have HR1 := Asd.mk hr1
 have HC1 := Asd.mk hc1
 clear hr1 hc1
 have HR2 := Asd.mk hr2
 have HC2 := Asd.mk hc2
 clear hr2 hc2
 have HB := Asd.mk (Below.refl w.heap.size w)
 have H : ((spec_RankOk.f k a0 l1).bind fun t429 => (if t429 = true then ((spec_RankOk.f k a0 l2).bind fun t430 => (spec_SameOrder.j0 k a0 l1 l2 (!t430))) else (spec_SameOrder.j0 k a0 l1 l2 true))) = some r := h
 clear h
 have HC4 := Asd.mk H
 clear H
 go_enter Try.func109, Try.ntmps109
 go_upto_region 1 with (fail)
 repeat (go_quiet (fail); go_upto_region 1 with (fail))
 go_cut [19] (fun v19 wc => ∃ (kq : Nat) (x19_3 : Bool), v19 = .bool x19_3 ∧ Asd (spec_SameOrder.j0 kq a0 l1 l2 x19_3 = some r) ∧ Asd (kq ≤ k) ∧ Asd (Below w.heap.size w wc))
 case first =>
  have H := HC4.out
  clear HC4
  replace H := Option.bind_eq_some_iff.mp H
  obtain ⟨t429, A50, H⟩ := H
  try dsimp only at H
  have A5 := Asd.mk A50
  clear A50
  by_cases c6 : t429 = true
  ·subst c6
   rw [if_pos rfl] at H
   replace H := Option.bind_eq_some_iff.mp H
   obtain ⟨t430, A70, H⟩ := H
   try dsimp only at H
   have A7 := Asd.mk A70
   clear A70
   have H' := Asd.mk H
   clear H
   go_wp2_with (first | (go_at_call 59; (with_reducible refine (spec_RankOk.calls k a0 _ _ l1 true _ ?side1 ?side2 A5.out).mono ?_); (case side1 => exact cZ (Kd.C_below HR1.out HB.out)); (case side2 => exact HC1.out); rintro e w8 ⟨rfl, hb⟩; replace HB := bW HB hb; (try clear hb); (try clear hb2); (try clear hk); (try clear hi)) | (go_at_call 59; (with_reducible refine (spec_RankOk.calls k a0 _ _ l2 t430 _ ?side1 ?side2 A7.out).mono ?_); (case side1 => exact cZ (Kd.C_below HR2.out HB.out)); (case side2 => exact HC2.out); rintro e w9 ⟨rfl, hb⟩; replace HB := bW HB hb; (try clear hb); (try clear hb2); (try clear hk); (try clear hi)))
   repeat (go_quiet (first | (go_at_call 59; (with_reducible refine (spec_RankOk.calls k a0 _ _ l1 true _ ?side1 ?side2 A5.out).mono ?_); (case side1 => exact cZ (Kd.C_below HR1.out HB.out)); (case side2 => exact HC1.out); rintro e w8 ⟨rfl, hb⟩; replace HB := bW HB hb; (try clear hb); (try clear hb2); (try clear hk); (try clear hi)) | (go_at_call 59; (with_reducible refine (spec_RankOk.calls k a0 _ _ l2 t430 _ ?side1 ?side2 A7.out).mono ?_); (case side1 => exact cZ (Kd.C_below HR2.out HB.out)); (case side2 => exact HC2.out); rintro e w9 ⟨rfl, hb⟩; replace HB := bW HB hb; (try clear hb); (try clear hb2); (try clear hk); (try clear hi))); try go_wp2_with (first | (go_at_call 59; (with_reducible refine (spec_RankOk.calls k a0 _ _ l1 true _ ?side1 ?side2 A5.out).mono ?_); (case side1 => exact cZ (Kd.C_below HR1.out HB.out)); (case side2 => exact HC1.out); rintro e w8 ⟨rfl, hb⟩; replace HB := bW HB hb; (try clear hb); (try clear hb2); (try clear hk); (try clear hi)) | (go_at_call 59; (with_reducible refine (spec_RankOk.calls k a0 _ _ l2 t430 _ ?side1 ?side2 A7.out).mono ?_); (case side1 => exact cZ (Kd.C_below HR2.out HB.out)); (case side2 => exact HC2.out); rintro e w9 ⟨rfl, hb⟩; replace HB := bW HB hb; (try clear hb); (try clear hb2); (try clear hk); (try clear hi))))
   go_meet
   case rel => exact ⟨_, (!t430), (by first | rfl | (simp; done) | (simp [*]; done)), H', ⟨by first | omega | exact Nat.le_refl _⟩, ⟨wZ HB⟩⟩
  ·replace c6 := Bool.eq_false_iff.mpr c6
   subst c6
   rw [if_neg (show ¬ (false = true) by decide)] at H
   have H' := Asd.mk H
   clear H
   go_wp2_with (first | (go_at_call 59; (with_reducible refine (spec_RankOk.calls k a0 _ _ l1 false _ ?side1 ?side2 A5.out).mono ?_); (case side1 => exact cZ (Kd.C_below HR1.out HB.out)); (case side2 => exact HC1.out); rintro e w10 ⟨rfl, hb⟩; replace HB := bW HB hb; (try clear hb); (try clear hb2); (try clear hk); (try clear hi)))
   repeat (go_quiet (first | (go_at_call 59; (with_reducible refine (spec_RankOk.calls k a0 _ _ l1 false _ ?side1 ?side2 A5.out).mono ?_); (case side1 => exact cZ (Kd.C_below HR1.out HB.out)); (case side2 => exact HC1.out); rintro e w10 ⟨rfl, hb⟩; replace HB := bW HB hb; (try clear hb); (try clear hb2); (try clear hk); (try clear hi))); try go_wp2_with (first | (go_at_call 59; (with_reducible refine (spec_RankOk.calls k a0 _ _ l1 false _ ?side1 ?side2 A5.out).mono ?_); (case side1 => exact cZ (Kd.C_below HR1.out HB.out)); (case side2 => exact HC1.out); rintro e w10 ⟨rfl, hb⟩; replace HB := bW HB hb; (try clear hb); (try clear hb2); (try clear hk); (try clear hi))))
   go_meet
   case rel => exact ⟨_, (true), (by first | rfl | (simp; done) | (simp [*]; done)), H', ⟨by first | omega | exact Nat.le_refl _⟩, ⟨wZ HB⟩⟩
 case rest =>
  clear HC4
  obtain ⟨kq, x19_3, rfl, HA, HJ3, HB⟩ := hcut
  cases kq with
  | zero => exact absurd HA.out (by simp [spec_SameOrder.j0])
  | succ kj3 =>
   have H := HA.out
   clear HA
   simp only [spec_SameOrder.j0] at H
   by_cases c11 : x19_3 = true
   ·subst c11
    rw [if_pos rfl] at H
    obtain rfl := Option.some.inj H
    go_wp2
    repeat (go_quiet (fail); try go_wp2)
    go_ret
    exact ⟨by first | rfl | (simp [*, errW_none, errW_some] <;> rfl), wZ HB⟩
   ·replace c11 := Bool.eq_false_iff.mpr c11
    subst c11
    rw [if_neg (show ¬ (false = true) by decide)] at H
    replace H := Option.bind_eq_some_iff.mp H
    obtain ⟨t431, A120, H⟩ := H
    try dsimp only at H
    have A12 := Asd.mk A120
    clear A120
    replace H := Option.bind_eq_some_iff.mp H
    obtain ⟨t434, A130, H⟩ := H
    try dsimp only at H
    have A13 := Asd.mk A130
    clear A130
    have H' := Asd.mk H
    clear H
    go_wp2_with (first | (go_at_call 89; (with_reducible refine (spec_TidyRank.calls kj3 a0 _ _ l1 t431 _ ?side1 ?side2 A12.out).mono ?_); (case side1 => exact cZ (Kd.C_below HR1.out HB.out)); (case side2 => exact HC1.out); rintro e w14 ⟨v432, rfl, ho0, hb⟩; have HO433 := Asd.mk (Kd.R_lower ho0 (below_size (wZ HB))); replace HB := bW HB hb; (try clear hb); (try clear hb2); (try clear hk); (try clear hi); (try clear ho0)) | (go_at_call 89; (with_reducible refine (spec_TidyRank.calls kj3 a0 _ _ l2 t434 _ ?side1 ?side2 A13.out).mono ?_); (case side1 => exact cZ (Kd.C_below HR2.out HB.out)); (case side2 => exact HC2.out); rintro e w15 ⟨v435, rfl, ho0, hb⟩; have HO436 := Asd.mk (Kd.R_lower (Kd.R_new' ho0 (Kd.R_lt (rS HO433))) (below_size (wZ HB))); replace HO433 := Asd.mk (Kd.R_elder' (rS HO433) (Kd.R_base ho0) hb); replace HB := bW HB hb; (try clear hb); (try clear hb2); (try clear hk); (try clear hi); (try clear ho0)))
    repeat (go_quiet (first | (go_at_call 89; (with_reducible refine (spec_TidyRank.calls kj3 a0 _ _ l1 t431 _ ?side1 ?side2 A12.out).mono ?_); (case side1 => exact cZ (Kd.C_below HR1.out HB.out)); (case side2 => exact HC1.out); rintro e w14 ⟨v432, rfl, ho0, hb⟩; have HO433 := Asd.mk (Kd.R_lower ho0 (below_size (wZ HB))); replace HB := bW HB hb; (try clear hb); (try clear hb2); (try clear hk); (try clear hi); (try clear ho0)) | (go_at_call 89; (with_reducible refine (spec_TidyRank.calls kj3 a0 _ _ l2 t434 _ ?side1 ?side2 A13.out).mono ?_); (case side1 => exact cZ (Kd.C_below HR2.out HB.out)); (case side2 => exact HC2.out); rintro e w15 ⟨v435, rfl, ho0, hb⟩; have HO436 := Asd.mk (Kd.R_lower (Kd.R_new' ho0 (Kd.R_lt (rS HO433))) (below_size (wZ HB))); replace HO433 := Asd.mk (Kd.R_elder' (rS HO433) (Kd.R_base ho0) hb); replace HB := bW HB hb; (try clear hb); (try clear hb2); (try clear hk); (try clear hi); (try clear ho0))); try go_wp2_with (first | (go_at_call 89; (with_reducible refine (spec_TidyRank.calls kj3 a0 _ _ l1 t431 _ ?side1 ?side2 A12.out).mono ?_); (case side1 => exact cZ (Kd.C_below HR1.out HB.out)); (case side2 => exact HC1.out); rintro e w14 ⟨v432, rfl, ho0, hb⟩; have HO433 := Asd.mk (Kd.R_lower ho0 (below_size (wZ HB))); replace HB := bW HB hb; (try clear hb); (try clear hb2); (try clear hk); (try clear hi); (try clear ho0)) | (go_at_call 89; (with_reducible refine (spec_TidyRank.calls kj3 a0 _ _ l2 t434 _ ?side1 ?side2 A13.out).mono ?_); (case side1 => exact cZ (Kd.C_below HR2.out HB.out)); (case side2 => exact HC2.out); rintro e w15 ⟨v435, rfl, ho0, hb⟩; have HO436 := Asd.mk (Kd.R_lower (Kd.R_new' ho0 (Kd.R_lt (rS HO433))) (below_size (wZ HB))); replace HO433 := Asd.mk (Kd.R_elder' (rS HO433) (Kd.R_base ho0) hb); replace HB := bW HB hb; (try clear hb); (try clear hb2); (try clear hk); (try clear hi); (try clear ho0))))
    go_loopg [9] kj3 (fun kq v9 w' => ∃ (x9_2 : Int), v9 = .int .i64 x9_2 ∧ Asd (spec_SameOrder.l0 kq t431 t434 x9_2 = some r) ∧ Asd (kq ≤ kj3) ∧ Asd (Kd.R (Kd.int .i64) 3 w' w.heap.size (fun k_ => some k_ ≠ (v435 : Value).ownBlock) v432 t431) ∧ Asd (Kd.R (Kd.int .i64) 3 w' w.heap.size (fun k_ => some k_ ≠ (v432 : Value).ownBlock) v435 t434) ∧ Asd (Below w.heap.size w w'))
    case atStart => exact ⟨(0), (by first | rfl | (simp; done) | (simp [*]; done)), H', ⟨Nat.le_refl _⟩, ⟨by (repeat apply Kd.RS); exact Kd.R_mono HO433.out (fun _ hk => hk.2)⟩, ⟨by (repeat apply Kd.RS); exact Kd.R_mono HO436.out (fun _ hk => hk.2)⟩, ⟨wZ HB⟩⟩
    case round =>
     clear H'
     obtain ⟨x9_2, rfl, HA, HK2, HO_7, HO_8, HB⟩ := hrel
     cases gk with
     | zero => exact absurd HA.out (by simp [spec_SameOrder.l0])
     | succ k2 =>
      have H := HA.out
      clear HA
      simp only [spec_SameOrder.l0] at H
      by_cases c16 : x9_2 < (t431.length : Int)
      ·rw [if_pos c16] at H
       have c16b0 : decide (x9_2 < (t431.length : Int)) = true := decide_eq_true c16
       clear c16
       by_cases c17 : 0 ≤ x9_2; rotate_left; (rw [if_neg c17] at H; exact absurd H (by simp))
       rw [if_pos c17] at H
       have c17b0 : decide (0 ≤ x9_2) = true := decide_eq_true c17
       clear c17
       by_cases c18 : x9_2 < (t434.length : Int); rotate_left; (rw [if_neg c18] at H; exact absurd H (by simp))
       rw [if_pos c18] at H
       have c18b0 : decide (x9_2 < (t434.length : Int)) = true := decide_eq_true c18
       clear c18
       by_cases c19 : (rd t431 x9_2) = (rd t434 x9_2)
       ·rw [if_pos c19] at H
        have c19b0 : ((rd t431 x9_2) == (rd t434 x9_2)) = true := beq_iff_eq.mpr c19
        have c19b1 : ((rd t431 x9_2) != (rd t434 x9_2)) = false := bne_eq_false_iff_eq.mpr c19
        clear c19
        have H' := Asd.mk H
        clear H
        obtain ⟨Ao20, co20, eo20⟩ := Kd.R_slice HO_7.out
        subst eo20
        have p437 : 0 ≤ (x9_2 : Int) := odt
        have q437 : x9_2 < (t431.length : Int) := odt
        obtain ⟨ad437, e437, hx437_0⟩ := Kd.at_int (Kd.R_reads' HO_7.out).2.2 x9_2 p437 q437
        cases e437
        replace p437 := eq_true p437
        replace q437 := eq_true q437
        obtain ⟨Ao21, co21, eo21⟩ := Kd.R_slice HO_8.out
        subst eo21
        have p438 : 0 ≤ (x9_2 : Int) := odt
        have q438 : x9_2 < (t434.length : Int) := odt
        obtain ⟨ad438, e438, hx438_0⟩ := Kd.at_int (Kd.R_reads' HO_8.out).2.2 x9_2 p438 q438
        cases e438
        replace p438 := eq_true p438
        replace q438 := eq_true q438
        go_wp2
        repeat (go_quiet (fail); try go_wp2)
        go_roundg k2
        case measure => have := HJ3.out; have := HK2.out; omega
        case rel => exact ⟨(wrap64 (x9_2 + 1)), (by first | rfl | (simp; done) | (simp [*]; done)), H', ⟨by have := HJ3.out; have := HK2.out; omega⟩, ⟨by (repeat apply Kd.RS); exact HO_7.out⟩, ⟨by (repeat apply Kd.RS); exact HO_8.out⟩, ⟨wZ HB⟩⟩
       ·rw [if_neg c19] at H
        have c19b0 : ((rd t431 x9_2) == (rd t434 x9_2)) = false := beq_eq_false_iff_ne.mpr c19
        have c19b1 : ((rd t431 x9_2) != (rd t434 x9_2)) = true := bne_iff_ne.mpr c19
        obtain rfl := Option.some.inj H
        obtain ⟨Ao22, co22, eo22⟩ := Kd.R_slice HO_7.out
        subst eo22
        have p437 : 0 ≤ (x9_2 : Int) := odt
        have q437 : x9_2 < (t431.length : Int) := odt
        obtain ⟨ad437, e437, hx437_0⟩ := Kd.at_int (Kd.R_reads' HO_7.out).2.2 x9_2 p437 q437
        cases e437
        replace p437 := eq_true p437
        replace q437 := eq_true q437
        obtain ⟨Ao23, co23, eo23⟩ := Kd.R_slice HO_8.out
        subst eo23
        have p438 : 0 ≤ (x9_2 : Int) := odt
        have q438 : x9_2 < (t434.length : Int) := odt
        obtain ⟨ad438, e438, hx438_0⟩ := Kd.at_int (Kd.R_reads' HO_8.out).2.2 x9_2 p438 q438
        cases e438
        replace p438 := eq_true p438
        replace q438 := eq_true q438
        go_wp2
        repeat (go_quiet (fail); try go_wp2)
        go_ret
        exact ⟨by first | rfl | (simp [*, errW_none, errW_some] <;> rfl), wZ HB⟩
      ·rw [if_neg c16] at H
       have c16b0 : decide (x9_2 < (t431.length : Int)) = false := decide_eq_false c16
       clear c16
       obtain rfl := Option.some.inj H
       obtain ⟨Ao24, co24, eo24⟩ := Kd.R_slice HO_7.out
       subst eo24
       go_wp2
       repeat (go_quiet (fail); try go_wp2)
       go_ret
       exact ⟨by first | rfl | (simp [*, errW_none, errW_some] <;> rfl), wZ HB⟩

end Go.Proofs.Ytihgpkohglcijaa.P
