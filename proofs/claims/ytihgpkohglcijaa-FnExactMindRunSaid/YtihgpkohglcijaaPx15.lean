-- Written by a program of this session (wip/hook.py), which runs the kit's printer; Lean checks it.
import Derived.Test.YtihgpkohglcijaaPx0
import Derived.Test.YtihgpkohglcijaaPx11
import Derived.Test.YtihgpkohglcijaaPx12
import Derived.Test.YtihgpkohglcijaaPx14
namespace Go.Proofs.Ytihgpkohglcijaa.P
open Go.RowKit Go.Proofs.YtihgpkohglcijaaW.PrintWords Go.Proofs.YtihgpkohglcijaaW.PrintLast Go.Proofs.YtihgpkohglcijaaW.PrintMore
attribute [local go_sem] max2_int min2_int max_two min_two max_three min_three max_four min_four   -- for this text's walks alone
set_option linter.unusedVariables false
set_option linter.unusedSimpArgs false

/-! ### spec_l6Tidy: function 147 -/
mutual
def spec_l6Tidy.l0 : Nat → List Int → List Int → Int → Option (List Int)
 | 0, _, _, _ => none
 | k + 1, x0, x3, x4 => if x4 < (x0.length : Int) then (spec_l6Tidy.l1 k x0 x3 x4 (([] : List Int)) 0) else (some x3)
def spec_l6Tidy.l1 : Nat → List Int → List Int → Int → List Int → Int → Option (List Int)
 | 0, _, _, _, _, _ => none
 | k + 1, x0, x3, x4, x5, x6 => if x6 < (x0.length : Int) then (if 0 ≤ x6 then (if 0 ≤ x4 then (if x4 < (x0.length : Int) then (spec_l6Tidy.l2 k x0 x3 x4 x5 x6 (decide ((rd x0 x6) ≥ (rd x0 x4))) 0) else (none)) else (none)) else (none)) else (if x3.length < 17592186044416 then (spec_l6Tidy.l0 k x0 (x3 ++ [(x5.length : Int)]) (wrap64 (x4 + 1))) else (none))
def spec_l6Tidy.l2 : Nat → List Int → List Int → Int → List Int → Int → Bool → Int → Option (List Int)
 | 0, _, _, _, _, _, _, _ => none
 | k + 1, x0, x3, x4, x5, x6, x7, x8 => if x8 < (x5.length : Int) then (if x7 = true then (spec_l6Tidy.l2 k x0 x3 x4 x5 x6 true (wrap64 (x8 + 1))) else (if 0 ≤ x8 then (if 0 ≤ x6 then (if x6 < (x0.length : Int) then (spec_l6Tidy.l2 k x0 x3 x4 x5 x6 ((rd x5 x8) == (rd x0 x6)) (wrap64 (x8 + 1))) else (none)) else (none)) else (none))) else (if x7 = true then (spec_l6Tidy.l1 k x0 x3 x4 x5 (wrap64 (x6 + 1))) else (if 0 ≤ x6 then (if x6 < (x0.length : Int) then (if x5.length < 17592186044416 then (spec_l6Tidy.l1 k x0 x3 x4 (x5 ++ [rd x0 x6]) (wrap64 (x6 + 1))) else (none)) else (none)) else (none)))
end
def spec_l6Tidy.f (k : Nat) (l0 : List Int) : Option (List Int) := spec_l6Tidy.l0 k l0 (([] : List Int)) 0
theorem spec_l6Tidy.mono_l : ∀ k, (∀ y0 y1 y2, LeO (spec_l6Tidy.l0 k y0 y1 y2) (spec_l6Tidy.l0 (k + 1) y0 y1 y2)) ∧ (∀ y0 y1 y2 y3 y4, LeO (spec_l6Tidy.l1 k y0 y1 y2 y3 y4) (spec_l6Tidy.l1 (k + 1) y0 y1 y2 y3 y4)) ∧ (∀ y0 y1 y2 y3 y4 y5 y6, LeO (spec_l6Tidy.l2 k y0 y1 y2 y3 y4 y5 y6) (spec_l6Tidy.l2 (k + 1) y0 y1 y2 y3 y4 y5 y6))
 | 0 => ⟨fun _ _ _ r h => by simp [spec_l6Tidy.l0] at h, fun _ _ _ _ _ r h => by simp [spec_l6Tidy.l1] at h, fun _ _ _ _ _ _ _ r h => by simp [spec_l6Tidy.l2] at h⟩
 | k + 1 => by
  obtain ⟨ih0, ih1, ih2⟩ := spec_l6Tidy.mono_l k
  refine ⟨?_, ?_, ?_⟩
  ·intro y0 y1 y2
   unfold spec_l6Tidy.l0
   repeat' first
   | (with_reducible first | exact ih0 _ _ _ | exact ih1 _ _ _ _ _ | exact ih2 _ _ _ _ _ _ _ | exact LeO.refl _ | exact LeO.none _ | refine LeO.ite ?_ ?_ | refine LeO.bind ?_ (fun _ => ?_))
   | refine LeO.ite ?_ ?_
   | refine LeO.bind ?_ (fun _ => ?_)
  ·intro y0 y1 y2 y3 y4
   unfold spec_l6Tidy.l1
   repeat' first
   | (with_reducible first | exact ih0 _ _ _ | exact ih1 _ _ _ _ _ | exact ih2 _ _ _ _ _ _ _ | exact LeO.refl _ | exact LeO.none _ | refine LeO.ite ?_ ?_ | refine LeO.bind ?_ (fun _ => ?_))
   | refine LeO.ite ?_ ?_
   | refine LeO.bind ?_ (fun _ => ?_)
  ·intro y0 y1 y2 y3 y4 y5 y6
   unfold spec_l6Tidy.l2
   repeat' first
   | (with_reducible first | exact ih0 _ _ _ | exact ih1 _ _ _ _ _ | exact ih2 _ _ _ _ _ _ _ | exact LeO.refl _ | exact LeO.none _ | refine LeO.ite ?_ ?_ | refine LeO.bind ?_ (fun _ => ?_))
   | refine LeO.ite ?_ ?_
   | refine LeO.bind ?_ (fun _ => ?_)
theorem spec_l6Tidy.mono : ∀ a0 k, LeO (spec_l6Tidy.f k a0) (spec_l6Tidy.f (k + 1) a0) := by
 intro a0 k
 obtain ⟨ih0, ih1, ih2⟩ := spec_l6Tidy.mono_l k
 unfold spec_l6Tidy.f
 repeat' first
   | (with_reducible first | exact ih0 _ _ _ | exact ih1 _ _ _ _ _ | exact ih2 _ _ _ _ _ _ _ | exact LeO.refl _ | exact LeO.none _ | refine LeO.ite ?_ ?_ | refine LeO.bind ?_ (fun _ => ?_))
   | refine LeO.ite ?_ ?_
   | refine LeO.bind ?_ (fun _ => ?_)
set_option maxHeartbeats 8000000 in
set_option maxRecDepth 100000 in
theorem spec_l6Tidy.calls (k : Nat) (A0 : Option Addr) (c0 : Nat) (l0 : List Int) (r : List Int) (w : World) (hr0 : Kd.C (Kd.int .i64) w A0 l0.length l0) (hc0 : l0.length ≤ c0) (h : spec_l6Tidy.f k l0 = some r) :
  Calls Try.prog 147 #[.slice A0 l0.length c0] w fun e w' => ∃ v0_ : Value, e = .returned (v0_) ∧ Kd.R (Kd.int .i64) 3 w' w.heap.size (fun _ => True) v0_ r ∧ Below w.heap.size w w' := by
 have HR0 := Asd.mk hr0
 have HC0 := Asd.mk hc0
 clear hr0 hc0
 have HB := Asd.mk (Below.refl w.heap.size w)
 have H : (spec_l6Tidy.l0 k l0 (([] : List Int)) 0) = some r := h
 clear h
 obtain ⟨y384, hy384⟩ : ∃ y_ : List Int, y_ = (([] : List Int)) := ⟨_, rfl⟩
 replace H : (spec_l6Tidy.l0 k l0 y384 0) = some r := by first | (rw [hy384]; with_reducible exact H) | (have H2_ := (Option.bind_some _ _).symm.trans H; rw [hy384]; with_reducible exact H2_) | (have H2_ := (Option.bind_some _ _).symm.trans H; with_reducible exact H2_) | with_reducible exact H | (rw [hy384]; exact H) | exact H
 have Ny384 := Asd.mk hy384
 clear hy384
 have H' := Asd.mk H
 clear H
 go_enter Try.func147, Try.ntmps147
 go_wp2_with (first | ((with_reducible refine gate_dst (N := 9) rfl ?_); refine Kd.R_lit (Kd.int .i64) _ 3 ?hg (N := 9) ?hd (xs := ([] : List Int)) (inner := []) (ok := fun _ => True) (okp := fun _ => True) ?hr ?hp (fun _ hk => hk) trivial (Below.refl _ _) (Nat.le_refl _) (by simp) ?_; (case hd => rfl); (case hg => rfl); (case hr => first | (go_simp; done) | (go_simp; rfl)); (case hp => exact (Reps.none _ _)); intro v385 w2 ho3 hb hg_ hnew_; clear hg_ hnew_; (first | rw [← Ny384.out] at ho3 | (simp only [Int.reduceToNat] at ho3; rw [← Ny384.out] at ho3)); have HO386 := Asd.mk (Kd.R_lower ho3 (below_size (wZ HB))); replace HB := bW HB hb; clear hb ho3))
 repeat (go_quiet (first | ((with_reducible refine gate_dst (N := 9) rfl ?_); refine Kd.R_lit (Kd.int .i64) _ 3 ?hg (N := 9) ?hd (xs := ([] : List Int)) (inner := []) (ok := fun _ => True) (okp := fun _ => True) ?hr ?hp (fun _ hk => hk) trivial (Below.refl _ _) (Nat.le_refl _) (by simp) ?_; (case hd => rfl); (case hg => rfl); (case hr => first | (go_simp; done) | (go_simp; rfl)); (case hp => exact (Reps.none _ _)); intro v385 w2 ho3 hb hg_ hnew_; clear hg_ hnew_; (first | rw [← Ny384.out] at ho3 | (simp only [Int.reduceToNat] at ho3; rw [← Ny384.out] at ho3)); have HO386 := Asd.mk (Kd.R_lower ho3 (below_size (wZ HB))); replace HB := bW HB hb; clear hb ho3)); try go_wp2_with (first | ((with_reducible refine gate_dst (N := 9) rfl ?_); refine Kd.R_lit (Kd.int .i64) _ 3 ?hg (N := 9) ?hd (xs := ([] : List Int)) (inner := []) (ok := fun _ => True) (okp := fun _ => True) ?hr ?hp (fun _ hk => hk) trivial (Below.refl _ _) (Nat.le_refl _) (by simp) ?_; (case hd => rfl); (case hg => rfl); (case hr => first | (go_simp; done) | (go_simp; rfl)); (case hp => exact (Reps.none _ _)); intro v385 w2 ho3 hb hg_ hnew_; clear hg_ hnew_; (first | rw [← Ny384.out] at ho3 | (simp only [Int.reduceToNat] at ho3; rw [← Ny384.out] at ho3)); have HO386 := Asd.mk (Kd.R_lower ho3 (below_size (wZ HB))); replace HB := bW HB hb; clear hb ho3)))
 go_loopg [3, 4] k (fun kq v3 v4 w' => ∃ (x3_1 : List Int) (x4_1 : Int), v4 = .int .i64 x4_1 ∧ Asd (spec_l6Tidy.l0 kq l0 x3_1 x4_1 = some r) ∧ Asd (kq ≤ k) ∧ Asd (Kd.R (Kd.int .i64) 3 w' w.heap.size (fun _ => True) v3 x3_1) ∧ Asd (Below w.heap.size w w'))
 case atStart => exact ⟨(y384), (0), (by first | rfl | (simp; done) | (simp [*]; done)), H', ⟨Nat.le_refl _⟩, ⟨by (repeat apply Kd.RS); exact HO386.out⟩, ⟨wZ HB⟩⟩
 case round =>
  clear H'
  obtain ⟨x3_1, x4_1, rfl, HA, HK1, HO_3, HB⟩ := hrel
  cases gk with
  | zero => exact absurd HA.out (by simp [spec_l6Tidy.l0])
  | succ k1 =>
   have H := HA.out
   clear HA
   simp only [spec_l6Tidy.l0] at H
   by_cases c4 : x4_1 < (l0.length : Int)
   ·rw [if_pos c4] at H
    have c4b0 : decide (x4_1 < (l0.length : Int)) = true := decide_eq_true c4
    clear c4
    obtain ⟨y387, hy387⟩ : ∃ y_ : List Int, y_ = (([] : List Int)) := ⟨_, rfl⟩
    replace H : (spec_l6Tidy.l1 k1 l0 x3_1 x4_1 y387 0) = some r := by first | (rw [hy387]; with_reducible exact H) | (have H2_ := (Option.bind_some _ _).symm.trans H; rw [hy387]; with_reducible exact H2_) | (have H2_ := (Option.bind_some _ _).symm.trans H; with_reducible exact H2_) | with_reducible exact H | (rw [hy387]; exact H) | exact H
    have Ny387 := Asd.mk hy387
    clear hy387
    have H' := Asd.mk H
    clear H
    go_wp2_with (first | ((with_reducible refine gate_dst (N := 16) rfl ?_); refine Kd.R_lit (Kd.int .i64) _ 3 ?hg (N := 16) ?hd (xs := ([] : List Int)) (inner := []) (ok := fun _ => True) (okp := fun _ => True) ?hr ?hp (fun _ hk => hk) trivial (Below.refl _ _) (Nat.le_refl _) (by simp) ?_; (case hd => rfl); (case hg => rfl); (case hr => first | (go_simp; done) | (go_simp; rfl)); (case hp => exact (Reps.none _ _)); intro v388 w5 ho6 hb hg_ hnew_; clear hg_ hnew_; (first | rw [← Ny387.out] at ho6 | (simp only [Int.reduceToNat] at ho6; rw [← Ny387.out] at ho6)); have HO389 := Asd.mk (Kd.R_lower (Kd.R_new' ho6 (Kd.R_lt (rS HO_3))) (below_size (wZ HB))); replace HO_3 := Asd.mk (Kd.R_elder' (rS HO_3) (Kd.R_base ho6) hb); replace HB := bW HB hb; clear hb ho6))
    repeat (go_quiet (first | ((with_reducible refine gate_dst (N := 16) rfl ?_); refine Kd.R_lit (Kd.int .i64) _ 3 ?hg (N := 16) ?hd (xs := ([] : List Int)) (inner := []) (ok := fun _ => True) (okp := fun _ => True) ?hr ?hp (fun _ hk => hk) trivial (Below.refl _ _) (Nat.le_refl _) (by simp) ?_; (case hd => rfl); (case hg => rfl); (case hr => first | (go_simp; done) | (go_simp; rfl)); (case hp => exact (Reps.none _ _)); intro v388 w5 ho6 hb hg_ hnew_; clear hg_ hnew_; (first | rw [← Ny387.out] at ho6 | (simp only [Int.reduceToNat] at ho6; rw [← Ny387.out] at ho6)); have HO389 := Asd.mk (Kd.R_lower (Kd.R_new' ho6 (Kd.R_lt (rS HO_3))) (below_size (wZ HB))); replace HO_3 := Asd.mk (Kd.R_elder' (rS HO_3) (Kd.R_base ho6) hb); replace HB := bW HB hb; clear hb ho6)); try go_wp2_with (first | ((with_reducible refine gate_dst (N := 16) rfl ?_); refine Kd.R_lit (Kd.int .i64) _ 3 ?hg (N := 16) ?hd (xs := ([] : List Int)) (inner := []) (ok := fun _ => True) (okp := fun _ => True) ?hr ?hp (fun _ hk => hk) trivial (Below.refl _ _) (Nat.le_refl _) (by simp) ?_; (case hd => rfl); (case hg => rfl); (case hr => first | (go_simp; done) | (go_simp; rfl)); (case hp => exact (Reps.none _ _)); intro v388 w5 ho6 hb hg_ hnew_; clear hg_ hnew_; (first | rw [← Ny387.out] at ho6 | (simp only [Int.reduceToNat] at ho6; rw [← Ny387.out] at ho6)); have HO389 := Asd.mk (Kd.R_lower (Kd.R_new' ho6 (Kd.R_lt (rS HO_3))) (below_size (wZ HB))); replace HO_3 := Asd.mk (Kd.R_elder' (rS HO_3) (Kd.R_base ho6) hb); replace HB := bW HB hb; clear hb ho6)))
    go_loopg [5, 6] k1 (fun kq v5 v6 w' => ∃ (x5_2 : List Int) (x6_2 : Int), v6 = .int .i64 x6_2 ∧ Asd (spec_l6Tidy.l1 kq l0 x3_1 x4_1 x5_2 x6_2 = some r) ∧ Asd (kq ≤ k1) ∧ Asd (Kd.R (Kd.int .i64) 3 w' w.heap.size (fun k_ => some k_ ≠ (v5 : Value).ownBlock) u3 x3_1) ∧ Asd (Kd.R (Kd.int .i64) 3 w' w.heap.size (fun k_ => some k_ ≠ (u3 : Value).ownBlock) v5 x5_2) ∧ Asd (Below w.heap.size w w'))
    case atStart => exact ⟨(y387), (0), (by first | rfl | (simp; done) | (simp [*]; done)), H', ⟨Nat.le_refl _⟩, ⟨by (repeat apply Kd.RS); exact Kd.R_mono HO_3.out (fun _ hk => hk.2)⟩, ⟨by (repeat apply Kd.RS); exact Kd.R_mono HO389.out (fun _ hk => hk.2)⟩, ⟨wZ HB⟩⟩
    case round =>
     clear H'
     obtain ⟨x5_2, x6_2, rfl, HA, HK2, HO_3, HO_5, HB⟩ := hrel
     cases gk with
     | zero => exact absurd HA.out (by simp [spec_l6Tidy.l1])
     | succ k2 =>
      have H := HA.out
      clear HA
      simp only [spec_l6Tidy.l1] at H
      by_cases c7 : x6_2 < (l0.length : Int)
      ·rw [if_pos c7] at H
       have c7b0 : decide (x6_2 < (l0.length : Int)) = true := decide_eq_true c7
       clear c7
       by_cases c8 : 0 ≤ x6_2; rotate_left; (rw [if_neg c8] at H; exact absurd H (by simp))
       rw [if_pos c8] at H
       have c8b0 : decide (0 ≤ x6_2) = true := decide_eq_true c8
       clear c8
       by_cases c9 : 0 ≤ x4_1; rotate_left; (rw [if_neg c9] at H; exact absurd H (by simp))
       rw [if_pos c9] at H
       have c9b0 : decide (0 ≤ x4_1) = true := decide_eq_true c9
       clear c9
       by_cases c10 : x4_1 < (l0.length : Int); rotate_left; (rw [if_neg c10] at H; exact absurd H (by simp))
       rw [if_pos c10] at H
       have c10b0 : decide (x4_1 < (l0.length : Int)) = true := decide_eq_true c10
       clear c10
       have H' := Asd.mk H
       clear H
       have p393 : 0 ≤ (x6_2 : Int) := odt
       have q393 : x6_2 < (l0.length : Int) := odt
       obtain ⟨ad393, e393, hx393_0⟩ := Kd.at_int HR0.out x6_2 p393 q393
       cases e393
       replace hx393_0 := (HB.out.cell (World.block_lt_of_cell? w _ hx393_0)).trans hx393_0
       replace p393 := eq_true p393
       replace q393 := eq_true q393
       have p394 : 0 ≤ (x4_1 : Int) := odt
       have q394 : x4_1 < (l0.length : Int) := odt
       obtain ⟨ad394, e394, hx394_0⟩ := Kd.at_int HR0.out x4_1 p394 q394
       obtain rfl : ad393 = ad394 := (by injection e394)
       replace hx394_0 := (HB.out.cell (World.block_lt_of_cell? w _ hx394_0)).trans hx394_0
       replace p394 := eq_true p394
       replace q394 := eq_true q394
       go_wp2
       repeat (go_quiet (fail); try go_wp2)
       go_loopg [7, 8] k2 (fun kq v7 v8 w' => ∃ (x7_3 : Bool) (x8_3 : Int), v7 = .bool x7_3 ∧ v8 = .int .i64 x8_3 ∧ Asd (spec_l6Tidy.l2 kq l0 x3_1 x4_1 x5_2 x6_2 x7_3 x8_3 = some r) ∧ Asd (kq ≤ k2) ∧ Asd (Kd.R (Kd.int .i64) 3 w' w.heap.size (fun k_ => some k_ ≠ (u5 : Value).ownBlock) u3 x3_1) ∧ Asd (Kd.R (Kd.int .i64) 3 w' w.heap.size (fun k_ => some k_ ≠ (u3 : Value).ownBlock) u5 x5_2) ∧ Asd (Below w.heap.size w w'))
       case atStart => exact ⟨(decide ((rd l0 x6_2) ≥ (rd l0 x4_1))), (0), (by first | rfl | (simp; done) | (simp [*]; done)), (by first | rfl | (simp; done) | (simp [*]; done)), H', ⟨Nat.le_refl _⟩, ⟨by (repeat apply Kd.RS); exact HO_3.out⟩, ⟨by (repeat apply Kd.RS); exact HO_5.out⟩, ⟨wZ HB⟩⟩
       case round =>
        clear H'
        obtain ⟨x7_3, x8_3, rfl, rfl, HA, HK3, HO_3, HO_5, HB⟩ := hrel
        cases gk with
        | zero => exact absurd HA.out (by simp [spec_l6Tidy.l2])
        | succ k3 =>
         have H := HA.out
         clear HA
         simp only [spec_l6Tidy.l2] at H
         by_cases c11 : x8_3 < (x5_2.length : Int)
         ·rw [if_pos c11] at H
          have c11b0 : decide (x8_3 < (x5_2.length : Int)) = true := decide_eq_true c11
          clear c11
          by_cases c12 : x7_3 = true
          ·subst c12
           rw [if_pos rfl] at H
           have H' := Asd.mk H
           clear H
           obtain ⟨Ao13, co13, eo13⟩ := Kd.R_slice HO_5.out
           subst eo13
           go_wp2
           repeat (go_quiet (fail); try go_wp2)
           go_roundg k3
           case measure => have := HK1.out; have := HK2.out; have := HK3.out; omega
           case rel => exact ⟨(true), (wrap64 (x8_3 + 1)), (by first | rfl | (simp; done) | (simp [*]; done)), (by first | rfl | (simp; done) | (simp [*]; done)), H', ⟨by have := HK1.out; have := HK2.out; have := HK3.out; omega⟩, ⟨by (repeat apply Kd.RS); exact HO_3.out⟩, ⟨by (repeat apply Kd.RS); exact HO_5.out⟩, ⟨wZ HB⟩⟩
          ·replace c12 := Bool.eq_false_iff.mpr c12
           subst c12
           rw [if_neg (show ¬ (false = true) by decide)] at H
           by_cases c14 : 0 ≤ x8_3; rotate_left; (rw [if_neg c14] at H; exact absurd H (by simp))
           rw [if_pos c14] at H
           have c14b0 : decide (0 ≤ x8_3) = true := decide_eq_true c14
           clear c14
           by_cases c15 : 0 ≤ x6_2; rotate_left; (rw [if_neg c15] at H; exact absurd H (by simp))
           rw [if_pos c15] at H
           have c15b0 : decide (0 ≤ x6_2) = true := decide_eq_true c15
           clear c15
           by_cases c16 : x6_2 < (l0.length : Int); rotate_left; (rw [if_neg c16] at H; exact absurd H (by simp))
           rw [if_pos c16] at H
           have c16b0 : decide (x6_2 < (l0.length : Int)) = true := decide_eq_true c16
           clear c16
           have H' := Asd.mk H
           clear H
           obtain ⟨Ao17, co17, eo17⟩ := Kd.R_slice HO_5.out
           subst eo17
           have p395 : 0 ≤ (x8_3 : Int) := odt
           have q395 : x8_3 < (x5_2.length : Int) := odt
           obtain ⟨ad395, e395, hx395_0⟩ := Kd.at_int (Kd.R_reads' HO_5.out).2.2 x8_3 p395 q395
           cases e395
           replace p395 := eq_true p395
           replace q395 := eq_true q395
           have p396 : 0 ≤ (x6_2 : Int) := odt
           have q396 : x6_2 < (l0.length : Int) := odt
           obtain ⟨ad396, e396, hx396_0⟩ := Kd.at_int HR0.out x6_2 p396 q396
           obtain rfl : ad393 = ad396 := (by injection e396)
           replace hx396_0 := (HB.out.cell (World.block_lt_of_cell? w _ hx396_0)).trans hx396_0
           replace p396 := eq_true p396
           replace q396 := eq_true q396
           go_wp2
           repeat (go_quiet (fail); try go_wp2)
           go_roundg k3
           case measure => have := HK1.out; have := HK2.out; have := HK3.out; omega
           case rel => exact ⟨(((rd x5_2 x8_3) == (rd l0 x6_2))), (wrap64 (x8_3 + 1)), (by first | rfl | (simp; done) | (simp [*]; done)), (by first | rfl | (simp; done) | (simp [*]; done)), H', ⟨by have := HK1.out; have := HK2.out; have := HK3.out; omega⟩, ⟨by (repeat apply Kd.RS); exact HO_3.out⟩, ⟨by (repeat apply Kd.RS); exact HO_5.out⟩, ⟨wZ HB⟩⟩
         ·rw [if_neg c11] at H
          have c11b0 : decide (x8_3 < (x5_2.length : Int)) = false := decide_eq_false c11
          clear c11
          by_cases c18 : x7_3 = true
          ·subst c18
           rw [if_pos rfl] at H
           have H' := Asd.mk H
           clear H
           obtain ⟨Ao19, co19, eo19⟩ := Kd.R_slice HO_5.out
           subst eo19
           go_wp2
           repeat (go_quiet (fail); try go_wp2)
           go_roundg k3
           case measure => have := HK1.out; have := HK2.out; have := HK3.out; omega
           case rel => exact ⟨(x5_2), (wrap64 (x6_2 + 1)), (by first | rfl | (simp; done) | (simp [*]; done)), H', ⟨by have := HK1.out; have := HK2.out; have := HK3.out; omega⟩, ⟨by (repeat apply Kd.RS); exact HO_3.out⟩, ⟨by (repeat apply Kd.RS); exact HO_5.out⟩, ⟨wZ HB⟩⟩
          ·replace c18 := Bool.eq_false_iff.mpr c18
           subst c18
           rw [if_neg (show ¬ (false = true) by decide)] at H
           by_cases c20 : 0 ≤ x6_2; rotate_left; (rw [if_neg c20] at H; exact absurd H (by simp))
           rw [if_pos c20] at H
           have c20b0 : decide (0 ≤ x6_2) = true := decide_eq_true c20
           clear c20
           by_cases c21 : x6_2 < (l0.length : Int); rotate_left; (rw [if_neg c21] at H; exact absurd H (by simp))
           rw [if_pos c21] at H
           have c21b0 : decide (x6_2 < (l0.length : Int)) = true := decide_eq_true c21
           clear c21
           by_cases c22 : x5_2.length < 17592186044416; rotate_left; (rw [if_neg c22] at H; exact absurd H (by simp))
           rw [if_pos c22] at H
           have LMc22 := Asd.mk c22
           clear c22
           obtain ⟨y398, hy398⟩ : ∃ y_ : List Int, y_ = (x5_2 ++ [rd l0 x6_2]) := ⟨_, rfl⟩
           replace H : (spec_l6Tidy.l1 k3 l0 x3_1 x4_1 y398 (wrap64 (x6_2 + 1))) = some r := by first | (rw [hy398]; with_reducible exact H) | (have H2_ := (Option.bind_some _ _).symm.trans H; rw [hy398]; with_reducible exact H2_) | (have H2_ := (Option.bind_some _ _).symm.trans H; with_reducible exact H2_) | with_reducible exact H | (rw [hy398]; exact H) | exact H
           have Ny398 := Asd.mk hy398
           clear hy398
           have H' := Asd.mk H
           clear H
           obtain ⟨Ao23, co23, eo23⟩ := Kd.R_slice HO_5.out
           subst eo23
           have p397 : 0 ≤ (x6_2 : Int) := odt
           have q397 : x6_2 < (l0.length : Int) := odt
           obtain ⟨ad397, e397, hx397_0⟩ := Kd.at_int HR0.out x6_2 p397 q397
           obtain rfl : ad393 = ad397 := (by injection e397)
           replace hx397_0 := (HB.out.cell (World.block_lt_of_cell? w _ hx397_0)).trans hx397_0
           replace p397 := eq_true p397
           replace q397 := eq_true q397
           go_wp2_with (first | ((with_reducible refine gate_builtin (b := .append) (xs := #[.tmp 52, .tmp 57]) rfl ?_); at_builtin; refine Kd.R_append (Kd.int .i64) (w0 := w) w.heap.size rfl (.tmp 52) (.tmp 57) 55 3 (.int .i64 0) 8 rfl Try.underlying55 info3 rfl (by decide) (by omega) (.slice Ao23 x5_2.length co23) x5_2 (rd l0 x6_2) [.int .i64 (rd l0 x6_2)] (fun k_ => some k_ ≠ (u3 : Value).ownBlock) (fun _ => False) rfl rfl ?aP (fun _ hk => hk.elim) ?aF ?aO ?aB ?aS ?aL ?_; (case aP => exact rfl); (case aB => exact (wZ HB)); (case aF => exact (fun k_ hk => Kd.fresh' (Kd.R_lt (rS HO_3)) k_ hk)); (case aO => exact (rS HO_5)); (case aS => exact (below_size (wZ HB))); (case aL => have := LMc22.out; omega); intro v399 w24 ho hb hg hat; rw [← Ny398.out] at ho; replace HO_3 := Asd.mk (Kd.R_after (ok := (fun _ => True)) (by (repeat apply Kd.RS); exact Kd.R_mono HO_3.out (fun _ hk => ⟨trivial, hk⟩)) hg hat); replace HB := Asd.mk (hb); have HO400 := Asd.mk (ho); clear HO_5; clear ho hb hg hat))
           repeat (go_quiet (first | ((with_reducible refine gate_builtin (b := .append) (xs := #[.tmp 52, .tmp 57]) rfl ?_); at_builtin; refine Kd.R_append (Kd.int .i64) (w0 := w) w.heap.size rfl (.tmp 52) (.tmp 57) 55 3 (.int .i64 0) 8 rfl Try.underlying55 info3 rfl (by decide) (by omega) (.slice Ao23 x5_2.length co23) x5_2 (rd l0 x6_2) [.int .i64 (rd l0 x6_2)] (fun k_ => some k_ ≠ (u3 : Value).ownBlock) (fun _ => False) rfl rfl ?aP (fun _ hk => hk.elim) ?aF ?aO ?aB ?aS ?aL ?_; (case aP => exact rfl); (case aB => exact (wZ HB)); (case aF => exact (fun k_ hk => Kd.fresh' (Kd.R_lt (rS HO_3)) k_ hk)); (case aO => exact (rS HO_5)); (case aS => exact (below_size (wZ HB))); (case aL => have := LMc22.out; omega); intro v399 w24 ho hb hg hat; rw [← Ny398.out] at ho; replace HO_3 := Asd.mk (Kd.R_after (ok := (fun _ => True)) (by (repeat apply Kd.RS); exact Kd.R_mono HO_3.out (fun _ hk => ⟨trivial, hk⟩)) hg hat); replace HB := Asd.mk (hb); have HO400 := Asd.mk (ho); clear HO_5; clear ho hb hg hat)); try go_wp2_with (first | ((with_reducible refine gate_builtin (b := .append) (xs := #[.tmp 52, .tmp 57]) rfl ?_); at_builtin; refine Kd.R_append (Kd.int .i64) (w0 := w) w.heap.size rfl (.tmp 52) (.tmp 57) 55 3 (.int .i64 0) 8 rfl Try.underlying55 info3 rfl (by decide) (by omega) (.slice Ao23 x5_2.length co23) x5_2 (rd l0 x6_2) [.int .i64 (rd l0 x6_2)] (fun k_ => some k_ ≠ (u3 : Value).ownBlock) (fun _ => False) rfl rfl ?aP (fun _ hk => hk.elim) ?aF ?aO ?aB ?aS ?aL ?_; (case aP => exact rfl); (case aB => exact (wZ HB)); (case aF => exact (fun k_ hk => Kd.fresh' (Kd.R_lt (rS HO_3)) k_ hk)); (case aO => exact (rS HO_5)); (case aS => exact (below_size (wZ HB))); (case aL => have := LMc22.out; omega); intro v399 w24 ho hb hg hat; rw [← Ny398.out] at ho; replace HO_3 := Asd.mk (Kd.R_after (ok := (fun _ => True)) (by (repeat apply Kd.RS); exact Kd.R_mono HO_3.out (fun _ hk => ⟨trivial, hk⟩)) hg hat); replace HB := Asd.mk (hb); have HO400 := Asd.mk (ho); clear HO_5; clear ho hb hg hat)))
           go_roundg k3
           case measure => have := HK1.out; have := HK2.out; have := HK3.out; omega
           case rel => exact ⟨(y398), (wrap64 (x6_2 + 1)), (by first | rfl | (simp; done) | (simp [*]; done)), H', ⟨by have := HK1.out; have := HK2.out; have := HK3.out; omega⟩, ⟨by (repeat apply Kd.RS); exact Kd.R_mono HO_3.out (fun _ hk => hk.2)⟩, ⟨by (repeat apply Kd.RS); exact HO400.out⟩, ⟨wZ HB⟩⟩
      ·rw [if_neg c7] at H
       have c7b0 : decide (x6_2 < (l0.length : Int)) = false := decide_eq_false c7
       clear c7
       by_cases c25 : x3_1.length < 17592186044416; rotate_left; (rw [if_neg c25] at H; exact absurd H (by simp))
       rw [if_pos c25] at H
       have LMc25 := Asd.mk c25
       clear c25
       obtain ⟨y390, hy390⟩ : ∃ y_ : List Int, y_ = (x3_1 ++ [(x5_2.length : Int)]) := ⟨_, rfl⟩
       replace H : (spec_l6Tidy.l0 k2 l0 y390 (wrap64 (x4_1 + 1))) = some r := by first | (rw [hy390]; with_reducible exact H) | (have H2_ := (Option.bind_some _ _).symm.trans H; rw [hy390]; with_reducible exact H2_) | (have H2_ := (Option.bind_some _ _).symm.trans H; with_reducible exact H2_) | with_reducible exact H | (rw [hy390]; exact H) | exact H
       have Ny390 := Asd.mk hy390
       clear hy390
       have H' := Asd.mk H
       clear H
       obtain ⟨Ao26, co26, eo26⟩ := Kd.R_slice HO_5.out
       subst eo26
       go_wp2_with (first | ((with_reducible refine gate_builtin (b := .append) (xs := #[.tmp 59, .tmp 62]) rfl ?_); at_builtin; refine Kd.R_append (Kd.int .i64) (w0 := w) w.heap.size rfl (.tmp 59) (.tmp 62) 55 3 (.int .i64 0) 8 rfl Try.underlying55 info3 rfl (by decide) (by omega) u3 x3_1 (x5_2.length : Int) [.int .i64 (x5_2.length : Int)] (fun k_ => some k_ ≠ (.slice Ao26 x5_2.length co26 : Value).ownBlock) (fun _ => False) rfl rfl ?aP (fun _ hk => hk.elim) ?aF ?aO ?aB ?aS ?aL ?_; (case aP => exact rfl); (case aB => exact (wZ HB)); (case aF => exact (fun k_ hk => Kd.fresh' (Kd.R_lt (rS HO_5)) k_ hk)); (case aO => exact (rS HO_3)); (case aS => exact (below_size (wZ HB))); (case aL => have := LMc25.out; omega); intro v391 w27 ho hb hg hat; rw [← Ny390.out] at ho; replace HO_5 := Asd.mk (Kd.R_after (ok := (fun _ => True)) (by (repeat apply Kd.RS); exact Kd.R_mono HO_5.out (fun _ hk => ⟨trivial, hk⟩)) hg hat); replace HB := Asd.mk (hb); have HO392 := Asd.mk (ho); clear HO_3; clear ho hb hg hat))
       repeat (go_quiet (first | ((with_reducible refine gate_builtin (b := .append) (xs := #[.tmp 59, .tmp 62]) rfl ?_); at_builtin; refine Kd.R_append (Kd.int .i64) (w0 := w) w.heap.size rfl (.tmp 59) (.tmp 62) 55 3 (.int .i64 0) 8 rfl Try.underlying55 info3 rfl (by decide) (by omega) u3 x3_1 (x5_2.length : Int) [.int .i64 (x5_2.length : Int)] (fun k_ => some k_ ≠ (.slice Ao26 x5_2.length co26 : Value).ownBlock) (fun _ => False) rfl rfl ?aP (fun _ hk => hk.elim) ?aF ?aO ?aB ?aS ?aL ?_; (case aP => exact rfl); (case aB => exact (wZ HB)); (case aF => exact (fun k_ hk => Kd.fresh' (Kd.R_lt (rS HO_5)) k_ hk)); (case aO => exact (rS HO_3)); (case aS => exact (below_size (wZ HB))); (case aL => have := LMc25.out; omega); intro v391 w27 ho hb hg hat; rw [← Ny390.out] at ho; replace HO_5 := Asd.mk (Kd.R_after (ok := (fun _ => True)) (by (repeat apply Kd.RS); exact Kd.R_mono HO_5.out (fun _ hk => ⟨trivial, hk⟩)) hg hat); replace HB := Asd.mk (hb); have HO392 := Asd.mk (ho); clear HO_3; clear ho hb hg hat)); try go_wp2_with (first | ((with_reducible refine gate_builtin (b := .append) (xs := #[.tmp 59, .tmp 62]) rfl ?_); at_builtin; refine Kd.R_append (Kd.int .i64) (w0 := w) w.heap.size rfl (.tmp 59) (.tmp 62) 55 3 (.int .i64 0) 8 rfl Try.underlying55 info3 rfl (by decide) (by omega) u3 x3_1 (x5_2.length : Int) [.int .i64 (x5_2.length : Int)] (fun k_ => some k_ ≠ (.slice Ao26 x5_2.length co26 : Value).ownBlock) (fun _ => False) rfl rfl ?aP (fun _ hk => hk.elim) ?aF ?aO ?aB ?aS ?aL ?_; (case aP => exact rfl); (case aB => exact (wZ HB)); (case aF => exact (fun k_ hk => Kd.fresh' (Kd.R_lt (rS HO_5)) k_ hk)); (case aO => exact (rS HO_3)); (case aS => exact (below_size (wZ HB))); (case aL => have := LMc25.out; omega); intro v391 w27 ho hb hg hat; rw [← Ny390.out] at ho; replace HO_5 := Asd.mk (Kd.R_after (ok := (fun _ => True)) (by (repeat apply Kd.RS); exact Kd.R_mono HO_5.out (fun _ hk => ⟨trivial, hk⟩)) hg hat); replace HB := Asd.mk (hb); have HO392 := Asd.mk (ho); clear HO_3; clear ho hb hg hat)))
       go_roundg k2
       case measure => have := HK1.out; have := HK2.out; omega
       case rel => exact ⟨(y390), (wrap64 (x4_1 + 1)), (by first | rfl | (simp; done) | (simp [*]; done)), H', ⟨by have := HK1.out; have := HK2.out; omega⟩, ⟨by (repeat apply Kd.RS); exact Kd.R_mono HO392.out (fun _ hk => trivial)⟩, ⟨wZ HB⟩⟩
   ·rw [if_neg c4] at H
    have c4b0 : decide (x4_1 < (l0.length : Int)) = false := decide_eq_false c4
    clear c4
    obtain rfl := Option.some.inj H
    go_wp2
    repeat (go_quiet (fail); try go_wp2)
    go_ret
    exact ⟨_, by first | rfl | (simp [*, errW_none, errW_some] <;> rfl), by (repeat apply Kd.RS); exact HO_3.out, wZ HB⟩

/-! ### spec_l6Rise: function 133 -/
def spec_l6Rise.l0 : Nat → List Int → Int → List Int → Int → Option (List Int)
 | 0, _, _, _, _ => none
 | k + 1, x0, x1, x5, x6 => if x6 < (x0.length : Int) then (if 0 ≤ x6 then ((spec_l1Bit.f x1 x6).bind fun t405 => (if x5.length < 17592186044416 then (spec_l6Rise.l0 k x0 x1 (x5 ++ [wrap64 ((rd x0 x6) + (wrap64 ((wrap64 (1 - t405)) * 10)))]) (wrap64 (x6 + 1))) else (none))) else (none)) else ((spec_l6Tidy.f k x5).bind fun t409 => (some t409))
def spec_l6Rise.f (k : Nat) (l0 : List Int) (a1 : Int) : Option (List Int) := spec_l6Rise.l0 k l0 a1 (([] : List Int)) 0
theorem spec_l6Rise.mono_l : ∀ k, (∀ y0 y1 y2 y3, LeO (spec_l6Rise.l0 k y0 y1 y2 y3) (spec_l6Rise.l0 (k + 1) y0 y1 y2 y3))
 | 0 => fun _ _ _ _ r h => by simp [spec_l6Rise.l0] at h
 | k + 1 => by
  have ih0 := spec_l6Rise.mono_l k
  ·intro y0 y1 y2 y3
   unfold spec_l6Rise.l0
   repeat' first
   | (with_reducible first | exact ih0 _ _ _ _ | exact spec_l6Tidy.mono _ _ | exact LeO.refl _ | exact LeO.none _ | refine LeO.ite ?_ ?_ | refine LeO.bind ?_ (fun _ => ?_))
   | refine LeO.ite ?_ ?_
   | refine LeO.bind ?_ (fun _ => ?_)
theorem spec_l6Rise.mono : ∀ a0 a1 k, LeO (spec_l6Rise.f k a0 a1) (spec_l6Rise.f (k + 1) a0 a1) := by
 intro a0 a1 k
 have ih0 := spec_l6Rise.mono_l k
 unfold spec_l6Rise.f
 repeat' first
   | (with_reducible first | exact ih0 _ _ _ _ | exact spec_l6Tidy.mono _ _ | exact LeO.refl _ | exact LeO.none _ | refine LeO.ite ?_ ?_ | refine LeO.bind ?_ (fun _ => ?_))
   | refine LeO.ite ?_ ?_
   | refine LeO.bind ?_ (fun _ => ?_)
def spec_l6Rise.T5 : Bool × List (List Nat × List Nat) := (true, [([], []), ([], []), ([], []), ([1, 2], [1, 2]), ([3], [3]), ([], []), ([], []), ([5, 6], [5, 6]), ([7], [7]), ([8], [8]), ([4, 9], [4, 9]), ([10], [10]), ([0, 11, 7], [0, 11]), ([12, 12, 0, 1, 2, 3, 4, 5, 6, 7, 8, 9, 10, 11, 12], [0, 12])])
def spec_l6Rise.B5 : List Nat := [0, 0, 0, 6, 14, 0, 0, 96, 224, 480, 1022, 2046, 4095, 8191]
theorem spec_l6Rise.tab5 : rtab .any (opsOf Try.f133 5) = spec_l6Rise.T5 := by kernel_rfl
theorem spec_l6Rise.bits5 : waitsOk spec_l6Rise.T5.2 spec_l6Rise.B5 = true := by kernel_rfl
set_option maxHeartbeats 8000000 in
set_option maxRecDepth 100000 in
theorem spec_l6Rise.calls (k : Nat) (A0 : Option Addr) (c0 : Nat) (l0 : List Int) (a1 : Int) (r : List Int) (w : World) (hr0 : Kd.C (Kd.int .i64) w A0 l0.length l0) (hc0 : l0.length ≤ c0) (h : spec_l6Rise.f k l0 a1 = some r) :
  Calls Try.prog 133 #[.slice A0 l0.length c0, .int .i64 a1] w fun e w' => ∃ v0_ : Value, e = .returned (v0_) ∧ Kd.R (Kd.int .i64) 3 w' w.heap.size (fun _ => True) v0_ r ∧ Below w.heap.size w w' := by
 have HR0 := Asd.mk hr0
 have HC0 := Asd.mk hc0
 clear hr0 hc0
 have HB := Asd.mk (Below.refl w.heap.size w)
 have H : (spec_l6Rise.l0 k l0 a1 (([] : List Int)) 0) = some r := h
 clear h
 obtain ⟨y401, hy401⟩ : ∃ y_ : List Int, y_ = (([] : List Int)) := ⟨_, rfl⟩
 replace H : (spec_l6Rise.l0 k l0 a1 y401 0) = some r := by first | (rw [hy401]; with_reducible exact H) | (have H2_ := (Option.bind_some _ _).symm.trans H; rw [hy401]; with_reducible exact H2_) | (have H2_ := (Option.bind_some _ _).symm.trans H; with_reducible exact H2_) | with_reducible exact H | (rw [hy401]; exact H) | exact H
 have Ny401 := Asd.mk hy401
 clear hy401
 have H' := Asd.mk H
 clear H
 go_enter Try.func133, Try.ntmps133
 go_wp2_with (first | ((with_reducible refine gate_dst (N := 7) rfl ?_); refine Kd.R_lit (Kd.int .i64) _ 3 ?hg (N := 7) ?hd (xs := ([] : List Int)) (inner := []) (ok := fun _ => True) (okp := fun _ => True) ?hr ?hp (fun _ hk => hk) trivial (Below.refl _ _) (Nat.le_refl _) (by simp) ?_; (case hd => rfl); (case hg => rfl); (case hr => first | (go_simp; done) | (go_simp; rfl)); (case hp => exact (Reps.none _ _)); intro v402 w3 ho4 hb hg_ hnew_; clear hg_ hnew_; (first | rw [← Ny401.out] at ho4 | (simp only [Int.reduceToNat] at ho4; rw [← Ny401.out] at ho4)); have HO403 := Asd.mk (Kd.R_lower ho4 (below_size (wZ HB))); replace HB := bW HB hb; clear hb ho4))
 go_loopg [5, 6] k (fun kq v5 v6 w' => ∃ (x5_1 : List Int) (x6_1 : Int), v6 = .int .i64 x6_1 ∧ Asd (spec_l6Rise.l0 kq l0 a1 x5_1 x6_1 = some r) ∧ Asd (kq ≤ k) ∧ Asd (Kd.R (Kd.int .i64) 3 w' w.heap.size (fun _ => True) v5 x5_1) ∧ Asd (Below w.heap.size w w'))
 case atStart => exact ⟨(y401), (0), (by first | rfl | (simp; done) | (simp [*]; done)), H', ⟨Nat.le_refl _⟩, ⟨by (repeat apply Kd.RS); exact HO403.out⟩, ⟨wZ HB⟩⟩
 case round =>
  clear H'
  obtain ⟨x5_1, x6_1, rfl, HA, HK1, HO_5, HB⟩ := hrel
  cases gk with
  | zero => exact absurd HA.out (by simp [spec_l6Rise.l0])
  | succ k1 =>
   have H := HA.out
   clear HA
   simp only [spec_l6Rise.l0] at H
   by_cases c5 : x6_1 < (l0.length : Int)
   ·rw [if_pos c5] at H
    have c5b0 : decide (x6_1 < (l0.length : Int)) = true := decide_eq_true c5
    clear c5
    by_cases c6 : 0 ≤ x6_1; rotate_left; (rw [if_neg c6] at H; exact absurd H (by simp))
    rw [if_pos c6] at H
    have c6b0 : decide (0 ≤ x6_1) = true := decide_eq_true c6
    clear c6
    replace H := Option.bind_eq_some_iff.mp H
    obtain ⟨t405, A70, H⟩ := H
    try dsimp only at H
    have A7 := Asd.mk A70
    clear A70
    by_cases c8 : x5_1.length < 17592186044416; rotate_left; (rw [if_neg c8] at H; exact absurd H (by simp))
    rw [if_pos c8] at H
    have LMc8 := Asd.mk c8
    clear c8
    obtain ⟨y406, hy406⟩ : ∃ y_ : List Int, y_ = (x5_1 ++ [wrap64 ((rd l0 x6_1) + (wrap64 ((wrap64 (1 - t405)) * 10)))]) := ⟨_, rfl⟩
    replace H : (spec_l6Rise.l0 k1 l0 a1 y406 (wrap64 (x6_1 + 1))) = some r := by first | (rw [hy406]; with_reducible exact H) | (have H2_ := (Option.bind_some _ _).symm.trans H; rw [hy406]; with_reducible exact H2_) | (have H2_ := (Option.bind_some _ _).symm.trans H; with_reducible exact H2_) | with_reducible exact H | (rw [hy406]; exact H) | exact H
    have Ny406 := Asd.mk hy406
    clear hy406
    have H' := Asd.mk H
    clear H
    try go_wp2
    replace HO_5 := Asd.mk (Kd.R_drew HO_5.out)
    replace HB := Asd.mk (bwD HB.out)
    have p404 : 0 ≤ (x6_1 : Int) := odt
    have q404 : x6_1 < (l0.length : Int) := odt
    obtain ⟨ad404, e404, hx404_0⟩ := Kd.at_int HR0.out x6_1 p404 q404
    have hw404_0 := hx404_0
    cases e404
    replace hx404_0 := (HB.out.cell (World.block_lt_of_cell? w _ hx404_0)).trans hx404_0
    replace p404 := eq_true p404
    replace q404 := eq_true q404
    refine start_ (n := 14) (S := fun w' => w'.cell? (ad404.add (x6_1).toNat) = some (.int .i64 (rd l0 x6_1))) (ds := []) #[false, false, false, false, false, false, false, false, false, false, false, false, false, false] (by kernel_rfl) rfl rfl (((HB.out.cell (World.block_lt_of_cell? w _ hw404_0)).trans hw404_0)) (fun hHeld => ?_); refine with_tabW spec_l6Rise.tab5 spec_l6Rise.bits5 (fun HT_ HW_ => ?_)
    generalize wr.drew = w9 at HO_5 HB hx404_0 hHeld ⊢
    refine pure_ (i := 0) (N := some 14) (v := ?_) (a' := ?_) #[true, false, false, false, false, false, false, false, false, false, false, false, false, false] rfl rfl (any_of HT_.out (by kernel_rfl)) (fun _ _ _ h => h) (Or.inl ⟨by rfl, ?_⟩) ?_ ?_
    rotate_left
    ·intro w'
     go_simp
     with_reducible rfl
    rotate_left
    ·simp only [Act.put, qA, qB, qC, i64_w, i32_w]
     rfl
    refine pure_ (i := 1) (N := some 15) (v := ?_) (a' := ?_) #[true, true, false, false, false, false, false, false, false, false, false, false, false, false] rfl rfl (any_of HT_.out (by kernel_rfl)) (fun _ _ _ h => h) (Or.inl ⟨by rfl, ?_⟩) ?_ ?_
    rotate_left
    ·intro w'
     go_simp
     with_reducible rfl
    rotate_left
    ·simp only [Act.put, qA, qB, qC, i64_w, i32_w]
     rfl
    refine pure_ (i := 2) (N := some 16) (v := ?_) (a' := ?_) #[true, true, true, false, false, false, false, false, false, false, false, false, false, false] rfl rfl (any_of HT_.out (by kernel_rfl)) (fun _ _ _ h => h) (Or.inl ⟨by rfl, ?_⟩) ?_ ?_
    rotate_left
    ·intro w'
     go_simp
     with_reducible rfl
    rotate_left
    ·simp only [Act.put, qA, qB, qC, i64_w, i32_w]
     rfl
    refine pure_ (i := 3) (N := some 17) (v := ?_) (a' := ?_) #[true, true, true, true, false, false, false, false, false, false, false, false, false, false] rfl rfl (any_of HT_.out (by kernel_rfl)) (fun _ _ _ h => h) (Or.inl ⟨by rfl, ?_⟩) ?_ ?_
    rotate_left
    ·intro w'
     go_simp
     with_reducible rfl
    rotate_left
    ·simp only [Act.put, qA, qB, qC, i64_w, i32_w]
     rfl
    refine pure_ (i := 5) (N := some 19) (v := ?_) (a' := ?_) #[true, true, true, true, false, true, false, false, false, false, false, false, false, false] rfl rfl (any_of HT_.out (by kernel_rfl)) (fun _ _ _ h => h) (Or.inl ⟨by rfl, ?_⟩) ?_ ?_
    rotate_left
    ·intro w'
     go_simp
     with_reducible rfl
    rotate_left
    ·simp only [Act.put, qA, qB, qC, i64_w, i32_w]
     rfl
    refine pure_ (i := 6) (N := some 20) (v := ?_) (a' := ?_) #[true, true, true, true, false, true, true, false, false, false, false, false, false, false] rfl rfl (any_of HT_.out (by kernel_rfl)) (fun _ _ _ h => h) (Or.inl ⟨by rfl, ?_⟩) ?_ ?_
    rotate_left
    ·intro w'
     go_simp
     with_reducible rfl
    rotate_left
    ·simp only [Act.put, qA, qB, qC, i64_w, i32_w]
     rfl
    refine take_ (i := 4) (N := some 18) (v := ?_) (a' := ?_) #[true, true, true, true, true, true, true, false, false, false, false, false, false, false] rfl rfl (take_ofW HT_.out HW_.out (by kernel_rfl)) (fun _ _ _ h => h) (Or.inl ⟨by rfl, ?_⟩) hHeld ?_ ?_
    rotate_left
    ·intro w' s0
     go_simp
     with_reducible rfl
    rotate_left
    ·simp only [Act.put, qA, qB, qC, i64_w, i32_w]
     rfl
    refine one_ (i := 7) (N := some 21) #[true, true, true, true, true, true, true, true, false, false, false, false, false, false] rfl rfl (one_of HT_.out (by kernel_rfl)) (by decide) (fun K hK => ?_)
    refine goes_ Try.func146 (by kernel_rfl) rfl #[.int .i64 a1, .int .i64 x6_1] (by rfl) rfl rfl (by (try simp only [List.map_toArray, List.map_cons, List.map_nil]); first | done | rfl | (simp only [List.length_drop, List.length_take]; rfl)) ?_
    with_reducible refine (spec_l1Bit.calls a1 x6_1 t405 _ A7.out).mono ?_
    rintro e w' ⟨rfl, ⟨nd, rfl⟩⟩
    refine ⟨_, rfl, ?_⟩
    refine hK.out _ _ (((HB.out.cell (World.block_lt_of_cell? w _ hw404_0)).trans hw404_0)) (fun hHeld => ?_)
    clear hK K
    refine norm_ (a' := ?_) ?_ ?_
    rotate_left
    ·show Act.put _ (some 21) _ = _
     simp only [Act.put, qA, qB, qC, i64_w, i32_w]
     rfl
    refine pure_ (i := 8) (N := some 22) (v := ?_) (a' := ?_) #[true, true, true, true, true, true, true, true, true, false, false, false, false, false] rfl rfl (any_of HT_.out (by kernel_rfl)) (fun _ _ _ h => h) (Or.inl ⟨by rfl, ?_⟩) ?_ ?_
    rotate_left
    ·intro w'
     go_simp
     with_reducible rfl
    rotate_left
    ·simp only [Act.put, qA, qB, qC, i64_w, i32_w]
     rfl
    refine pure_ (i := 9) (N := some 23) (v := ?_) (a' := ?_) #[true, true, true, true, true, true, true, true, true, true, false, false, false, false] rfl rfl (any_of HT_.out (by kernel_rfl)) (fun _ _ _ h => h) (Or.inl ⟨by rfl, ?_⟩) ?_ ?_
    rotate_left
    ·intro w'
     go_simp
     with_reducible rfl
    rotate_left
    ·simp only [Act.put, qA, qB, qC, i64_w, i32_w]
     rfl
    refine pure_ (i := 10) (N := some 24) (v := ?_) (a' := ?_) #[true, true, true, true, true, true, true, true, true, true, true, false, false, false] rfl rfl (any_of HT_.out (by kernel_rfl)) (fun _ _ _ h => h) (Or.inl ⟨by rfl, ?_⟩) ?_ ?_
    rotate_left
    ·intro w'
     go_simp
     with_reducible rfl
    rotate_left
    ·simp only [Act.put, qA, qB, qC, i64_w, i32_w]
     rfl
    refine one_ (i := 11) (N := some 25) #[true, true, true, true, true, true, true, true, true, true, true, true, false, false] rfl rfl (one_of HT_.out (by kernel_rfl)) (by decide) (fun K hK => ?_)
    refine value_ (w1 := ?_) (v := ?_) (by rfl) rfl ?_ ?_
    rotate_left 2
    ·go_simp
     constructor
     ·rfl
     ·rfl
    refine hK.out _ _ ((World.cell?_alloc_lt _ _ _ (World.block_lt_of_cell? _ _ (((HB.out.cell (World.block_lt_of_cell? w _ hw404_0)).trans hw404_0)))).trans (((HB.out.cell (World.block_lt_of_cell? w _ hw404_0)).trans hw404_0))) (fun hHeld => ?_)
    clear hK K
    refine norm_ (a' := ?_) ?_ ?_
    rotate_left
    ·show Act.put _ (some 25) _ = _
     simp only [Act.put, qA, qB, qC, i64_w, i32_w]
     rfl
    refine one_ (i := 12) (N := some 26) #[true, true, true, true, true, true, true, true, true, true, true, true, true, false] rfl rfl (one_of HT_.out (by kernel_rfl)) (by decide) (fun K hK => ?_)
    refine Kd.R_append_step (Kd.int .i64) (w0 := w) w.heap.size (by rfl) (.tmp 14) (.tmp 25) 55 3 (.int .i64 0) 8 rfl Try.underlying55 info3 rfl (by decide) (by omega) u5 x5_1 (wrap64 ((rd l0 x6_1) + (wrap64 ((wrap64 (1 - t405)) * 10)))) [.int .i64 (wrap64 ((rd l0 x6_1) + (wrap64 ((wrap64 (1 - t405)) * 10))))] (fun _ => True) (fun _ => False) rfl rfl ?aP (fun _ hk => hk.elim) ?aF ?aO ?aB ?aS ?aL ?_
    (case aP => exact rfl)
    (case aB => exact (wZ HB))
    (case aF => exact (fun _ _ => trivial))
    (case aO => exact (rS HO_5))
    (case aS => exact (below_size (wZ HB)))
    (case aL => have := LMc8.out; omega)
    intro v407 w10 ho hb hg hat
    rw [← Ny406.out] at ho
    replace HB := Asd.mk (hb)
    have HO408 := Asd.mk (ho)
    clear HO_5 ho hb hg hat
    refine hK.out _ _ (((HB.out.cell (World.block_lt_of_cell? w _ hw404_0)).trans hw404_0)) (fun hHeld => ?_)
    clear hK K
    refine norm_ (a' := ?_) ?_ ?_
    rotate_left
    ·show Act.put _ (some 26) _ = _
     simp only [Act.put, qA, qB, qC, i64_w, i32_w]
     rfl
    refine pure_ (i := 13) (N := some 5) (v := ?_) (a' := ?_) #[true, true, true, true, true, true, true, true, true, true, true, true, true, true] rfl rfl (any_of HT_.out (by kernel_rfl)) (fun _ _ _ h => h) (Or.inl ⟨by rfl, ?_⟩) ?_ ?_
    rotate_left
    ·intro w'
     go_simp
     with_reducible rfl
    rotate_left
    ·simp only [Act.put, qA, qB, qC, i64_w, i32_w]
     rfl
    refine done_ (done_of HT_.out (by kernel_rfl)) ?_
    try go_wp2
    go_roundg k1
    case measure => have := HK1.out; omega
    case rel => exact ⟨(y406), (wrap64 (x6_1 + 1)), (by first | rfl | (simp; done) | (simp [*]; done)), H', ⟨by have := HK1.out; omega⟩, ⟨by (repeat apply Kd.RS); exact HO408.out⟩, ⟨wZ HB⟩⟩
   ·rw [if_neg c5] at H
    have c5b0 : decide (x6_1 < (l0.length : Int)) = false := decide_eq_false c5
    clear c5
    replace H := Option.bind_eq_some_iff.mp H
    obtain ⟨t409, A110, H⟩ := H
    try dsimp only at H
    have A11 := Asd.mk A110
    clear A110
    obtain rfl := Option.some.inj H
    obtain ⟨Ao12, co12, eo12⟩ := Kd.R_slice HO_5.out
    subst eo12
    go_wp2_with (first | ((with_reducible refine gate_callee (f := 147) rfl ?_); refine gsM (some 28) rfl rfl Try.func147 (by kernel_rfl) rfl #[.slice Ao12 x5_1.length co12] rfl ?_; (with_reducible refine (spec_l6Tidy.calls k1 _ _ x5_1 t409 _ ?side1 ?side2 A11.out).mono ?_); (case side1 => exact cZ (Kd.R_reads' HO_5.out).2.2); (case side2 => exact (Kd.R_reads' HO_5.out).2.1); rintro e w13 ⟨v410, rfl, ho0, hb⟩; refine ⟨_, rfl, ?_⟩; have HO411 := Asd.mk (Kd.R_lower (Kd.R_new' ho0 (Kd.R_lt (rS HO_5))) (below_size (wZ HB))); replace HO_5 := Asd.mk (Kd.R_elder' (rS HO_5) (Kd.R_base ho0) hb); replace HB := bW HB hb; (try clear hb); (try clear hb2); (try clear hk); (try clear hi); (try clear ho0)))
    go_ret
    exact ⟨_, by first | rfl | (simp [*, errW_none, errW_some] <;> rfl), by (repeat apply Kd.RS); exact Kd.R_mono HO411.out (fun _ hk => trivial), wZ HB⟩

/-! ### spec_l2Least: function 134 -/
mutual
def spec_l2Least.l0 : Nat → List Int → Int → Int → Int → Option (Int)
 | 0, _, _, _, _ => none
 | k + 1, x0, x1, x5, x6 => if x6 < (x0.length : Int) then ((spec_l1Bit.f x1 x6).bind fun t412 => (if t412 = 1 then (if 0 ≤ x6 then (spec_l2Least.l0 k x0 x1 (mn x5 (rd x0 x6)) (wrap64 (x6 + 1))) else (none)) else (spec_l2Least.l0 k x0 x1 x5 (wrap64 (x6 + 1))))) else (spec_l2Least.l1 k x0 x1 x5 0 0)
def spec_l2Least.l1 : Nat → List Int → Int → Int → Int → Int → Option (Int)
 | 0, _, _, _, _, _ => none
 | k + 1, x0, x1, x5, x7, x8 => if x8 < (x0.length : Int) then ((spec_l1Bit.f x1 x8).bind fun t414 => (if t414 = 1 then (if 0 ≤ x8 then (if (rd x0 x8) = x5 then (spec_l2Least.l1 k x0 x1 x5 (wrap64 (x7 + (shl .i64 1 x8))) (wrap64 (x8 + 1))) else (spec_l2Least.l1 k x0 x1 x5 x7 (wrap64 (x8 + 1)))) else (none)) else (spec_l2Least.l1 k x0 x1 x5 x7 (wrap64 (x8 + 1))))) else (some x7)
end
def spec_l2Least.f (k : Nat) (l0 : List Int) (a1 : Int) : Option (Int) := spec_l2Least.l0 k l0 a1 10 0
theorem spec_l2Least.mono_l : ∀ k, (∀ y0 y1 y2 y3, LeO (spec_l2Least.l0 k y0 y1 y2 y3) (spec_l2Least.l0 (k + 1) y0 y1 y2 y3)) ∧ (∀ y0 y1 y2 y3 y4, LeO (spec_l2Least.l1 k y0 y1 y2 y3 y4) (spec_l2Least.l1 (k + 1) y0 y1 y2 y3 y4))
 | 0 => ⟨fun _ _ _ _ r h => by simp [spec_l2Least.l0] at h, fun _ _ _ _ _ r h => by simp [spec_l2Least.l1] at h⟩
 | k + 1 => by
  obtain ⟨ih0, ih1⟩ := spec_l2Least.mono_l k
  refine ⟨?_, ?_⟩
  ·intro y0 y1 y2 y3
   unfold spec_l2Least.l0
   repeat' first
   | (with_reducible first | exact ih0 _ _ _ _ | exact ih1 _ _ _ _ _ | exact LeO.refl _ | exact LeO.none _ | refine LeO.ite ?_ ?_ | refine LeO.bind ?_ (fun _ => ?_))
   | refine LeO.ite ?_ ?_
   | refine LeO.bind ?_ (fun _ => ?_)
  ·intro y0 y1 y2 y3 y4
   unfold spec_l2Least.l1
   repeat' first
   | (with_reducible first | exact ih0 _ _ _ _ | exact ih1 _ _ _ _ _ | exact LeO.refl _ | exact LeO.none _ | refine LeO.ite ?_ ?_ | refine LeO.bind ?_ (fun _ => ?_))
   | refine LeO.ite ?_ ?_
   | refine LeO.bind ?_ (fun _ => ?_)
theorem spec_l2Least.mono : ∀ a0 a1 k, LeO (spec_l2Least.f k a0 a1) (spec_l2Least.f (k + 1) a0 a1) := by
 intro a0 a1 k
 obtain ⟨ih0, ih1⟩ := spec_l2Least.mono_l k
 unfold spec_l2Least.f
 repeat' first
   | (with_reducible first | exact ih0 _ _ _ _ | exact ih1 _ _ _ _ _ | exact LeO.refl _ | exact LeO.none _ | refine LeO.ite ?_ ?_ | refine LeO.bind ?_ (fun _ => ?_))
   | refine LeO.ite ?_ ?_
   | refine LeO.bind ?_ (fun _ => ?_)
set_option maxHeartbeats 8000000 in
set_option maxRecDepth 100000 in
theorem spec_l2Least.calls (k : Nat) (A0 : Option Addr) (c0 : Nat) (l0 : List Int) (a1 : Int) (r : Int) (w : World) (hr0 : Kd.C (Kd.int .i64) w A0 l0.length l0) (hc0 : l0.length ≤ c0) (h : spec_l2Least.f k l0 a1 = some r) :
  Calls Try.prog 134 #[.slice A0 l0.length c0, .int .i64 a1] w fun e w' => e = .returned (.int .i64 r) ∧ Below w.heap.size w w' := by
 have HR0 := Asd.mk hr0
 have HC0 := Asd.mk hc0
 clear hr0 hc0
 have HB := Asd.mk (Below.refl w.heap.size w)
 have H : (spec_l2Least.l0 k l0 a1 10 0) = some r := h
 clear h
 have H' := Asd.mk H
 clear H
 go_enter Try.func134, Try.ntmps134
 go_wp2
 go_loopg [5, 6] k (fun kq v5 v6 w' => ∃ (x5_1 : Int) (x6_1 : Int), v5 = .int .i64 x5_1 ∧ v6 = .int .i64 x6_1 ∧ Asd (spec_l2Least.l0 kq l0 a1 x5_1 x6_1 = some r) ∧ Asd (kq ≤ k) ∧ Asd (Below w.heap.size w w'))
 case atStart => exact ⟨(10), (0), (by first | rfl | (simp; done) | (simp [*]; done)), (by first | rfl | (simp; done) | (simp [*]; done)), H', ⟨Nat.le_refl _⟩, ⟨wZ HB⟩⟩
 case round =>
  clear H'
  obtain ⟨x5_1, x6_1, rfl, rfl, HA, HK1, HB⟩ := hrel
  cases gk with
  | zero => exact absurd HA.out (by simp [spec_l2Least.l0])
  | succ k1 =>
   have H := HA.out
   clear HA
   simp only [spec_l2Least.l0] at H
   by_cases c3 : x6_1 < (l0.length : Int)
   ·rw [if_pos c3] at H
    have c3b0 : decide (x6_1 < (l0.length : Int)) = true := decide_eq_true c3
    clear c3
    replace H := Option.bind_eq_some_iff.mp H
    obtain ⟨t412, A40, H⟩ := H
    try dsimp only at H
    have A4 := Asd.mk A40
    clear A40
    by_cases c5 : t412 = 1
    ·rw [if_pos c5] at H
     have c5b0 : (t412 == 1) = true := beq_iff_eq.mpr c5
     have c5b1 : (t412 != 1) = false := bne_eq_false_iff_eq.mpr c5
     clear c5
     by_cases c6 : 0 ≤ x6_1; rotate_left; (rw [if_neg c6] at H; exact absurd H (by simp))
     rw [if_pos c6] at H
     have c6b0 : decide (0 ≤ x6_1) = true := decide_eq_true c6
     clear c6
     obtain ⟨ji7, hji7⟩ : ∃ j_ : Int, (mn x5_1 (rd l0 x6_1)) = j_ := ⟨_, rfl⟩
     replace H : (spec_l2Least.l0 k1 l0 a1 ji7 (wrap64 (x6_1 + 1))) = some r := by first | (rw [hji7] at H; exact H) | (simp only [hji7] at H ⊢; exact H)
     (try rw [hji7] at A4)
     have hji7_ : (if (rd l0 x6_1) < x5_1 then (rd l0 x6_1) else x5_1) = ji7 := hji7
     have H' := Asd.mk H
     clear H
     go_wp2_with (first | ((with_reducible refine gate_callee (f := 146) rfl ?_); refine gsM (some 17) rfl rfl Try.func146 (by kernel_rfl) rfl #[.int .i64 a1, .int .i64 x6_1] rfl ?_; (with_reducible refine (spec_l1Bit.calls a1 x6_1 t412 _ A4.out).mono ?_); rintro e w' ⟨rfl, ⟨nd, rfl⟩⟩; refine ⟨_, rfl, ?_⟩; have p413 : 0 ≤ (x6_1 : Int) := odt; have q413 : x6_1 < (l0.length : Int) := odt; obtain ⟨ad413, e413, hx413_0⟩ := Kd.at_int HR0.out x6_1 p413 q413; cases e413; replace hx413_0 := (HB.out.cell (World.block_lt_of_cell? w _ hx413_0)).trans hx413_0; replace p413 := eq_true p413; replace q413 := eq_true q413))
     go_roundg k1
     case measure => have := HK1.out; omega
     case rel => exact ⟨(ji7), (wrap64 (x6_1 + 1)), (by first | rfl | (simp; done) | (simp only [← hji7] <;> (first | rfl | simp)) | (simp [*]; done)), (by first | rfl | (simp; done) | (simp [*]; done)), H', ⟨by have := HK1.out; omega⟩, ⟨wZ HB⟩⟩
    ·rw [if_neg c5] at H
     have c5b0 : (t412 == 1) = false := beq_eq_false_iff_ne.mpr c5
     have c5b1 : (t412 != 1) = true := bne_iff_ne.mpr c5
     have H' := Asd.mk H
     clear H
     go_wp2_with (first | ((with_reducible refine gate_callee (f := 146) rfl ?_); refine gsM (some 17) rfl rfl Try.func146 (by kernel_rfl) rfl #[.int .i64 a1, .int .i64 x6_1] rfl ?_; (with_reducible refine (spec_l1Bit.calls a1 x6_1 t412 _ A4.out).mono ?_); rintro e w' ⟨rfl, ⟨nd, rfl⟩⟩; refine ⟨_, rfl, ?_⟩))
     go_roundg k1
     case measure => have := HK1.out; omega
     case rel => exact ⟨(x5_1), (wrap64 (x6_1 + 1)), (by first | rfl | (simp; done) | (simp [*]; done)), (by first | rfl | (simp; done) | (simp [*]; done)), H', ⟨by have := HK1.out; omega⟩, ⟨wZ HB⟩⟩
   ·rw [if_neg c3] at H
    have c3b0 : decide (x6_1 < (l0.length : Int)) = false := decide_eq_false c3
    clear c3
    have H' := Asd.mk H
    clear H
    go_wp2
    go_loopg [7, 8] k1 (fun kq v7 v8 w' => ∃ (x7_2 : Int) (x8_2 : Int), v7 = .int .i64 x7_2 ∧ v8 = .int .i64 x8_2 ∧ Asd (spec_l2Least.l1 kq l0 a1 x5_1 x7_2 x8_2 = some r) ∧ Asd (kq ≤ k1) ∧ Asd (Below w.heap.size w w'))
    case atStart => exact ⟨(0), (0), (by first | rfl | (simp; done) | (simp [*]; done)), (by first | rfl | (simp; done) | (simp [*]; done)), H', ⟨Nat.le_refl _⟩, ⟨wZ HB⟩⟩
    case round =>
     clear H'
     obtain ⟨x7_2, x8_2, rfl, rfl, HA, HK2, HB⟩ := hrel
     cases gk with
     | zero => exact absurd HA.out (by simp [spec_l2Least.l1])
     | succ k2 =>
      have H := HA.out
      clear HA
      simp only [spec_l2Least.l1] at H
      by_cases c8 : x8_2 < (l0.length : Int)
      ·rw [if_pos c8] at H
       have c8b0 : decide (x8_2 < (l0.length : Int)) = true := decide_eq_true c8
       clear c8
       replace H := Option.bind_eq_some_iff.mp H
       obtain ⟨t414, A90, H⟩ := H
       try dsimp only at H
       have A9 := Asd.mk A90
       clear A90
       by_cases c10 : t414 = 1
       ·rw [if_pos c10] at H
        have c10b0 : (t414 == 1) = true := beq_iff_eq.mpr c10
        have c10b1 : (t414 != 1) = false := bne_eq_false_iff_eq.mpr c10
        clear c10
        by_cases c11 : 0 ≤ x8_2; rotate_left; (rw [if_neg c11] at H; exact absurd H (by simp))
        rw [if_pos c11] at H
        have c11b0 : decide (0 ≤ x8_2) = true := decide_eq_true c11
        clear c11
        by_cases c12 : (rd l0 x8_2) = x5_1
        ·rw [if_pos c12] at H
         have c12b0 : ((rd l0 x8_2) == x5_1) = true := beq_iff_eq.mpr c12
         have c12b1 : ((rd l0 x8_2) != x5_1) = false := bne_eq_false_iff_eq.mpr c12
         clear c12
         have c13b0 := eq_true (odt : 0 ≤ x8_2)
         obtain ⟨ji14, hji14⟩ : ∃ j_ : Int, (shl .i64 1 x8_2) = j_ := ⟨_, rfl⟩
         replace H : (spec_l2Least.l1 k2 l0 a1 x5_1 (wrap64 (x7_2 + (ji14))) (wrap64 (x8_2 + 1))) = some r := by first | (rw [hji14] at H; exact H) | (simp only [hji14] at H ⊢; exact H)
         (try rw [hji14] at A9)
         have hji14_ : (IntKind.i64.wrap (1 * 2 ^ min x8_2.toNat 64)) = ji14 := hji14
         have hji14z : x8_2 ≤ 64 → (IntKind.i64.wrap (1 * 2 ^ x8_2.toNat)) = ji14 := shl_small hji14
         have hji14u : (IntKind.i64.wrap (2 ^ min x8_2.toNat 64)) = ji14 := by have h_ := hji14_; rw [Int.one_mul] at h_; exact h_
         have hji14v : x8_2 ≤ 64 → (IntKind.i64.wrap (2 ^ x8_2.toNat)) = ji14 := fun hle_ => by have h_ := hji14z hle_; rw [Int.one_mul] at h_; exact h_
         have hji14y : (wrap64 (1 * 2 ^ min x8_2.toNat 64)) = ji14 := (i64_w _).symm.trans hji14_
         have hji14x : x8_2 ≤ 64 → (wrap64 (1 * 2 ^ x8_2.toNat)) = ji14 := fun h_ => (i64_w _).symm.trans (hji14z h_)
         have H' := Asd.mk H
         clear H
         go_wp2_with (first | ((with_reducible refine gate_callee (f := 146) rfl ?_); refine gsM (some 33) rfl rfl Try.func146 (by kernel_rfl) rfl #[.int .i64 a1, .int .i64 x8_2] rfl ?_; (with_reducible refine (spec_l1Bit.calls a1 x8_2 t414 _ A9.out).mono ?_); rintro e w' ⟨rfl, ⟨nd, rfl⟩⟩; refine ⟨_, rfl, ?_⟩; have p415 : 0 ≤ (x8_2 : Int) := odt; have q415 : x8_2 < (l0.length : Int) := odt; obtain ⟨ad415, e415, hx415_0⟩ := Kd.at_int HR0.out x8_2 p415 q415; cases e415; replace hx415_0 := (HB.out.cell (World.block_lt_of_cell? w _ hx415_0)).trans hx415_0; replace p415 := eq_true p415; replace q415 := eq_true q415))
         go_roundg k2
         case measure => have := HK1.out; have := HK2.out; omega
         case rel => exact ⟨(wrap64 (x7_2 + (ji14))), (wrap64 (x8_2 + 1)), (by first | rfl | (simp; done) | (simp only [← hji14] <;> (first | rfl | simp)) | (simp [*]; done)), (by first | rfl | (simp; done) | (simp [*]; done)), H', ⟨by have := HK1.out; have := HK2.out; omega⟩, ⟨wZ HB⟩⟩
        ·rw [if_neg c12] at H
         have c12b0 : ((rd l0 x8_2) == x5_1) = false := beq_eq_false_iff_ne.mpr c12
         have c12b1 : ((rd l0 x8_2) != x5_1) = true := bne_iff_ne.mpr c12
         have H' := Asd.mk H
         clear H
         go_wp2_with (first | ((with_reducible refine gate_callee (f := 146) rfl ?_); refine gsM (some 33) rfl rfl Try.func146 (by kernel_rfl) rfl #[.int .i64 a1, .int .i64 x8_2] rfl ?_; (with_reducible refine (spec_l1Bit.calls a1 x8_2 t414 _ A9.out).mono ?_); rintro e w' ⟨rfl, ⟨nd, rfl⟩⟩; refine ⟨_, rfl, ?_⟩; have p415 : 0 ≤ (x8_2 : Int) := odt; have q415 : x8_2 < (l0.length : Int) := odt; obtain ⟨ad415, e415, hx415_0⟩ := Kd.at_int HR0.out x8_2 p415 q415; cases e415; replace hx415_0 := (HB.out.cell (World.block_lt_of_cell? w _ hx415_0)).trans hx415_0; replace p415 := eq_true p415; replace q415 := eq_true q415))
         go_roundg k2
         case measure => have := HK1.out; have := HK2.out; omega
         case rel => exact ⟨(x7_2), (wrap64 (x8_2 + 1)), (by first | rfl | (simp; done) | (simp [*]; done)), (by first | rfl | (simp; done) | (simp [*]; done)), H', ⟨by have := HK1.out; have := HK2.out; omega⟩, ⟨wZ HB⟩⟩
       ·rw [if_neg c10] at H
        have c10b0 : (t414 == 1) = false := beq_eq_false_iff_ne.mpr c10
        have c10b1 : (t414 != 1) = true := bne_iff_ne.mpr c10
        have H' := Asd.mk H
        clear H
        go_wp2_with (first | ((with_reducible refine gate_callee (f := 146) rfl ?_); refine gsM (some 33) rfl rfl Try.func146 (by kernel_rfl) rfl #[.int .i64 a1, .int .i64 x8_2] rfl ?_; (with_reducible refine (spec_l1Bit.calls a1 x8_2 t414 _ A9.out).mono ?_); rintro e w' ⟨rfl, ⟨nd, rfl⟩⟩; refine ⟨_, rfl, ?_⟩))
        go_roundg k2
        case measure => have := HK1.out; have := HK2.out; omega
        case rel => exact ⟨(x7_2), (wrap64 (x8_2 + 1)), (by first | rfl | (simp; done) | (simp [*]; done)), (by first | rfl | (simp; done) | (simp [*]; done)), H', ⟨by have := HK1.out; have := HK2.out; omega⟩, ⟨wZ HB⟩⟩
      ·rw [if_neg c8] at H
       have c8b0 : decide (x8_2 < (l0.length : Int)) = false := decide_eq_false c8
       clear c8
       obtain rfl := Option.some.inj H
       go_wp2
       go_ret
       exact ⟨by first | rfl | (simp [*, errW_none, errW_some] <;> rfl), wZ HB⟩

/-! ### spec_ChangedBy: function 108 -/
def spec_ChangedBy.j0 : Nat → List Int → Int → Int → Bool → Option (List Int × Bool)
 | 0, _, _, _, _ => none
 | k + 1, x1, x2, x3, x28 => if x28 = true then (some ((([] : List Int)), false)) else (if x2 = 0 then ((spec_l2Least.f k x1 x3).bind fun t422 => ((spec_l6Rise.f k x1 t422).bind fun t423 => (some (t423, true)))) else ((spec_l6Rise.f k x1 x3).bind fun t426 => (some (t426, true))))
def spec_ChangedBy.f (k : Nat) (a0 : Int) (l1 : List Int) (a2 : Int) (a3 : Int) : Option (List Int × Bool) := (spec_RankOk.f k a0 l1).bind fun t416 => (if t416 = true then ((spec_SetOk.f a0 a3).bind fun t417 => (if t417 = true then (if a3 = 0 then (spec_ChangedBy.j0 k l1 a2 a3 true) else ((spec_l1In.f a2 0 1).bind fun t418 => (spec_ChangedBy.j0 k l1 a2 a3 (!t418)))) else (spec_ChangedBy.j0 k l1 a2 a3 true))) else (spec_ChangedBy.j0 k l1 a2 a3 true))
theorem spec_ChangedBy.mono_l : ∀ k, (∀ y0 y1 y2 y3, LeO (spec_ChangedBy.j0 k y0 y1 y2 y3) (spec_ChangedBy.j0 (k + 1) y0 y1 y2 y3))
 | 0 => fun _ _ _ _ r h => by simp [spec_ChangedBy.j0] at h
 | k + 1 => by
  have ih0 := spec_ChangedBy.mono_l k
  ·intro y0 y1 y2 y3
   unfold spec_ChangedBy.j0
   repeat' first
   | (with_reducible first | exact ih0 _ _ _ _ | exact spec_RankOk.mono _ _ _ | exact spec_l2Least.mono _ _ _ | exact spec_l6Rise.mono _ _ _ | exact LeO.refl _ | exact LeO.none _ | refine LeO.ite ?_ ?_ | refine LeO.bind ?_ (fun _ => ?_))
   | refine LeO.ite ?_ ?_
   | refine LeO.bind ?_ (fun _ => ?_)
theorem spec_ChangedBy.mono : ∀ a0 a1 a2 a3 k, LeO (spec_ChangedBy.f k a0 a1 a2 a3) (spec_ChangedBy.f (k + 1) a0 a1 a2 a3) := by
 intro a0 a1 a2 a3 k
 have ih0 := spec_ChangedBy.mono_l k
 unfold spec_ChangedBy.f
 repeat' first
   | (with_reducible first | exact ih0 _ _ _ _ | exact spec_RankOk.mono _ _ _ | exact spec_l2Least.mono _ _ _ | exact spec_l6Rise.mono _ _ _ | exact LeO.refl _ | exact LeO.none _ | refine LeO.ite ?_ ?_ | refine LeO.bind ?_ (fun _ => ?_))
   | refine LeO.ite ?_ ?_
   | refine LeO.bind ?_ (fun _ => ?_)
set_option maxHeartbeats 8000000 in
set_option maxRecDepth 100000 in
theorem spec_ChangedBy.calls (k : Nat) (a0 : Int) (A1 : Option Addr) (c1 : Nat) (l1 : List Int) (a2 : Int) (a3 : Int) (r1 : List Int) (r2 : Bool) (w : World) (hr1 : Kd.C (Kd.int .i64) w A1 l1.length l1) (hc1 : l1.length ≤ c1) (h : spec_ChangedBy.f k a0 l1 a2 a3 = some (r1, r2)) :
  Calls Try.prog 108 #[.int .i64 a0, .slice A1 l1.length c1, .int .i64 a2, .int .i64 a3] w fun e w' => ∃ v0_ : Value, e = .returned (.tuple #[v0_, .bool r2]) ∧ Kd.R (Kd.int .i64) 3 w' w.heap.size (fun _ => True) v0_ r1 ∧ Below w.heap.size w w' := by
 have HR1 := Asd.mk hr1
 have HC1 := Asd.mk hc1
 clear hr1 hc1
 have HB := Asd.mk (Below.refl w.heap.size w)
 have H : ((spec_RankOk.f k a0 l1).bind fun t416 => (if t416 = true then ((spec_SetOk.f a0 a3).bind fun t417 => (if t417 = true then (if a3 = 0 then (spec_ChangedBy.j0 k l1 a2 a3 true) else ((spec_l1In.f a2 0 1).bind fun t418 => (spec_ChangedBy.j0 k l1 a2 a3 (!t418)))) else (spec_ChangedBy.j0 k l1 a2 a3 true))) else (spec_ChangedBy.j0 k l1 a2 a3 true))) = some (r1, r2) := h
 clear h
 have HC5 := Asd.mk H
 clear H
 go_enter Try.func108, Try.ntmps108
 go_upto_region 1 with (fail)
 go_cut [28] (fun v28 wc => ∃ (kq : Nat) (x28_4 : Bool), v28 = .bool x28_4 ∧ Asd (spec_ChangedBy.j0 kq l1 a2 a3 x28_4 = some (r1, r2)) ∧ Asd (kq ≤ k) ∧ Asd (Below w.heap.size w wc))
 case first =>
  have H := HC5.out
  clear HC5
  replace H := Option.bind_eq_some_iff.mp H
  obtain ⟨t416, A60, H⟩ := H
  try dsimp only at H
  have A6 := Asd.mk A60
  clear A60
  by_cases c7 : t416 = true
  ·subst c7
   rw [if_pos rfl] at H
   replace H := Option.bind_eq_some_iff.mp H
   obtain ⟨t417, A80, H⟩ := H
   try dsimp only at H
   have A8 := Asd.mk A80
   clear A80
   by_cases c9 : t417 = true
   ·subst c9
    rw [if_pos rfl] at H
    by_cases c10 : a3 = 0
    ·rw [if_pos c10] at H
     have c10b0 : (a3 == 0) = true := beq_iff_eq.mpr c10
     have c10b1 : (a3 != 0) = false := bne_eq_false_iff_eq.mpr c10
     clear c10
     (first | rw [c10b0] | (simp only [i64_w, i32_w]; rw [c10b0]) | skip)
     have H' := Asd.mk H
     clear H
     go_wp2_with (first | ((with_reducible refine gate_callee (f := 59) rfl ?_); refine gsM (some 12) rfl rfl Try.func59 (by kernel_rfl) rfl #[.int .i64 a0, .slice A1 l1.length c1] rfl ?_; (with_reducible refine (spec_RankOk.calls k a0 _ _ l1 true _ ?side1 ?side2 A6.out).mono ?_); (case side1 => exact cZ (Kd.C_below HR1.out HB.out)); (case side2 => exact HC1.out); rintro e w11 ⟨rfl, hb⟩; refine ⟨_, rfl, ?_⟩; replace HB := bW HB hb; (try clear hb); (try clear hb2); (try clear hk); (try clear hi)) | (go_at_call 132; (with_reducible refine (spec_SetOk.calls a0 a3 true _ A8.out).mono ?_); rintro e w' ⟨rfl, ⟨nd, rfl⟩⟩))
     go_meet
     case rel => exact ⟨_, (true), (by first | rfl | (simp; done) | (simp [*]; done)), H', ⟨by first | omega | exact Nat.le_refl _⟩, ⟨wZ HB⟩⟩
    ·rw [if_neg c10] at H
     have c10b0 : (a3 == 0) = false := beq_eq_false_iff_ne.mpr c10
     have c10b1 : (a3 != 0) = true := bne_iff_ne.mpr c10
     (first | rw [c10b0] | (simp only [i64_w, i32_w]; rw [c10b0]) | skip)
     replace H := Option.bind_eq_some_iff.mp H
     obtain ⟨t418, A120, H⟩ := H
     try dsimp only at H
     have A12 := Asd.mk A120
     clear A120
     have H' := Asd.mk H
     clear H
     go_wp2_with (first | ((with_reducible refine gate_callee (f := 59) rfl ?_); refine gsM (some 12) rfl rfl Try.func59 (by kernel_rfl) rfl #[.int .i64 a0, .slice A1 l1.length c1] rfl ?_; (with_reducible refine (spec_RankOk.calls k a0 _ _ l1 true _ ?side1 ?side2 A6.out).mono ?_); (case side1 => exact cZ (Kd.C_below HR1.out HB.out)); (case side2 => exact HC1.out); rintro e w13 ⟨rfl, hb⟩; refine ⟨_, rfl, ?_⟩; replace HB := bW HB hb; (try clear hb); (try clear hb2); (try clear hk); (try clear hi)) | (go_at_call 132; (with_reducible refine (spec_SetOk.calls a0 a3 true _ A8.out).mono ?_); rintro e w' ⟨rfl, ⟨nd, rfl⟩⟩) | (go_at_call 72; (with_reducible refine (spec_l1In.calls a2 0 1 t418 _ A12.out).mono ?_); rintro e w' ⟨rfl, ⟨nd, rfl⟩⟩))
     go_meet
     case rel => exact ⟨_, (!t418), (by first | rfl | (simp; done) | (simp [*]; done)), H', ⟨by first | omega | exact Nat.le_refl _⟩, ⟨wZ HB⟩⟩
   ·replace c9 := Bool.eq_false_iff.mpr c9
    subst c9
    rw [if_neg (show ¬ (false = true) by decide)] at H
    have H' := Asd.mk H
    clear H
    go_wp2_with (first | ((with_reducible refine gate_callee (f := 59) rfl ?_); refine gsM (some 12) rfl rfl Try.func59 (by kernel_rfl) rfl #[.int .i64 a0, .slice A1 l1.length c1] rfl ?_; (with_reducible refine (spec_RankOk.calls k a0 _ _ l1 true _ ?side1 ?side2 A6.out).mono ?_); (case side1 => exact cZ (Kd.C_below HR1.out HB.out)); (case side2 => exact HC1.out); rintro e w14 ⟨rfl, hb⟩; refine ⟨_, rfl, ?_⟩; replace HB := bW HB hb; (try clear hb); (try clear hb2); (try clear hk); (try clear hi)) | (go_at_call 132; (with_reducible refine (spec_SetOk.calls a0 a3 false _ A8.out).mono ?_); rintro e w' ⟨rfl, ⟨nd, rfl⟩⟩))
    go_meet
    case rel => exact ⟨_, (true), (by first | rfl | (simp; done) | (simp [*]; done)), H', ⟨by first | omega | exact Nat.le_refl _⟩, ⟨wZ HB⟩⟩
  ·replace c7 := Bool.eq_false_iff.mpr c7
   subst c7
   rw [if_neg (show ¬ (false = true) by decide)] at H
   have H' := Asd.mk H
   clear H
   go_wp2_with (first | ((with_reducible refine gate_callee (f := 59) rfl ?_); refine gsM (some 12) rfl rfl Try.func59 (by kernel_rfl) rfl #[.int .i64 a0, .slice A1 l1.length c1] rfl ?_; (with_reducible refine (spec_RankOk.calls k a0 _ _ l1 false _ ?side1 ?side2 A6.out).mono ?_); (case side1 => exact cZ (Kd.C_below HR1.out HB.out)); (case side2 => exact HC1.out); rintro e w15 ⟨rfl, hb⟩; refine ⟨_, rfl, ?_⟩; replace HB := bW HB hb; (try clear hb); (try clear hb2); (try clear hk); (try clear hi)))
   go_meet
   case rel => exact ⟨_, (true), (by first | rfl | (simp; done) | (simp [*]; done)), H', ⟨by first | omega | exact Nat.le_refl _⟩, ⟨wZ HB⟩⟩
 case rest =>
  clear HC5
  obtain ⟨kq, x28_4, rfl, HA, HJ4, HB⟩ := hcut
  cases kq with
  | zero => exact absurd HA.out (by simp [spec_ChangedBy.j0])
  | succ kj4 =>
   have H := HA.out
   clear HA
   simp only [spec_ChangedBy.j0] at H
   by_cases c16 : x28_4 = true
   ·subst c16
    rw [if_pos rfl] at H
    obtain ⟨y419, hy419⟩ : ∃ y_ : List Int, y_ = (([] : List Int)) := ⟨_, rfl⟩
    replace H : (some (y419, false)) = some (r1, r2) := by first | (rw [hy419]; with_reducible exact H) | (have H2_ := (Option.bind_some _ _).symm.trans H; rw [hy419]; with_reducible exact H2_) | (have H2_ := (Option.bind_some _ _).symm.trans H; with_reducible exact H2_) | with_reducible exact H | (rw [hy419]; exact H) | exact H
    have Ny419 := Asd.mk hy419
    clear hy419
    simp only [Option.some.injEq, Prod.mk.injEq] at H
    obtain ⟨rfl, rfl⟩ := H
    go_wp2_with (first | ((with_reducible refine gate_dst (N := 29) rfl ?_); refine Kd.R_lit (Kd.int .i64) _ 3 ?hg (N := 29) ?hd (xs := ([] : List Int)) (inner := []) (ok := fun _ => True) (okp := fun _ => True) ?hr ?hp (fun _ hk => hk) trivial (Below.refl _ _) (Nat.le_refl _) (by simp) ?_; (case hd => rfl); (case hg => rfl); (case hr => first | (go_simp; done) | (go_simp; rfl)); (case hp => exact (Reps.none _ _)); intro v420 w17 ho18 hb hg_ hnew_; clear hg_ hnew_; (first | rw [← Ny419.out] at ho18 | (simp only [Int.reduceToNat] at ho18; rw [← Ny419.out] at ho18)); have HO421 := Asd.mk (Kd.R_lower ho18 (below_size (wZ HB))); replace HB := bW HB hb; clear hb ho18))
    go_ret2
    exact ⟨_, by first | rfl | (simp [*, errW_none, errW_some] <;> rfl), by (repeat apply Kd.RS); exact HO421.out, wZ HB⟩
   ·replace c16 := Bool.eq_false_iff.mpr c16
    subst c16
    rw [if_neg (show ¬ (false = true) by decide)] at H
    by_cases c19 : a2 = 0
    ·rw [if_pos c19] at H
     have c19b0 : (a2 == 0) = true := beq_iff_eq.mpr c19
     have c19b1 : (a2 != 0) = false := bne_eq_false_iff_eq.mpr c19
     clear c19
     replace H := Option.bind_eq_some_iff.mp H
     obtain ⟨t422, A200, H⟩ := H
     try dsimp only at H
     have A20 := Asd.mk A200
     clear A200
     replace H := Option.bind_eq_some_iff.mp H
     obtain ⟨t423, A210, H⟩ := H
     try dsimp only at H
     have A21 := Asd.mk A210
     clear A210
     simp only [Option.some.injEq, Prod.mk.injEq] at H
     obtain ⟨rfl, rfl⟩ := H
     go_wp2_with (first | ((with_reducible refine gate_callee (f := 134) rfl ?_); refine gsM (some 35) rfl rfl Try.func134 (by kernel_rfl) rfl #[.slice A1 l1.length c1, .int .i64 a3] rfl ?_; (with_reducible refine (spec_l2Least.calls kj4 _ _ l1 a3 t422 _ ?side1 ?side2 A20.out).mono ?_); (case side1 => exact cZ (Kd.C_below HR1.out HB.out)); (case side2 => exact HC1.out); rintro e w22 ⟨rfl, hb⟩; refine ⟨_, rfl, ?_⟩; replace HB := bW HB hb; (try clear hb); (try clear hb2); (try clear hk); (try clear hi)) | ((with_reducible refine gate_callee (f := 133) rfl ?_); refine gsM (some 36) rfl rfl Try.func133 (by kernel_rfl) rfl #[.slice A1 l1.length c1, .int .i64 t422] rfl ?_; (with_reducible refine (spec_l6Rise.calls kj4 _ _ l1 t422 t423 _ ?side1 ?side2 A21.out).mono ?_); (case side1 => exact cZ (Kd.C_below HR1.out HB.out)); (case side2 => exact HC1.out); rintro e w23 ⟨v424, rfl, ho0, hb⟩; refine ⟨_, rfl, ?_⟩; have HO425 := Asd.mk (Kd.R_lower ho0 (below_size (wZ HB))); replace HB := bW HB hb; (try clear hb); (try clear hb2); (try clear hk); (try clear hi); (try clear ho0)))
     go_ret2
     exact ⟨_, by first | rfl | (simp [*, errW_none, errW_some] <;> rfl), by (repeat apply Kd.RS); exact HO425.out, wZ HB⟩
    ·rw [if_neg c19] at H
     have c19b0 : (a2 == 0) = false := beq_eq_false_iff_ne.mpr c19
     have c19b1 : (a2 != 0) = true := bne_iff_ne.mpr c19
     replace H := Option.bind_eq_some_iff.mp H
     obtain ⟨t426, A240, H⟩ := H
     try dsimp only at H
     have A24 := Asd.mk A240
     clear A240
     simp only [Option.some.injEq, Prod.mk.injEq] at H
     obtain ⟨rfl, rfl⟩ := H
     go_wp2_with (first | ((with_reducible refine gate_callee (f := 133) rfl ?_); refine gsM (some 39) rfl rfl Try.func133 (by kernel_rfl) rfl #[.slice A1 l1.length c1, .int .i64 a3] rfl ?_; (with_reducible refine (spec_l6Rise.calls kj4 _ _ l1 a3 t426 _ ?side1 ?side2 A24.out).mono ?_); (case side1 => exact cZ (Kd.C_below HR1.out HB.out)); (case side2 => exact HC1.out); rintro e w25 ⟨v427, rfl, ho0, hb⟩; refine ⟨_, rfl, ?_⟩; have HO428 := Asd.mk (Kd.R_lower ho0 (below_size (wZ HB))); replace HB := bW HB hb; (try clear hb); (try clear hb2); (try clear hk); (try clear hi); (try clear ho0)))
     go_ret2
     exact ⟨_, by first | rfl | (simp [*, errW_none, errW_some] <;> rfl), by (repeat apply Kd.RS); exact HO428.out, wZ HB⟩

end Go.Proofs.Ytihgpkohglcijaa.P
