-- Written by a program of this session (wip/hook.py), which runs the kit's printer; Lean checks it.
import Derived.Test.YtihgpkohglcijaaPx0
import Derived.Test.YtihgpkohglcijaaPx3
import Derived.Test.YtihgpkohglcijaaPx4
import Derived.Test.YtihgpkohglcijaaPx6
namespace Go.Proofs.Ytihgpkohglcijaa.P
open Go.RowKit Go.Proofs.YtihgpkohglcijaaW.PrintWords Go.Proofs.YtihgpkohglcijaaW.PrintLast Go.Proofs.YtihgpkohglcijaaW.PrintMore
attribute [local go_sem] max2_int min2_int max_two min_two max_three min_three max_four min_four   -- for this text's walks alone
set_option linter.unusedVariables false
set_option linter.unusedSimpArgs false

/-! ### spec_l6Tidy: function 147 -/
mutual
def spec_l6Tidy.l0 : Nat → List Int → List Int → Int → Option (List Int)
 | 0, _, _, _ => none
 | k + 1, x0, x3, x4 => if x4 < (x0.length : Int) then (spec_l6Tidy.l1 k x0 x3 x4 (([] : List Int)) 0) else (some x3)
def spec_l6Tidy.l1 : Nat → List Int → List Int → Int → List Int → Int → Option (List Int)
 | 0, _, _, _, _, _ => none
 | k + 1, x0, x3, x4, x5, x6 => if x6 < (x0.length : Int) then (if 0 ≤ x6 then (if 0 ≤ x4 then (if x4 < (x0.length : Int) then (spec_l6Tidy.l2 k x0 x3 x4 x5 x6 (decide ((rd x0 x6) ≥ (rd x0 x4))) 0) else (none)) else (none)) else (none)) else (if x3.length < 17592186044416 then (spec_l6Tidy.l0 k x0 (x3 ++ [(x5.length : Int)]) (wrap64 (x4 + 1))) else (none))
def spec_l6Tidy.l2 : Nat → List Int → List Int → Int → List Int → Int → Bool → Int → Option (List Int)
 | 0, _, _, _, _, _, _, _ => none
 | k + 1, x0, x3, x4, x5, x6, x7, x8 => if x8 < (x5.length : Int) then (if x7 = true then (spec_l6Tidy.l2 k x0 x3 x4 x5 x6 true (wrap64 (x8 + 1))) else (if 0 ≤ x8 then (if 0 ≤ x6 then (if x6 < (x0.length : Int) then (spec_l6Tidy.l2 k x0 x3 x4 x5 x6 ((rd x5 x8) == (rd x0 x6)) (wrap64 (x8 + 1))) else (none)) else (none)) else (none))) else (if x7 = true then (spec_l6Tidy.l1 k x0 x3 x4 x5 (wrap64 (x6 + 1))) else (if 0 ≤ x6 then (if x6 < (x0.length : Int) then (if x5.length < 17592186044416 then (spec_l6Tidy.l1 k x0 x3 x4 (x5 ++ [rd x0 x6]) (wrap64 (x6 + 1))) else (none)) else (none)) else (none)))
end
def spec_l6Tidy.f (k : Nat) (l0 : List Int) : Option (List Int) := spec_l6Tidy.l0 k l0 (([] : List Int)) 0
theorem spec_l6Tidy.mono_l : ∀ k, (∀ y0 y1 y2, LeO (spec_l6Tidy.l0 k y0 y1 y2) (spec_l6Tidy.l0 (k + 1) y0 y1 y2)) ∧ (∀ y0 y1 y2 y3 y4, LeO (spec_l6Tidy.l1 k y0 y1 y2 y3 y4) (spec_l6Tidy.l1 (k + 1) y0 y1 y2 y3 y4)) ∧ (∀ y0 y1 y2 y3 y4 y5 y6, LeO (spec_l6Tidy.l2 k y0 y1 y2 y3 y4 y5 y6) (spec_l6Tidy.l2 (k + 1) y0 y1 y2 y3 y4 y5 y6))
 | 0 => ⟨fun _ _ _ r h => by simp [spec_l6Tidy.l0] at h, fun _ _ _ _ _ r h => by simp [spec_l6Tidy.l1] at h, fun _ _ _ _ _ _ _ r h => by simp [spec_l6Tidy.l2] at h⟩
 | k + 1 => by
  obtain ⟨ih0, ih1, ih2⟩ := spec_l6Tidy.mono_l k
  refine ⟨?_, ?_, ?_⟩
  ·intro y0 y1 y2
   unfold spec_l6Tidy.l0
   repeat' first
   | (with_reducible first | exact ih0 _ _ _ | exact ih1 _ _ _ _ _ | exact ih2 _ _ _ _ _ _ _ | exact LeO.refl _ | exact LeO.none _ | refine LeO.ite ?_ ?_ | refine LeO.bind ?_ (fun _ => ?_))
   | refine LeO.ite ?_ ?_
   | refine LeO.bind ?_ (fun _ => ?_)
  ·intro y0 y1 y2 y3 y4
   unfold spec_l6Tidy.l1
   repeat' first
   | (with_reducible first | exact ih0 _ _ _ | exact ih1 _ _ _ _ _ | exact ih2 _ _ _ _ _ _ _ | exact LeO.refl _ | exact LeO.none _ | refine LeO.ite ?_ ?_ | refine LeO.bind ?_ (fun _ => ?_))
   | refine LeO.ite ?_ ?_
   | refine LeO.bind ?_ (fun _ => ?_)
  ·intro y0 y1 y2 y3 y4 y5 y6
   unfold spec_l6Tidy.l2
   repeat' first
   | (with_reducible first | exact ih0 _ _ _ | exact ih1 _ _ _ _ _ | exact ih2 _ _ _ _ _ _ _ | exact LeO.refl _ | exact LeO.none _ | refine LeO.ite ?_ ?_ | refine LeO.bind ?_ (fun _ => ?_))
   | refine LeO.ite ?_ ?_
   | refine LeO.bind ?_ (fun _ => ?_)
theorem spec_l6Tidy.mono : ∀ a0 k, LeO (spec_l6Tidy.f k a0) (spec_l6Tidy.f (k + 1) a0) := by
 intro a0 k
 obtain ⟨ih0, ih1, ih2⟩ := spec_l6Tidy.mono_l k
 unfold spec_l6Tidy.f
 repeat' first
   | (with_reducible first | exact ih0 _ _ _ | exact ih1 _ _ _ _ _ | exact ih2 _ _ _ _ _ _ _ | exact LeO.refl _ | exact LeO.none _ | refine LeO.ite ?_ ?_ | refine LeO.bind ?_ (fun _ => ?_))
   | refine LeO.ite ?_ ?_
   | refine LeO.bind ?_ (fun _ => ?_)
set_option maxHeartbeats 8000000 in
set_option maxRecDepth 100000 in
theorem spec_l6Tidy.calls (k : Nat) (A0 : Option Addr) (c0 : Nat) (l0 : List Int) (r : List Int) (w : World) (hr0 : Kd.C (Kd.int .i64) w A0 l0.length l0) (hc0 : l0.length ≤ c0) (h : spec_l6Tidy.f k l0 = some r) :
  Calls Try.prog 147 #[.slice A0 l0.length c0] w fun e w' => ∃ v0_ : Value, e = .returned (v0_) ∧ Kd.R (Kd.int .i64) 3 w' w.heap.size (fun _ => True) v0_ r ∧ Below w.heap.size w w' := by
 have HR0 := Asd.mk hr0
 have HC0 := Asd.mk hc0
 clear hr0 hc0
 have HB := Asd.mk (Below.refl w.heap.size w)
 have H : (spec_l6Tidy.l0 k l0 (([] : List Int)) 0) = some r := h
 clear h
 obtain ⟨y213, hy213⟩ : ∃ y_ : List Int, y_ = (([] : List Int)) := ⟨_, rfl⟩
 replace H : (spec_l6Tidy.l0 k l0 y213 0) = some r := by first | (rw [hy213]; with_reducible exact H) | (have H2_ := (Option.bind_some _ _).symm.trans H; rw [hy213]; with_reducible exact H2_) | (have H2_ := (Option.bind_some _ _).symm.trans H; with_reducible exact H2_) | with_reducible exact H | (rw [hy213]; exact H) | exact H
 have Ny213 := Asd.mk hy213
 clear hy213
 have H' := Asd.mk H
 clear H
 go_enter Try.func147, Try.ntmps147
 go_wp2_with (first | ((with_reducible refine gate_dst (N := 9) rfl ?_); refine Kd.R_lit (Kd.int .i64) _ 3 ?hg (N := 9) ?hd (xs := ([] : List Int)) (inner := []) (ok := fun _ => True) (okp := fun _ => True) ?hr ?hp (fun _ hk => hk) trivial (Below.refl _ _) (Nat.le_refl _) (by simp) ?_; (case hd => rfl); (case hg => rfl); (case hr => first | (go_simp; done) | (go_simp; rfl)); (case hp => exact (Reps.none _ _)); intro v214 w2 ho3 hb hg_ hnew_; clear hg_ hnew_; (first | rw [← Ny213.out] at ho3 | (simp only [Int.reduceToNat] at ho3; rw [← Ny213.out] at ho3)); have HO215 := Asd.mk (Kd.R_lower ho3 (below_size (wZ HB))); replace HB := bW HB hb; clear hb ho3))
 repeat (go_quiet (first | ((with_reducible refine gate_dst (N := 9) rfl ?_); refine Kd.R_lit (Kd.int .i64) _ 3 ?hg (N := 9) ?hd (xs := ([] : List Int)) (inner := []) (ok := fun _ => True) (okp := fun _ => True) ?hr ?hp (fun _ hk => hk) trivial (Below.refl _ _) (Nat.le_refl _) (by simp) ?_; (case hd => rfl); (case hg => rfl); (case hr => first | (go_simp; done) | (go_simp; rfl)); (case hp => exact (Reps.none _ _)); intro v214 w2 ho3 hb hg_ hnew_; clear hg_ hnew_; (first | rw [← Ny213.out] at ho3 | (simp only [Int.reduceToNat] at ho3; rw [← Ny213.out] at ho3)); have HO215 := Asd.mk (Kd.R_lower ho3 (below_size (wZ HB))); replace HB := bW HB hb; clear hb ho3)); try go_wp2_with (first | ((with_reducible refine gate_dst (N := 9) rfl ?_); refine Kd.R_lit (Kd.int .i64) _ 3 ?hg (N := 9) ?hd (xs := ([] : List Int)) (inner := []) (ok := fun _ => True) (okp := fun _ => True) ?hr ?hp (fun _ hk => hk) trivial (Below.refl _ _) (Nat.le_refl _) (by simp) ?_; (case hd => rfl); (case hg => rfl); (case hr => first | (go_simp; done) | (go_simp; rfl)); (case hp => exact (Reps.none _ _)); intro v214 w2 ho3 hb hg_ hnew_; clear hg_ hnew_; (first | rw [← Ny213.out] at ho3 | (simp only [Int.reduceToNat] at ho3; rw [← Ny213.out] at ho3)); have HO215 := Asd.mk (Kd.R_lower ho3 (below_size (wZ HB))); replace HB := bW HB hb; clear hb ho3)))
 go_loopg [3, 4] k (fun kq v3 v4 w' => ∃ (x3_1 : List Int) (x4_1 : Int), v4 = .int .i64 x4_1 ∧ Asd (spec_l6Tidy.l0 kq l0 x3_1 x4_1 = some r) ∧ Asd (kq ≤ k) ∧ Asd (Kd.R (Kd.int .i64) 3 w' w.heap.size (fun _ => True) v3 x3_1) ∧ Asd (Below w.heap.size w w'))
 case atStart => exact ⟨(y213), (0), (by first | rfl | (simp; done) | (simp [*]; done)), H', ⟨Nat.le_refl _⟩, ⟨by (repeat apply Kd.RS); exact HO215.out⟩, ⟨wZ HB⟩⟩
 case round =>
  clear H'
  obtain ⟨x3_1, x4_1, rfl, HA, HK1, HO_3, HB⟩ := hrel
  cases gk with
  | zero => exact absurd HA.out (by simp [spec_l6Tidy.l0])
  | succ k1 =>
   have H := HA.out
   clear HA
   simp only [spec_l6Tidy.l0] at H
   by_cases c4 : x4_1 < (l0.length : Int)
   ·rw [if_pos c4] at H
    have c4b0 : decide (x4_1 < (l0.length : Int)) = true := decide_eq_true c4
    clear c4
    obtain ⟨y216, hy216⟩ : ∃ y_ : List Int, y_ = (([] : List Int)) := ⟨_, rfl⟩
    replace H : (spec_l6Tidy.l1 k1 l0 x3_1 x4_1 y216 0) = some r := by first | (rw [hy216]; with_reducible exact H) | (have H2_ := (Option.bind_some _ _).symm.trans H; rw [hy216]; with_reducible exact H2_) | (have H2_ := (Option.bind_some _ _).symm.trans H; with_reducible exact H2_) | with_reducible exact H | (rw [hy216]; exact H) | exact H
    have Ny216 := Asd.mk hy216
    clear hy216
    have H' := Asd.mk H
    clear H
    go_wp2_with (first | ((with_reducible refine gate_dst (N := 16) rfl ?_); refine Kd.R_lit (Kd.int .i64) _ 3 ?hg (N := 16) ?hd (xs := ([] : List Int)) (inner := []) (ok := fun _ => True) (okp := fun _ => True) ?hr ?hp (fun _ hk => hk) trivial (Below.refl _ _) (Nat.le_refl _) (by simp) ?_; (case hd => rfl); (case hg => rfl); (case hr => first | (go_simp; done) | (go_simp; rfl)); (case hp => exact (Reps.none _ _)); intro v217 w5 ho6 hb hg_ hnew_; clear hg_ hnew_; (first | rw [← Ny216.out] at ho6 | (simp only [Int.reduceToNat] at ho6; rw [← Ny216.out] at ho6)); have HO218 := Asd.mk (Kd.R_lower (Kd.R_new' ho6 (Kd.R_lt (rS HO_3))) (below_size (wZ HB))); replace HO_3 := Asd.mk (Kd.R_elder' (rS HO_3) (Kd.R_base ho6) hb); replace HB := bW HB hb; clear hb ho6))
    repeat (go_quiet (first | ((with_reducible refine gate_dst (N := 16) rfl ?_); refine Kd.R_lit (Kd.int .i64) _ 3 ?hg (N := 16) ?hd (xs := ([] : List Int)) (inner := []) (ok := fun _ => True) (okp := fun _ => True) ?hr ?hp (fun _ hk => hk) trivial (Below.refl _ _) (Nat.le_refl _) (by simp) ?_; (case hd => rfl); (case hg => rfl); (case hr => first | (go_simp; done) | (go_simp; rfl)); (case hp => exact (Reps.none _ _)); intro v217 w5 ho6 hb hg_ hnew_; clear hg_ hnew_; (first | rw [← Ny216.out] at ho6 | (simp only [Int.reduceToNat] at ho6; rw [← Ny216.out] at ho6)); have HO218 := Asd.mk (Kd.R_lower (Kd.R_new' ho6 (Kd.R_lt (rS HO_3))) (below_size (wZ HB))); replace HO_3 := Asd.mk (Kd.R_elder' (rS HO_3) (Kd.R_base ho6) hb); replace HB := bW HB hb; clear hb ho6)); try go_wp2_with (first | ((with_reducible refine gate_dst (N := 16) rfl ?_); refine Kd.R_lit (Kd.int .i64) _ 3 ?hg (N := 16) ?hd (xs := ([] : List Int)) (inner := []) (ok := fun _ => True) (okp := fun _ => True) ?hr ?hp (fun _ hk => hk) trivial (Below.refl _ _) (Nat.le_refl _) (by simp) ?_; (case hd => rfl); (case hg => rfl); (case hr => first | (go_simp; done) | (go_simp; rfl)); (case hp => exact (Reps.none _ _)); intro v217 w5 ho6 hb hg_ hnew_; clear hg_ hnew_; (first | rw [← Ny216.out] at ho6 | (simp only [Int.reduceToNat] at ho6; rw [← Ny216.out] at ho6)); have HO218 := Asd.mk (Kd.R_lower (Kd.R_new' ho6 (Kd.R_lt (rS HO_3))) (below_size (wZ HB))); replace HO_3 := Asd.mk (Kd.R_elder' (rS HO_3) (Kd.R_base ho6) hb); replace HB := bW HB hb; clear hb ho6)))
    go_loopg [5, 6] k1 (fun kq v5 v6 w' => ∃ (x5_2 : List Int) (x6_2 : Int), v6 = .int .i64 x6_2 ∧ Asd (spec_l6Tidy.l1 kq l0 x3_1 x4_1 x5_2 x6_2 = some r) ∧ Asd (kq ≤ k1) ∧ Asd (Kd.R (Kd.int .i64) 3 w' w.heap.size (fun k_ => some k_ ≠ (v5 : Value).ownBlock) u3 x3_1) ∧ Asd (Kd.R (Kd.int .i64) 3 w' w.heap.size (fun k_ => some k_ ≠ (u3 : Value).ownBlock) v5 x5_2) ∧ Asd (Below w.heap.size w w'))
    case atStart => exact ⟨(y216), (0), (by first | rfl | (simp; done) | (simp [*]; done)), H', ⟨Nat.le_refl _⟩, ⟨by (repeat apply Kd.RS); exact Kd.R_mono HO_3.out (fun _ hk => hk.2)⟩, ⟨by (repeat apply Kd.RS); exact Kd.R_mono HO218.out (fun _ hk => hk.2)⟩, ⟨wZ HB⟩⟩
    case round =>
     clear H'
     obtain ⟨x5_2, x6_2, rfl, HA, HK2, HO_3, HO_5, HB⟩ := hrel
     cases gk with
     | zero => exact absurd HA.out (by simp [spec_l6Tidy.l1])
     | succ k2 =>
      have H := HA.out
      clear HA
      simp only [spec_l6Tidy.l1] at H
      by_cases c7 : x6_2 < (l0.length : Int)
      ·rw [if_pos c7] at H
       have c7b0 : decide (x6_2 < (l0.length : Int)) = true := decide_eq_true c7
       clear c7
       by_cases c8 : 0 ≤ x6_2; rotate_left; (rw [if_neg c8] at H; exact absurd H (by simp))
       rw [if_pos c8] at H
       have c8b0 : decide (0 ≤ x6_2) = true := decide_eq_true c8
       clear c8
       by_cases c9 : 0 ≤ x4_1; rotate_left; (rw [if_neg c9] at H; exact absurd H (by simp))
       rw [if_pos c9] at H
       have c9b0 : decide (0 ≤ x4_1) = true := decide_eq_true c9
       clear c9
       by_cases c10 : x4_1 < (l0.length : Int); rotate_left; (rw [if_neg c10] at H; exact absurd H (by simp))
       rw [if_pos c10] at H
       have c10b0 : decide (x4_1 < (l0.length : Int)) = true := decide_eq_true c10
       clear c10
       have H' := Asd.mk H
       clear H
       have p222 : 0 ≤ (x6_2 : Int) := odt
       have q222 : x6_2 < (l0.length : Int) := odt
       obtain ⟨ad222, e222, hx222_0⟩ := Kd.at_int HR0.out x6_2 p222 q222
       cases e222
       replace hx222_0 := (HB.out.cell (World.block_lt_of_cell? w _ hx222_0)).trans hx222_0
       replace p222 := eq_true p222
       replace q222 := eq_true q222
       have p223 : 0 ≤ (x4_1 : Int) := odt
       have q223 : x4_1 < (l0.length : Int) := odt
       obtain ⟨ad223, e223, hx223_0⟩ := Kd.at_int HR0.out x4_1 p223 q223
       obtain rfl : ad222 = ad223 := (by injection e223)
       replace hx223_0 := (HB.out.cell (World.block_lt_of_cell? w _ hx223_0)).trans hx223_0
       replace p223 := eq_true p223
       replace q223 := eq_true q223
       go_wp2
       repeat (go_quiet (fail); try go_wp2)
       go_loopg [7, 8] k2 (fun kq v7 v8 w' => ∃ (x7_3 : Bool) (x8_3 : Int), v7 = .bool x7_3 ∧ v8 = .int .i64 x8_3 ∧ Asd (spec_l6Tidy.l2 kq l0 x3_1 x4_1 x5_2 x6_2 x7_3 x8_3 = some r) ∧ Asd (kq ≤ k2) ∧ Asd (Kd.R (Kd.int .i64) 3 w' w.heap.size (fun k_ => some k_ ≠ (u5 : Value).ownBlock) u3 x3_1) ∧ Asd (Kd.R (Kd.int .i64) 3 w' w.heap.size (fun k_ => some k_ ≠ (u3 : Value).ownBlock) u5 x5_2) ∧ Asd (Below w.heap.size w w'))
       case atStart => exact ⟨(decide ((rd l0 x6_2) ≥ (rd l0 x4_1))), (0), (by first | rfl | (simp; done) | (simp [*]; done)), (by first | rfl | (simp; done) | (simp [*]; done)), H', ⟨Nat.le_refl _⟩, ⟨by (repeat apply Kd.RS); exact HO_3.out⟩, ⟨by (repeat apply Kd.RS); exact HO_5.out⟩, ⟨wZ HB⟩⟩
       case round =>
        clear H'
        obtain ⟨x7_3, x8_3, rfl, rfl, HA, HK3, HO_3, HO_5, HB⟩ := hrel
        cases gk with
        | zero => exact absurd HA.out (by simp [spec_l6Tidy.l2])
        | succ k3 =>
         have H := HA.out
         clear HA
         simp only [spec_l6Tidy.l2] at H
         by_cases c11 : x8_3 < (x5_2.length : Int)
         ·rw [if_pos c11] at H
          have c11b0 : decide (x8_3 < (x5_2.length : Int)) = true := decide_eq_true c11
          clear c11
          by_cases c12 : x7_3 = true
          ·subst c12
           rw [if_pos rfl] at H
           have H' := Asd.mk H
           clear H
           obtain ⟨Ao13, co13, eo13⟩ := Kd.R_slice HO_5.out
           subst eo13
           go_wp2
           repeat (go_quiet (fail); try go_wp2)
           go_roundg k3
           case measure => have := HK1.out; have := HK2.out; have := HK3.out; omega
           case rel => exact ⟨(true), (wrap64 (x8_3 + 1)), (by first | rfl | (simp; done) | (simp [*]; done)), (by first | rfl | (simp; done) | (simp [*]; done)), H', ⟨by have := HK1.out; have := HK2.out; have := HK3.out; omega⟩, ⟨by (repeat apply Kd.RS); exact HO_3.out⟩, ⟨by (repeat apply Kd.RS); exact HO_5.out⟩, ⟨wZ HB⟩⟩
          ·replace c12 := Bool.eq_false_iff.mpr c12
           subst c12
           rw [if_neg (show ¬ (false = true) by decide)] at H
           by_cases c14 : 0 ≤ x8_3; rotate_left; (rw [if_neg c14] at H; exact absurd H (by simp))
           rw [if_pos c14] at H
           have c14b0 : decide (0 ≤ x8_3) = true := decide_eq_true c14
           clear c14
           by_cases c15 : 0 ≤ x6_2; rotate_left; (rw [if_neg c15] at H; exact absurd H (by simp))
           rw [if_pos c15] at H
           have c15b0 : decide (0 ≤ x6_2) = true := decide_eq_true c15
           clear c15
           by_cases c16 : x6_2 < (l0.length : Int); rotate_left; (rw [if_neg c16] at H; exact absurd H (by simp))
           rw [if_pos c16] at H
           have c16b0 : decide (x6_2 < (l0.length : Int)) = true := decide_eq_true c16
           clear c16
           have H' := Asd.mk H
           clear H
           obtain ⟨Ao17, co17, eo17⟩ := Kd.R_slice HO_5.out
           subst eo17
           have p224 : 0 ≤ (x8_3 : Int) := odt
           have q224 : x8_3 < (x5_2.length : Int) := odt
           obtain ⟨ad224, e224, hx224_0⟩ := Kd.at_int (Kd.R_reads' HO_5.out).2.2 x8_3 p224 q224
           cases e224
           replace p224 := eq_true p224
           replace q224 := eq_true q224
           have p225 : 0 ≤ (x6_2 : Int) := odt
           have q225 : x6_2 < (l0.length : Int) := odt
           obtain ⟨ad225, e225, hx225_0⟩ := Kd.at_int HR0.out x6_2 p225 q225
           obtain rfl : ad222 = ad225 := (by injection e225)
           replace hx225_0 := (HB.out.cell (World.block_lt_of_cell? w _ hx225_0)).trans hx225_0
           replace p225 := eq_true p225
           replace q225 := eq_true q225
           go_wp2
           repeat (go_quiet (fail); try go_wp2)
           go_roundg k3
           case measure => have := HK1.out; have := HK2.out; have := HK3.out; omega
           case rel => exact ⟨(((rd x5_2 x8_3) == (rd l0 x6_2))), (wrap64 (x8_3 + 1)), (by first | rfl | (simp; done) | (simp [*]; done)), (by first | rfl | (simp; done) | (simp [*]; done)), H', ⟨by have := HK1.out; have := HK2.out; have := HK3.out; omega⟩, ⟨by (repeat apply Kd.RS); exact HO_3.out⟩, ⟨by (repeat apply Kd.RS); exact HO_5.out⟩, ⟨wZ HB⟩⟩
         ·rw [if_neg c11] at H
          have c11b0 : decide (x8_3 < (x5_2.length : Int)) = false := decide_eq_false c11
          clear c11
          by_cases c18 : x7_3 = true
          ·subst c18
           rw [if_pos rfl] at H
           have H' := Asd.mk H
           clear H
           obtain ⟨Ao19, co19, eo19⟩ := Kd.R_slice HO_5.out
           subst eo19
           go_wp2
           repeat (go_quiet (fail); try go_wp2)
           go_roundg k3
           case measure => have := HK1.out; have := HK2.out; have := HK3.out; omega
           case rel => exact ⟨(x5_2), (wrap64 (x6_2 + 1)), (by first | rfl | (simp; done) | (simp [*]; done)), H', ⟨by have := HK1.out; have := HK2.out; have := HK3.out; omega⟩, ⟨by (repeat apply Kd.RS); exact HO_3.out⟩, ⟨by (repeat apply Kd.RS); exact HO_5.out⟩, ⟨wZ HB⟩⟩
          ·replace c18 := Bool.eq_false_iff.mpr c18
           subst c18
           rw [if_neg (show ¬ (false = true) by decide)] at H
           by_cases c20 : 0 ≤ x6_2; rotate_left; (rw [if_neg c20] at H; exact absurd H (by simp))
           rw [if_pos c20] at H
           have c20b0 : decide (0 ≤ x6_2) = true := decide_eq_true c20
           clear c20
           by_cases c21 : x6_2 < (l0.length : Int); rotate_left; (rw [if_neg c21] at H; exact absurd H (by simp))
           rw [if_pos c21] at H
           have c21b0 : decide (x6_2 < (l0.length : Int)) = true := decide_eq_true c21
           clear c21
           by_cases c22 : x5_2.length < 17592186044416; rotate_left; (rw [if_neg c22] at H; exact absurd H (by simp))
           rw [if_pos c22] at H
           have LMc22 := Asd.mk c22
           clear c22
           obtain ⟨y227, hy227⟩ : ∃ y_ : List Int, y_ = (x5_2 ++ [rd l0 x6_2]) := ⟨_, rfl⟩
           replace H : (spec_l6Tidy.l1 k3 l0 x3_1 x4_1 y227 (wrap64 (x6_2 + 1))) = some r := by first | (rw [hy227]; with_reducible exact H) | (have H2_ := (Option.bind_some _ _).symm.trans H; rw [hy227]; with_reducible exact H2_) | (have H2_ := (Option.bind_some _ _).symm.trans H; with_reducible exact H2_) | with_reducible exact H | (rw [hy227]; exact H) | exact H
           have Ny227 := Asd.mk hy227
           clear hy227
           have H' := Asd.mk H
           clear H
           obtain ⟨Ao23, co23, eo23⟩ := Kd.R_slice HO_5.out
           subst eo23
           have p226 : 0 ≤ (x6_2 : Int) := odt
           have q226 : x6_2 < (l0.length : Int) := odt
           obtain ⟨ad226, e226, hx226_0⟩ := Kd.at_int HR0.out x6_2 p226 q226
           obtain rfl : ad222 = ad226 := (by injection e226)
           replace hx226_0 := (HB.out.cell (World.block_lt_of_cell? w _ hx226_0)).trans hx226_0
           replace p226 := eq_true p226
           replace q226 := eq_true q226
           go_wp2_with (first | ((with_reducible refine gate_builtin (b := .append) (xs := #[.tmp 52, .tmp 57]) rfl ?_); at_builtin; refine Kd.R_append (Kd.int .i64) (w0 := w) w.heap.size rfl (.tmp 52) (.tmp 57) 55 3 (.int .i64 0) 8 rfl Try.underlying55 info3 rfl (by decide) (by omega) (.slice Ao23 x5_2.length co23) x5_2 (rd l0 x6_2) [.int .i64 (rd l0 x6_2)] (fun k_ => some k_ ≠ (u3 : Value).ownBlock) (fun _ => False) rfl rfl ?aP (fun _ hk => hk.elim) ?aF ?aO ?aB ?aS ?aL ?_; (case aP => exact rfl); (case aB => exact (wZ HB)); (case aF => exact (fun k_ hk => Kd.fresh' (Kd.R_lt (rS HO_3)) k_ hk)); (case aO => exact (rS HO_5)); (case aS => exact (below_size (wZ HB))); (case aL => have := LMc22.out; omega); intro v228 w24 ho hb hg hat; rw [← Ny227.out] at ho; replace HO_3 := Asd.mk (Kd.R_after (ok := (fun _ => True)) (by (repeat apply Kd.RS); exact Kd.R_mono HO_3.out (fun _ hk => ⟨trivial, hk⟩)) hg hat); replace HB := Asd.mk (hb); have HO229 := Asd.mk (ho); clear HO_5; clear ho hb hg hat))
           repeat (go_quiet (first | ((with_reducible refine gate_builtin (b := .append) (xs := #[.tmp 52, .tmp 57]) rfl ?_); at_builtin; refine Kd.R_append (Kd.int .i64) (w0 := w) w.heap.size rfl (.tmp 52) (.tmp 57) 55 3 (.int .i64 0) 8 rfl Try.underlying55 info3 rfl (by decide) (by omega) (.slice Ao23 x5_2.length co23) x5_2 (rd l0 x6_2) [.int .i64 (rd l0 x6_2)] (fun k_ => some k_ ≠ (u3 : Value).ownBlock) (fun _ => False) rfl rfl ?aP (fun _ hk => hk.elim) ?aF ?aO ?aB ?aS ?aL ?_; (case aP => exact rfl); (case aB => exact (wZ HB)); (case aF => exact (fun k_ hk => Kd.fresh' (Kd.R_lt (rS HO_3)) k_ hk)); (case aO => exact (rS HO_5)); (case aS => exact (below_size (wZ HB))); (case aL => have := LMc22.out; omega); intro v228 w24 ho hb hg hat; rw [← Ny227.out] at ho; replace HO_3 := Asd.mk (Kd.R_after (ok := (fun _ => True)) (by (repeat apply Kd.RS); exact Kd.R_mono HO_3.out (fun _ hk => ⟨trivial, hk⟩)) hg hat); replace HB := Asd.mk (hb); have HO229 := Asd.mk (ho); clear HO_5; clear ho hb hg hat)); try go_wp2_with (first | ((with_reducible refine gate_builtin (b := .append) (xs := #[.tmp 52, .tmp 57]) rfl ?_); at_builtin; refine Kd.R_append (Kd.int .i64) (w0 := w) w.heap.size rfl (.tmp 52) (.tmp 57) 55 3 (.int .i64 0) 8 rfl Try.underlying55 info3 rfl (by decide) (by omega) (.slice Ao23 x5_2.length co23) x5_2 (rd l0 x6_2) [.int .i64 (rd l0 x6_2)] (fun k_ => some k_ ≠ (u3 : Value).ownBlock) (fun _ => False) rfl rfl ?aP (fun _ hk => hk.elim) ?aF ?aO ?aB ?aS ?aL ?_; (case aP => exact rfl); (case aB => exact (wZ HB)); (case aF => exact (fun k_ hk => Kd.fresh' (Kd.R_lt (rS HO_3)) k_ hk)); (case aO => exact (rS HO_5)); (case aS => exact (below_size (wZ HB))); (case aL => have := LMc22.out; omega); intro v228 w24 ho hb hg hat; rw [← Ny227.out] at ho; replace HO_3 := Asd.mk (Kd.R_after (ok := (fun _ => True)) (by (repeat apply Kd.RS); exact Kd.R_mono HO_3.out (fun _ hk => ⟨trivial, hk⟩)) hg hat); replace HB := Asd.mk (hb); have HO229 := Asd.mk (ho); clear HO_5; clear ho hb hg hat)))
           go_roundg k3
           case measure => have := HK1.out; have := HK2.out; have := HK3.out; omega
           case rel => exact ⟨(y227), (wrap64 (x6_2 + 1)), (by first | rfl | (simp; done) | (simp [*]; done)), H', ⟨by have := HK1.out; have := HK2.out; have := HK3.out; omega⟩, ⟨by (repeat apply Kd.RS); exact Kd.R_mono HO_3.out (fun _ hk => hk.2)⟩, ⟨by (repeat apply Kd.RS); exact HO229.out⟩, ⟨wZ HB⟩⟩
      ·rw [if_neg c7] at H
       have c7b0 : decide (x6_2 < (l0.length : Int)) = false := decide_eq_false c7
       clear c7
       by_cases c25 : x3_1.length < 17592186044416; rotate_left; (rw [if_neg c25] at H; exact absurd H (by simp))
       rw [if_pos c25] at H
       have LMc25 := Asd.mk c25
       clear c25
       obtain ⟨y219, hy219⟩ : ∃ y_ : List Int, y_ = (x3_1 ++ [(x5_2.length : Int)]) := ⟨_, rfl⟩
       replace H : (spec_l6Tidy.l0 k2 l0 y219 (wrap64 (x4_1 + 1))) = some r := by first | (rw [hy219]; with_reducible exact H) | (have H2_ := (Option.bind_some _ _).symm.trans H; rw [hy219]; with_reducible exact H2_) | (have H2_ := (Option.bind_some _ _).symm.trans H; with_reducible exact H2_) | with_reducible exact H | (rw [hy219]; exact H) | exact H
       have Ny219 := Asd.mk hy219
       clear hy219
       have H' := Asd.mk H
       clear H
       obtain ⟨Ao26, co26, eo26⟩ := Kd.R_slice HO_5.out
       subst eo26
       go_wp2_with (first | ((with_reducible refine gate_builtin (b := .append) (xs := #[.tmp 59, .tmp 62]) rfl ?_); at_builtin; refine Kd.R_append (Kd.int .i64) (w0 := w) w.heap.size rfl (.tmp 59) (.tmp 62) 55 3 (.int .i64 0) 8 rfl Try.underlying55 info3 rfl (by decide) (by omega) u3 x3_1 (x5_2.length : Int) [.int .i64 (x5_2.length : Int)] (fun k_ => some k_ ≠ (.slice Ao26 x5_2.length co26 : Value).ownBlock) (fun _ => False) rfl rfl ?aP (fun _ hk => hk.elim) ?aF ?aO ?aB ?aS ?aL ?_; (case aP => exact rfl); (case aB => exact (wZ HB)); (case aF => exact (fun k_ hk => Kd.fresh' (Kd.R_lt (rS HO_5)) k_ hk)); (case aO => exact (rS HO_3)); (case aS => exact (below_size (wZ HB))); (case aL => have := LMc25.out; omega); intro v220 w27 ho hb hg hat; rw [← Ny219.out] at ho; replace HO_5 := Asd.mk (Kd.R_after (ok := (fun _ => True)) (by (repeat apply Kd.RS); exact Kd.R_mono HO_5.out (fun _ hk => ⟨trivial, hk⟩)) hg hat); replace HB := Asd.mk (hb); have HO221 := Asd.mk (ho); clear HO_3; clear ho hb hg hat))
       repeat (go_quiet (first | ((with_reducible refine gate_builtin (b := .append) (xs := #[.tmp 59, .tmp 62]) rfl ?_); at_builtin; refine Kd.R_append (Kd.int .i64) (w0 := w) w.heap.size rfl (.tmp 59) (.tmp 62) 55 3 (.int .i64 0) 8 rfl Try.underlying55 info3 rfl (by decide) (by omega) u3 x3_1 (x5_2.length : Int) [.int .i64 (x5_2.length : Int)] (fun k_ => some k_ ≠ (.slice Ao26 x5_2.length co26 : Value).ownBlock) (fun _ => False) rfl rfl ?aP (fun _ hk => hk.elim) ?aF ?aO ?aB ?aS ?aL ?_; (case aP => exact rfl); (case aB => exact (wZ HB)); (case aF => exact (fun k_ hk => Kd.fresh' (Kd.R_lt (rS HO_5)) k_ hk)); (case aO => exact (rS HO_3)); (case aS => exact (below_size (wZ HB))); (case aL => have := LMc25.out; omega); intro v220 w27 ho hb hg hat; rw [← Ny219.out] at ho; replace HO_5 := Asd.mk (Kd.R_after (ok := (fun _ => True)) (by (repeat apply Kd.RS); exact Kd.R_mono HO_5.out (fun _ hk => ⟨trivial, hk⟩)) hg hat); replace HB := Asd.mk (hb); have HO221 := Asd.mk (ho); clear HO_3; clear ho hb hg hat)); try go_wp2_with (first | ((with_reducible refine gate_builtin (b := .append) (xs := #[.tmp 59, .tmp 62]) rfl ?_); at_builtin; refine Kd.R_append (Kd.int .i64) (w0 := w) w.heap.size rfl (.tmp 59) (.tmp 62) 55 3 (.int .i64 0) 8 rfl Try.underlying55 info3 rfl (by decide) (by omega) u3 x3_1 (x5_2.length : Int) [.int .i64 (x5_2.length : Int)] (fun k_ => some k_ ≠ (.slice Ao26 x5_2.length co26 : Value).ownBlock) (fun _ => False) rfl rfl ?aP (fun _ hk => hk.elim) ?aF ?aO ?aB ?aS ?aL ?_; (case aP => exact rfl); (case aB => exact (wZ HB)); (case aF => exact (fun k_ hk => Kd.fresh' (Kd.R_lt (rS HO_5)) k_ hk)); (case aO => exact (rS HO_3)); (case aS => exact (below_size (wZ HB))); (case aL => have := LMc25.out; omega); intro v220 w27 ho hb hg hat; rw [← Ny219.out] at ho; replace HO_5 := Asd.mk (Kd.R_after (ok := (fun _ => True)) (by (repeat apply Kd.RS); exact Kd.R_mono HO_5.out (fun _ hk => ⟨trivial, hk⟩)) hg hat); replace HB := Asd.mk (hb); have HO221 := Asd.mk (ho); clear HO_3; clear ho hb hg hat)))
       go_roundg k2
       case measure => have := HK1.out; have := HK2.out; omega
       case rel => exact ⟨(y219), (wrap64 (x4_1 + 1)), (by first | rfl | (simp; done) | (simp [*]; done)), H', ⟨by have := HK1.out; have := HK2.out; omega⟩, ⟨by (repeat apply Kd.RS); exact Kd.R_mono HO221.out (fun _ hk => trivial)⟩, ⟨wZ HB⟩⟩
   ·rw [if_neg c4] at H
    have c4b0 : decide (x4_1 < (l0.length : Int)) = false := decide_eq_false c4
    clear c4
    obtain rfl := Option.some.inj H
    go_wp2
    repeat (go_quiet (fail); try go_wp2)
    go_ret
    exact ⟨_, by first | rfl | (simp [*, errW_none, errW_some] <;> rfl), by (repeat apply Kd.RS); exact HO_3.out, wZ HB⟩

/-! ### spec_l6Rise: function 133 -/
def spec_l6Rise.l0 : Nat → List Int → Int → List Int → Int → Option (List Int)
 | 0, _, _, _, _ => none
 | k + 1, x0, x1, x5, x6 => if x6 < (x0.length : Int) then (if 0 ≤ x6 then ((spec_l1Bit.f x1 x6).bind fun t234 => (if x5.length < 17592186044416 then (spec_l6Rise.l0 k x0 x1 (x5 ++ [wrap64 ((rd x0 x6) + (wrap64 ((wrap64 (1 - t234)) * 10)))]) (wrap64 (x6 + 1))) else (none))) else (none)) else ((spec_l6Tidy.f k x5).bind fun t238 => (some t238))
def spec_l6Rise.f (k : Nat) (l0 : List Int) (a1 : Int) : Option (List Int) := spec_l6Rise.l0 k l0 a1 (([] : List Int)) 0
theorem spec_l6Rise.mono_l : ∀ k, (∀ y0 y1 y2 y3, LeO (spec_l6Rise.l0 k y0 y1 y2 y3) (spec_l6Rise.l0 (k + 1) y0 y1 y2 y3))
 | 0 => fun _ _ _ _ r h => by simp [spec_l6Rise.l0] at h
 | k + 1 => by
  have ih0 := spec_l6Rise.mono_l k
  ·intro y0 y1 y2 y3
   unfold spec_l6Rise.l0
   repeat' first
   | (with_reducible first | exact ih0 _ _ _ _ | exact spec_l6Tidy.mono _ _ | exact LeO.refl _ | exact LeO.none _ | refine LeO.ite ?_ ?_ | refine LeO.bind ?_ (fun _ => ?_))
   | refine LeO.ite ?_ ?_
   | refine LeO.bind ?_ (fun _ => ?_)
theorem spec_l6Rise.mono : ∀ a0 a1 k, LeO (spec_l6Rise.f k a0 a1) (spec_l6Rise.f (k + 1) a0 a1) := by
 intro a0 a1 k
 have ih0 := spec_l6Rise.mono_l k
 unfold spec_l6Rise.f
 repeat' first
   | (with_reducible first | exact ih0 _ _ _ _ | exact spec_l6Tidy.mono _ _ | exact LeO.refl _ | exact LeO.none _ | refine LeO.ite ?_ ?_ | refine LeO.bind ?_ (fun _ => ?_))
   | refine LeO.ite ?_ ?_
   | refine LeO.bind ?_ (fun _ => ?_)
def spec_l6Rise.T5 : Bool × List (List Nat × List Nat) := (true, [([], []), ([], []), ([], []), ([1, 2], [1, 2]), ([3], [3]), ([], []), ([], []), ([5, 6], [5, 6]), ([7], [7]), ([8], [8]), ([4, 9], [4, 9]), ([10], [10]), ([0, 11, 7], [0, 11]), ([12, 12, 0, 1, 2, 3, 4, 5, 6, 7, 8, 9, 10, 11, 12], [0, 12])])
def spec_l6Rise.B5 : List Nat := [0, 0, 0, 6, 14, 0, 0, 96, 224, 480, 1022, 2046, 4095, 8191]
theorem spec_l6Rise.tab5 : rtab .any (opsOf Try.f133 5) = spec_l6Rise.T5 := by kernel_rfl
theorem spec_l6Rise.bits5 : waitsOk spec_l6Rise.T5.2 spec_l6Rise.B5 = true := by kernel_rfl
set_option maxHeartbeats 8000000 in
set_option maxRecDepth 100000 in
theorem spec_l6Rise.calls (k : Nat) (A0 : Option Addr) (c0 : Nat) (l0 : List Int) (a1 : Int) (r : List Int) (w : World) (hr0 : Kd.C (Kd.int .i64) w A0 l0.length l0) (hc0 : l0.length ≤ c0) (h : spec_l6Rise.f k l0 a1 = some r) :
  Calls Try.prog 133 #[.slice A0 l0.length c0, .int .i64 a1] w fun e w' => ∃ v0_ : Value, e = .returned (v0_) ∧ Kd.R (Kd.int .i64) 3 w' w.heap.size (fun _ => True) v0_ r ∧ Below w.heap.size w w' := by
 have HR0 := Asd.mk hr0
 have HC0 := Asd.mk hc0
 clear hr0 hc0
 have HB := Asd.mk (Below.refl w.heap.size w)
 have H : (spec_l6Rise.l0 k l0 a1 (([] : List Int)) 0) = some r := h
 clear h
 obtain ⟨y230, hy230⟩ : ∃ y_ : List Int, y_ = (([] : List Int)) := ⟨_, rfl⟩
 replace H : (spec_l6Rise.l0 k l0 a1 y230 0) = some r := by first | (rw [hy230]; with_reducible exact H) | (have H2_ := (Option.bind_some _ _).symm.trans H; rw [hy230]; with_reducible exact H2_) | (have H2_ := (Option.bind_some _ _).symm.trans H; with_reducible exact H2_) | with_reducible exact H | (rw [hy230]; exact H) | exact H
 have Ny230 := Asd.mk hy230
 clear hy230
 have H' := Asd.mk H
 clear H
 go_enter Try.func133, Try.ntmps133
 go_wp2_with (first | ((with_reducible refine gate_dst (N := 7) rfl ?_); refine Kd.R_lit (Kd.int .i64) _ 3 ?hg (N := 7) ?hd (xs := ([] : List Int)) (inner := []) (ok := fun _ => True) (okp := fun _ => True) ?hr ?hp (fun _ hk => hk) trivial (Below.refl _ _) (Nat.le_refl _) (by simp) ?_; (case hd => rfl); (case hg => rfl); (case hr => first | (go_simp; done) | (go_simp; rfl)); (case hp => exact (Reps.none _ _)); intro v231 w3 ho4 hb hg_ hnew_; clear hg_ hnew_; (first | rw [← Ny230.out] at ho4 | (simp only [Int.reduceToNat] at ho4; rw [← Ny230.out] at ho4)); have HO232 := Asd.mk (Kd.R_lower ho4 (below_size (wZ HB))); replace HB := bW HB hb; clear hb ho4))
 go_loopg [5, 6] k (fun kq v5 v6 w' => ∃ (x5_1 : List Int) (x6_1 : Int), v6 = .int .i64 x6_1 ∧ Asd (spec_l6Rise.l0 kq l0 a1 x5_1 x6_1 = some r) ∧ Asd (kq ≤ k) ∧ Asd (Kd.R (Kd.int .i64) 3 w' w.heap.size (fun _ => True) v5 x5_1) ∧ Asd (Below w.heap.size w w'))
 case atStart => exact ⟨(y230), (0), (by first | rfl | (simp; done) | (simp [*]; done)), H', ⟨Nat.le_refl _⟩, ⟨by (repeat apply Kd.RS); exact HO232.out⟩, ⟨wZ HB⟩⟩
 case round =>
  clear H'
  obtain ⟨x5_1, x6_1, rfl, HA, HK1, HO_5, HB⟩ := hrel
  cases gk with
  | zero => exact absurd HA.out (by simp [spec_l6Rise.l0])
  | succ k1 =>
   have H := HA.out
   clear HA
   simp only [spec_l6Rise.l0] at H
   by_cases c5 : x6_1 < (l0.length : Int)
   ·rw [if_pos c5] at H
    have c5b0 : decide (x6_1 < (l0.length : Int)) = true := decide_eq_true c5
    clear c5
    by_cases c6 : 0 ≤ x6_1; rotate_left; (rw [if_neg c6] at H; exact absurd H (by simp))
    rw [if_pos c6] at H
    have c6b0 : decide (0 ≤ x6_1) = true := decide_eq_true c6
    clear c6
    replace H := Option.bind_eq_some_iff.mp H
    obtain ⟨t234, A70, H⟩ := H
    try dsimp only at H
    have A7 := Asd.mk A70
    clear A70
    by_cases c8 : x5_1.length < 17592186044416; rotate_left; (rw [if_neg c8] at H; exact absurd H (by simp))
    rw [if_pos c8] at H
    have LMc8 := Asd.mk c8
    clear c8
    obtain ⟨y235, hy235⟩ : ∃ y_ : List Int, y_ = (x5_1 ++ [wrap64 ((rd l0 x6_1) + (wrap64 ((wrap64 (1 - t234)) * 10)))]) := ⟨_, rfl⟩
    replace H : (spec_l6Rise.l0 k1 l0 a1 y235 (wrap64 (x6_1 + 1))) = some r := by first | (rw [hy235]; with_reducible exact H) | (have H2_ := (Option.bind_some _ _).symm.trans H; rw [hy235]; with_reducible exact H2_) | (have H2_ := (Option.bind_some _ _).symm.trans H; with_reducible exact H2_) | with_reducible exact H | (rw [hy235]; exact H) | exact H
    have Ny235 := Asd.mk hy235
    clear hy235
    have H' := Asd.mk H
    clear H
    try go_wp2
    replace HO_5 := Asd.mk (Kd.R_drew HO_5.out)
    replace HB := Asd.mk (bwD HB.out)
    have p233 : 0 ≤ (x6_1 : Int) := odt
    have q233 : x6_1 < (l0.length : Int) := odt
    obtain ⟨ad233, e233, hx233_0⟩ := Kd.at_int HR0.out x6_1 p233 q233
    have hw233_0 := hx233_0
    cases e233
    replace hx233_0 := (HB.out.cell (World.block_lt_of_cell? w _ hx233_0)).trans hx233_0
    replace p233 := eq_true p233
    replace q233 := eq_true q233
    refine start_ (n := 14) (S := fun w' => w'.cell? (ad233.add (x6_1).toNat) = some (.int .i64 (rd l0 x6_1))) (ds := []) #[false, false, false, false, false, false, false, false, false, false, false, false, false, false] (by kernel_rfl) rfl rfl (((HB.out.cell (World.block_lt_of_cell? w _ hw233_0)).trans hw233_0)) (fun hHeld => ?_); refine with_tabW spec_l6Rise.tab5 spec_l6Rise.bits5 (fun HT_ HW_ => ?_)
    generalize wr.drew = w9 at HO_5 HB hx233_0 hHeld ⊢
    refine pure_ (i := 0) (N := some 14) (v := ?_) (a' := ?_) #[true, false, false, false, false, false, false, false, false, false, false, false, false, false] rfl rfl (any_of HT_.out (by kernel_rfl)) (fun _ _ _ h => h) (Or.inl ⟨by rfl, ?_⟩) ?_ ?_
    rotate_left
    ·intro w'
     go_simp
     with_reducible rfl
    rotate_left
    ·simp only [Act.put, qA, qB, qC, i64_w, i32_w]
     rfl
    refine pure_ (i := 1) (N := some 15) (v := ?_) (a' := ?_) #[true, true, false, false, false, false, false, false, false, false, false, false, false, false] rfl rfl (any_of HT_.out (by kernel_rfl)) (fun _ _ _ h => h) (Or.inl ⟨by rfl, ?_⟩) ?_ ?_
    rotate_left
    ·intro w'
     go_simp
     with_reducible rfl
    rotate_left
    ·simp only [Act.put, qA, qB, qC, i64_w, i32_w]
     rfl
    refine pure_ (i := 2) (N := some 16) (v := ?_) (a' := ?_) #[true, true, true, false, false, false, false, false, false, false, false, false, false, false] rfl rfl (any_of HT_.out (by kernel_rfl)) (fun _ _ _ h => h) (Or.inl ⟨by rfl, ?_⟩) ?_ ?_
    rotate_left
    ·intro w'
     go_simp
     with_reducible rfl
    rotate_left
    ·simp only [Act.put, qA, qB, qC, i64_w, i32_w]
     rfl
    refine pure_ (i := 3) (N := some 17) (v := ?_) (a' := ?_) #[true, true, true, true, false, false, false, false, false, false, false, false, false, false] rfl rfl (any_of HT_.out (by kernel_rfl)) (fun _ _ _ h => h) (Or.inl ⟨by rfl, ?_⟩) ?_ ?_
    rotate_left
    ·intro w'
     go_simp
     with_reducible rfl
    rotate_left
    ·simp only [Act.put, qA, qB, qC, i64_w, i32_w]
     rfl
    refine pure_ (i := 5) (N := some 19) (v := ?_) (a' := ?_) #[true, true, true, true, false, true, false, false, false, false, false, false, false, false] rfl rfl (any_of HT_.out (by kernel_rfl)) (fun _ _ _ h => h) (Or.inl ⟨by rfl, ?_⟩) ?_ ?_
    rotate_left
    ·intro w'
     go_simp
     with_reducible rfl
    rotate_left
    ·simp only [Act.put, qA, qB, qC, i64_w, i32_w]
     rfl
    refine pure_ (i := 6) (N := some 20) (v := ?_) (a' := ?_) #[true, true, true, true, false, true, true, false, false, false, false, false, false, false] rfl rfl (any_of HT_.out (by kernel_rfl)) (fun _ _ _ h => h) (Or.inl ⟨by rfl, ?_⟩) ?_ ?_
    rotate_left
    ·intro w'
     go_simp
     with_reducible rfl
    rotate_left
    ·simp only [Act.put, qA, qB, qC, i64_w, i32_w]
     rfl
    refine take_ (i := 4) (N := some 18) (v := ?_) (a' := ?_) #[true, true, true, true, true, true, true, false, false, false, false, false, false, false] rfl rfl (take_ofW HT_.out HW_.out (by kernel_rfl)) (fun _ _ _ h => h) (Or.inl ⟨by rfl, ?_⟩) hHeld ?_ ?_
    rotate_left
    ·intro w' s0
     go_simp
     with_reducible rfl
    rotate_left
    ·simp only [Act.put, qA, qB, qC, i64_w, i32_w]
     rfl
    refine one_ (i := 7) (N := some 21) #[true, true, true, true, true, true, true, true, false, false, false, false, false, false] rfl rfl (one_of HT_.out (by kernel_rfl)) (by decide) (fun K hK => ?_)
    refine goes_ Try.func146 (by kernel_rfl) rfl #[.int .i64 a1, .int .i64 x6_1] (by rfl) rfl rfl (by (try simp only [List.map_toArray, List.map_cons, List.map_nil]); first | done | rfl | (simp only [List.length_drop, List.length_take]; rfl)) ?_
    with_reducible refine (spec_l1Bit.calls a1 x6_1 t234 _ A7.out).mono ?_
    rintro e w' ⟨rfl, ⟨nd, rfl⟩⟩
    refine ⟨_, rfl, ?_⟩
    refine hK.out _ _ (((HB.out.cell (World.block_lt_of_cell? w _ hw233_0)).trans hw233_0)) (fun hHeld => ?_)
    clear hK K
    refine norm_ (a' := ?_) ?_ ?_
    rotate_left
    ·show Act.put _ (some 21) _ = _
     simp only [Act.put, qA, qB, qC, i64_w, i32_w]
     rfl
    refine pure_ (i := 8) (N := some 22) (v := ?_) (a' := ?_) #[true, true, true, true, true, true, true, true, true, false, false, false, false, false] rfl rfl (any_of HT_.out (by kernel_rfl)) (fun _ _ _ h => h) (Or.inl ⟨by rfl, ?_⟩) ?_ ?_
    rotate_left
    ·intro w'
     go_simp
     with_reducible rfl
    rotate_left
    ·simp only [Act.put, qA, qB, qC, i64_w, i32_w]
     rfl
    refine pure_ (i := 9) (N := some 23) (v := ?_) (a' := ?_) #[true, true, true, true, true, true, true, true, true, true, false, false, false, false] rfl rfl (any_of HT_.out (by kernel_rfl)) (fun _ _ _ h => h) (Or.inl ⟨by rfl, ?_⟩) ?_ ?_
    rotate_left
    ·intro w'
     go_simp
     with_reducible rfl
    rotate_left
    ·simp only [Act.put, qA, qB, qC, i64_w, i32_w]
     rfl
    refine pure_ (i := 10) (N := some 24) (v := ?_) (a' := ?_) #[true, true, true, true, true, true, true, true, true, true, true, false, false, false] rfl rfl (any_of HT_.out (by kernel_rfl)) (fun _ _ _ h => h) (Or.inl ⟨by rfl, ?_⟩) ?_ ?_
    rotate_left
    ·intro w'
     go_simp
     with_reducible rfl
    rotate_left
    ·simp only [Act.put, qA, qB, qC, i64_w, i32_w]
     rfl
    refine one_ (i := 11) (N := some 25) #[true, true, true, true, true, true, true, true, true, true, true, true, false, false] rfl rfl (one_of HT_.out (by kernel_rfl)) (by decide) (fun K hK => ?_)
    refine value_ (w1 := ?_) (v := ?_) (by rfl) rfl ?_ ?_
    rotate_left 2
    ·go_simp
     constructor
     ·rfl
     ·rfl
    refine hK.out _ _ ((World.cell?_alloc_lt _ _ _ (World.block_lt_of_cell? _ _ (((HB.out.cell (World.block_lt_of_cell? w _ hw233_0)).trans hw233_0)))).trans (((HB.out.cell (World.block_lt_of_cell? w _ hw233_0)).trans hw233_0))) (fun hHeld => ?_)
    clear hK K
    refine norm_ (a' := ?_) ?_ ?_
    rotate_left
    ·show Act.put _ (some 25) _ = _
     simp only [Act.put, qA, qB, qC, i64_w, i32_w]
     rfl
    refine one_ (i := 12) (N := some 26) #[true, true, true, true, true, true, true, true, true, true, true, true, true, false] rfl rfl (one_of HT_.out (by kernel_rfl)) (by decide) (fun K hK => ?_)
    refine Kd.R_append_step (Kd.int .i64) (w0 := w) w.heap.size (by rfl) (.tmp 14) (.tmp 25) 55 3 (.int .i64 0) 8 rfl Try.underlying55 info3 rfl (by decide) (by omega) u5 x5_1 (wrap64 ((rd l0 x6_1) + (wrap64 ((wrap64 (1 - t234)) * 10)))) [.int .i64 (wrap64 ((rd l0 x6_1) + (wrap64 ((wrap64 (1 - t234)) * 10))))] (fun _ => True) (fun _ => False) rfl rfl ?aP (fun _ hk => hk.elim) ?aF ?aO ?aB ?aS ?aL ?_
    (case aP => exact rfl)
    (case aB => exact (wZ HB))
    (case aF => exact (fun _ _ => trivial))
    (case aO => exact (rS HO_5))
    (case aS => exact (below_size (wZ HB)))
    (case aL => have := LMc8.out; omega)
    intro v236 w10 ho hb hg hat
    rw [← Ny235.out] at ho
    replace HB := Asd.mk (hb)
    have HO237 := Asd.mk (ho)
    clear HO_5 ho hb hg hat
    refine hK.out _ _ (((HB.out.cell (World.block_lt_of_cell? w _ hw233_0)).trans hw233_0)) (fun hHeld => ?_)
    clear hK K
    refine norm_ (a' := ?_) ?_ ?_
    rotate_left
    ·show Act.put _ (some 26) _ = _
     simp only [Act.put, qA, qB, qC, i64_w, i32_w]
     rfl
    refine pure_ (i := 13) (N := some 5) (v := ?_) (a' := ?_) #[true, true, true, true, true, true, true, true, true, true, true, true, true, true] rfl rfl (any_of HT_.out (by kernel_rfl)) (fun _ _ _ h => h) (Or.inl ⟨by rfl, ?_⟩) ?_ ?_
    rotate_left
    ·intro w'
     go_simp
     with_reducible rfl
    rotate_left
    ·simp only [Act.put, qA, qB, qC, i64_w, i32_w]
     rfl
    refine done_ (done_of HT_.out (by kernel_rfl)) ?_
    try go_wp2
    go_roundg k1
    case measure => have := HK1.out; omega
    case rel => exact ⟨(y235), (wrap64 (x6_1 + 1)), (by first | rfl | (simp; done) | (simp [*]; done)), H', ⟨by have := HK1.out; omega⟩, ⟨by (repeat apply Kd.RS); exact HO237.out⟩, ⟨wZ HB⟩⟩
   ·rw [if_neg c5] at H
    have c5b0 : decide (x6_1 < (l0.length : Int)) = false := decide_eq_false c5
    clear c5
    replace H := Option.bind_eq_some_iff.mp H
    obtain ⟨t238, A110, H⟩ := H
    try dsimp only at H
    have A11 := Asd.mk A110
    clear A110
    obtain rfl := Option.some.inj H
    obtain ⟨Ao12, co12, eo12⟩ := Kd.R_slice HO_5.out
    subst eo12
    go_wp2_with (first | ((with_reducible refine gate_callee (f := 147) rfl ?_); refine gsM (some 28) rfl rfl Try.func147 (by kernel_rfl) rfl #[.slice Ao12 x5_1.length co12] rfl ?_; (with_reducible refine (spec_l6Tidy.calls k1 _ _ x5_1 t238 _ ?side1 ?side2 A11.out).mono ?_); (case side1 => exact cZ (Kd.R_reads' HO_5.out).2.2); (case side2 => exact (Kd.R_reads' HO_5.out).2.1); rintro e w13 ⟨v239, rfl, ho0, hb⟩; refine ⟨_, rfl, ?_⟩; have HO240 := Asd.mk (Kd.R_lower (Kd.R_new' ho0 (Kd.R_lt (rS HO_5))) (below_size (wZ HB))); replace HO_5 := Asd.mk (Kd.R_elder' (rS HO_5) (Kd.R_base ho0) hb); replace HB := bW HB hb; (try clear hb); (try clear hb2); (try clear hk); (try clear hi); (try clear ho0)))
    go_ret
    exact ⟨_, by first | rfl | (simp [*, errW_none, errW_some] <;> rfl), by (repeat apply Kd.RS); exact Kd.R_mono HO240.out (fun _ hk => trivial), wZ HB⟩

/-! ### spec_l2Least: function 134 -/
mutual
def spec_l2Least.l0 : Nat → List Int → Int → Int → Int → Option (Int)
 | 0, _, _, _, _ => none
 | k + 1, x0, x1, x5, x6 => if x6 < (x0.length : Int) then ((spec_l1Bit.f x1 x6).bind fun t241 => (if t241 = 1 then (if 0 ≤ x6 then (spec_l2Least.l0 k x0 x1 (mn x5 (rd x0 x6)) (wrap64 (x6 + 1))) else (none)) else (spec_l2Least.l0 k x0 x1 x5 (wrap64 (x6 + 1))))) else (spec_l2Least.l1 k x0 x1 x5 0 0)
def spec_l2Least.l1 : Nat → List Int → Int → Int → Int → Int → Option (Int)
 | 0, _, _, _, _, _ => none
 | k + 1, x0, x1, x5, x7, x8 => if x8 < (x0.length : Int) then ((spec_l1Bit.f x1 x8).bind fun t243 => (if t243 = 1 then (if 0 ≤ x8 then (if (rd x0 x8) = x5 then (spec_l2Least.l1 k x0 x1 x5 (wrap64 (x7 + (shl .i64 1 x8))) (wrap64 (x8 + 1))) else (spec_l2Least.l1 k x0 x1 x5 x7 (wrap64 (x8 + 1)))) else (none)) else (spec_l2Least.l1 k x0 x1 x5 x7 (wrap64 (x8 + 1))))) else (some x7)
end
def spec_l2Least.f (k : Nat) (l0 : List Int) (a1 : Int) : Option (Int) := spec_l2Least.l0 k l0 a1 10 0
theorem spec_l2Least.mono_l : ∀ k, (∀ y0 y1 y2 y3, LeO (spec_l2Least.l0 k y0 y1 y2 y3) (spec_l2Least.l0 (k + 1) y0 y1 y2 y3)) ∧ (∀ y0 y1 y2 y3 y4, LeO (spec_l2Least.l1 k y0 y1 y2 y3 y4) (spec_l2Least.l1 (k + 1) y0 y1 y2 y3 y4))
 | 0 => ⟨fun _ _ _ _ r h => by simp [spec_l2Least.l0] at h, fun _ _ _ _ _ r h => by simp [spec_l2Least.l1] at h⟩
 | k + 1 => by
  obtain ⟨ih0, ih1⟩ := spec_l2Least.mono_l k
  refine ⟨?_, ?_⟩
  ·intro y0 y1 y2 y3
   unfold spec_l2Least.l0
   repeat' first
   | (with_reducible first | exact ih0 _ _ _ _ | exact ih1 _ _ _ _ _ | exact LeO.refl _ | exact LeO.none _ | refine LeO.ite ?_ ?_ | refine LeO.bind ?_ (fun _ => ?_))
   | refine LeO.ite ?_ ?_
   | refine LeO.bind ?_ (fun _ => ?_)
  ·intro y0 y1 y2 y3 y4
   unfold spec_l2Least.l1
   repeat' first
   | (with_reducible first | exact ih0 _ _ _ _ | exact ih1 _ _ _ _ _ | exact LeO.refl _ | exact LeO.none _ | refine LeO.ite ?_ ?_ | refine LeO.bind ?_ (fun _ => ?_))
   | refine LeO.ite ?_ ?_
   | refine LeO.bind ?_ (fun _ => ?_)
theorem spec_l2Least.mono : ∀ a0 a1 k, LeO (spec_l2Least.f k a0 a1) (spec_l2Least.f (k + 1) a0 a1) := by
 intro a0 a1 k
 obtain ⟨ih0, ih1⟩ := spec_l2Least.mono_l k
 unfold spec_l2Least.f
 repeat' first
   | (with_reducible first | exact ih0 _ _ _ _ | exact ih1 _ _ _ _ _ | exact LeO.refl _ | exact LeO.none _ | refine LeO.ite ?_ ?_ | refine LeO.bind ?_ (fun _ => ?_))
   | refine LeO.ite ?_ ?_
   | refine LeO.bind ?_ (fun _ => ?_)
set_option maxHeartbeats 8000000 in
set_option maxRecDepth 100000 in
theorem spec_l2Least.calls (k : Nat) (A0 : Option Addr) (c0 : Nat) (l0 : List Int) (a1 : Int) (r : Int) (w : World) (hr0 : Kd.C (Kd.int .i64) w A0 l0.length l0) (hc0 : l0.length ≤ c0) (h : spec_l2Least.f k l0 a1 = some r) :
  Calls Try.prog 134 #[.slice A0 l0.length c0, .int .i64 a1] w fun e w' => e = .returned (.int .i64 r) ∧ Below w.heap.size w w' := by
 have HR0 := Asd.mk hr0
 have HC0 := Asd.mk hc0
 clear hr0 hc0
 have HB := Asd.mk (Below.refl w.heap.size w)
 have H : (spec_l2Least.l0 k l0 a1 10 0) = some r := h
 clear h
 have H' := Asd.mk H
 clear H
 go_enter Try.func134, Try.ntmps134
 go_wp2
 go_loopg [5, 6] k (fun kq v5 v6 w' => ∃ (x5_1 : Int) (x6_1 : Int), v5 = .int .i64 x5_1 ∧ v6 = .int .i64 x6_1 ∧ Asd (spec_l2Least.l0 kq l0 a1 x5_1 x6_1 = some r) ∧ Asd (kq ≤ k) ∧ Asd (Below w.heap.size w w'))
 case atStart => exact ⟨(10), (0), (by first | rfl | (simp; done) | (simp [*]; done)), (by first | rfl | (simp; done) | (simp [*]; done)), H', ⟨Nat.le_refl _⟩, ⟨wZ HB⟩⟩
 case round =>
  clear H'
  obtain ⟨x5_1, x6_1, rfl, rfl, HA, HK1, HB⟩ := hrel
  cases gk with
  | zero => exact absurd HA.out (by simp [spec_l2Least.l0])
  | succ k1 =>
   have H := HA.out
   clear HA
   simp only [spec_l2Least.l0] at H
   by_cases c3 : x6_1 < (l0.length : Int)
   ·rw [if_pos c3] at H
    have c3b0 : decide (x6_1 < (l0.length : Int)) = true := decide_eq_true c3
    clear c3
    replace H := Option.bind_eq_some_iff.mp H
    obtain ⟨t241, A40, H⟩ := H
    try dsimp only at H
    have A4 := Asd.mk A40
    clear A40
    by_cases c5 : t241 = 1
    ·rw [if_pos c5] at H
     have c5b0 : (t241 == 1) = true := beq_iff_eq.mpr c5
     have c5b1 : (t241 != 1) = false := bne_eq_false_iff_eq.mpr c5
     clear c5
     by_cases c6 : 0 ≤ x6_1; rotate_left; (rw [if_neg c6] at H; exact absurd H (by simp))
     rw [if_pos c6] at H
     have c6b0 : decide (0 ≤ x6_1) = true := decide_eq_true c6
     clear c6
     obtain ⟨ji7, hji7⟩ : ∃ j_ : Int, (mn x5_1 (rd l0 x6_1)) = j_ := ⟨_, rfl⟩
     replace H : (spec_l2Least.l0 k1 l0 a1 ji7 (wrap64 (x6_1 + 1))) = some r := by first | (rw [hji7] at H; exact H) | (simp only [hji7] at H ⊢; exact H)
     (try rw [hji7] at A4)
     have hji7_ : (if (rd l0 x6_1) < x5_1 then (rd l0 x6_1) else x5_1) = ji7 := hji7
     have H' := Asd.mk H
     clear H
     go_wp2_with (first | ((with_reducible refine gate_callee (f := 146) rfl ?_); refine gsM (some 17) rfl rfl Try.func146 (by kernel_rfl) rfl #[.int .i64 a1, .int .i64 x6_1] rfl ?_; (with_reducible refine (spec_l1Bit.calls a1 x6_1 t241 _ A4.out).mono ?_); rintro e w' ⟨rfl, ⟨nd, rfl⟩⟩; refine ⟨_, rfl, ?_⟩; have p242 : 0 ≤ (x6_1 : Int) := odt; have q242 : x6_1 < (l0.length : Int) := odt; obtain ⟨ad242, e242, hx242_0⟩ := Kd.at_int HR0.out x6_1 p242 q242; cases e242; replace hx242_0 := (HB.out.cell (World.block_lt_of_cell? w _ hx242_0)).trans hx242_0; replace p242 := eq_true p242; replace q242 := eq_true q242))
     go_roundg k1
     case measure => have := HK1.out; omega
     case rel => exact ⟨(ji7), (wrap64 (x6_1 + 1)), (by first | rfl | (simp; done) | (simp only [← hji7] <;> (first | rfl | simp)) | (simp [*]; done)), (by first | rfl | (simp; done) | (simp [*]; done)), H', ⟨by have := HK1.out; omega⟩, ⟨wZ HB⟩⟩
    ·rw [if_neg c5] at H
     have c5b0 : (t241 == 1) = false := beq_eq_false_iff_ne.mpr c5
     have c5b1 : (t241 != 1) = true := bne_iff_ne.mpr c5
     have H' := Asd.mk H
     clear H
     go_wp2_with (first | ((with_reducible refine gate_callee (f := 146) rfl ?_); refine gsM (some 17) rfl rfl Try.func146 (by kernel_rfl) rfl #[.int .i64 a1, .int .i64 x6_1] rfl ?_; (with_reducible refine (spec_l1Bit.calls a1 x6_1 t241 _ A4.out).mono ?_); rintro e w' ⟨rfl, ⟨nd, rfl⟩⟩; refine ⟨_, rfl, ?_⟩))
     go_roundg k1
     case measure => have := HK1.out; omega
     case rel => exact ⟨(x5_1), (wrap64 (x6_1 + 1)), (by first | rfl | (simp; done) | (simp [*]; done)), (by first | rfl | (simp; done) | (simp [*]; done)), H', ⟨by have := HK1.out; omega⟩, ⟨wZ HB⟩⟩
   ·rw [if_neg c3] at H
    have c3b0 : decide (x6_1 < (l0.length : Int)) = false := decide_eq_false c3
    clear c3
    have H' := Asd.mk H
    clear H
    go_wp2
    go_loopg [7, 8] k1 (fun kq v7 v8 w' => ∃ (x7_2 : Int) (x8_2 : Int), v7 = .int .i64 x7_2 ∧ v8 = .int .i64 x8_2 ∧ Asd (spec_l2Least.l1 kq l0 a1 x5_1 x7_2 x8_2 = some r) ∧ Asd (kq ≤ k1) ∧ Asd (Below w.heap.size w w'))
    case atStart => exact ⟨(0), (0), (by first | rfl | (simp; done) | (simp [*]; done)), (by first | rfl | (simp; done) | (simp [*]; done)), H', ⟨Nat.le_refl _⟩, ⟨wZ HB⟩⟩
    case round =>
     clear H'
     obtain ⟨x7_2, x8_2, rfl, rfl, HA, HK2, HB⟩ := hrel
     cases gk with
     | zero => exact absurd HA.out (by simp [spec_l2Least.l1])
     | succ k2 =>
      have H := HA.out
      clear HA
      simp only [spec_l2Least.l1] at H
      by_cases c8 : x8_2 < (l0.length : Int)
      ·rw [if_pos c8] at H
       have c8b0 : decide (x8_2 < (l0.length : Int)) = true := decide_eq_true c8
       clear c8
       replace H := Option.bind_eq_some_iff.mp H
       obtain ⟨t243, A90, H⟩ := H
       try dsimp only at H
       have A9 := Asd.mk A90
       clear A90
       by_cases c10 : t243 = 1
       ·rw [if_pos c10] at H
        have c10b0 : (t243 == 1) = true := beq_iff_eq.mpr c10
        have c10b1 : (t243 != 1) = false := bne_eq_false_iff_eq.mpr c10
        clear c10
        by_cases c11 : 0 ≤ x8_2; rotate_left; (rw [if_neg c11] at H; exact absurd H (by simp))
        rw [if_pos c11] at H
        have c11b0 : decide (0 ≤ x8_2) = true := decide_eq_true c11
        clear c11
        by_cases c12 : (rd l0 x8_2) = x5_1
        ·rw [if_pos c12] at H
         have c12b0 : ((rd l0 x8_2) == x5_1) = true := beq_iff_eq.mpr c12
         have c12b1 : ((rd l0 x8_2) != x5_1) = false := bne_eq_false_iff_eq.mpr c12
         clear c12
         have c13b0 := eq_true (odt : 0 ≤ x8_2)
         obtain ⟨ji14, hji14⟩ : ∃ j_ : Int, (shl .i64 1 x8_2) = j_ := ⟨_, rfl⟩
         replace H : (spec_l2Least.l1 k2 l0 a1 x5_1 (wrap64 (x7_2 + (ji14))) (wrap64 (x8_2 + 1))) = some r := by first | (rw [hji14] at H; exact H) | (simp only [hji14] at H ⊢; exact H)
         (try rw [hji14] at A9)
         have hji14_ : (IntKind.i64.wrap (1 * 2 ^ min x8_2.toNat 64)) = ji14 := hji14
         have hji14z : x8_2 ≤ 64 → (IntKind.i64.wrap (1 * 2 ^ x8_2.toNat)) = ji14 := shl_small hji14
         have hji14u : (IntKind.i64.wrap (2 ^ min x8_2.toNat 64)) = ji14 := by have h_ := hji14_; rw [Int.one_mul] at h_; exact h_
         have hji14v : x8_2 ≤ 64 → (IntKind.i64.wrap (2 ^ x8_2.toNat)) = ji14 := fun hle_ => by have h_ := hji14z hle_; rw [Int.one_mul] at h_; exact h_
         have hji14y : (wrap64 (1 * 2 ^ min x8_2.toNat 64)) = ji14 := (i64_w _).symm.trans hji14_
         have hji14x : x8_2 ≤ 64 → (wrap64 (1 * 2 ^ x8_2.toNat)) = ji14 := fun h_ => (i64_w _).symm.trans (hji14z h_)
         have H' := Asd.mk H
         clear H
         go_wp2_with (first | ((with_reducible refine gate_callee (f := 146) rfl ?_); refine gsM (some 33) rfl rfl Try.func146 (by kernel_rfl) rfl #[.int .i64 a1, .int .i64 x8_2] rfl ?_; (with_reducible refine (spec_l1Bit.calls a1 x8_2 t243 _ A9.out).mono ?_); rintro e w' ⟨rfl, ⟨nd, rfl⟩⟩; refine ⟨_, rfl, ?_⟩; have p244 : 0 ≤ (x8_2 : Int) := odt; have q244 : x8_2 < (l0.length : Int) := odt; obtain ⟨ad244, e244, hx244_0⟩ := Kd.at_int HR0.out x8_2 p244 q244; cases e244; replace hx244_0 := (HB.out.cell (World.block_lt_of_cell? w _ hx244_0)).trans hx244_0; replace p244 := eq_true p244; replace q244 := eq_true q244))
         go_roundg k2
         case measure => have := HK1.out; have := HK2.out; omega
         case rel => exact ⟨(wrap64 (x7_2 + (ji14))), (wrap64 (x8_2 + 1)), (by first | rfl | (simp; done) | (simp only [← hji14] <;> (first | rfl | simp)) | (simp [*]; done)), (by first | rfl | (simp; done) | (simp [*]; done)), H', ⟨by have := HK1.out; have := HK2.out; omega⟩, ⟨wZ HB⟩⟩
        ·rw [if_neg c12] at H
         have c12b0 : ((rd l0 x8_2) == x5_1) = false := beq_eq_false_iff_ne.mpr c12
         have c12b1 : ((rd l0 x8_2) != x5_1) = true := bne_iff_ne.mpr c12
         have H' := Asd.mk H
         clear H
         go_wp2_with (first | ((with_reducible refine gate_callee (f := 146) rfl ?_); refine gsM (some 33) rfl rfl Try.func146 (by kernel_rfl) rfl #[.int .i64 a1, .int .i64 x8_2] rfl ?_; (with_reducible refine (spec_l1Bit.calls a1 x8_2 t243 _ A9.out).mono ?_); rintro e w' ⟨rfl, ⟨nd, rfl⟩⟩; refine ⟨_, rfl, ?_⟩; have p244 : 0 ≤ (x8_2 : Int) := odt; have q244 : x8_2 < (l0.length : Int) := odt; obtain ⟨ad244, e244, hx244_0⟩ := Kd.at_int HR0.out x8_2 p244 q244; cases e244; replace hx244_0 := (HB.out.cell (World.block_lt_of_cell? w _ hx244_0)).trans hx244_0; replace p244 := eq_true p244; replace q244 := eq_true q244))
         go_roundg k2
         case measure => have := HK1.out; have := HK2.out; omega
         case rel => exact ⟨(x7_2), (wrap64 (x8_2 + 1)), (by first | rfl | (simp; done) | (simp [*]; done)), (by first | rfl | (simp; done) | (simp [*]; done)), H', ⟨by have := HK1.out; have := HK2.out; omega⟩, ⟨wZ HB⟩⟩
       ·rw [if_neg c10] at H
        have c10b0 : (t243 == 1) = false := beq_eq_false_iff_ne.mpr c10
        have c10b1 : (t243 != 1) = true := bne_iff_ne.mpr c10
        have H' := Asd.mk H
        clear H
        go_wp2_with (first | ((with_reducible refine gate_callee (f := 146) rfl ?_); refine gsM (some 33) rfl rfl Try.func146 (by kernel_rfl) rfl #[.int .i64 a1, .int .i64 x8_2] rfl ?_; (with_reducible refine (spec_l1Bit.calls a1 x8_2 t243 _ A9.out).mono ?_); rintro e w' ⟨rfl, ⟨nd, rfl⟩⟩; refine ⟨_, rfl, ?_⟩))
        go_roundg k2
        case measure => have := HK1.out; have := HK2.out; omega
        case rel => exact ⟨(x7_2), (wrap64 (x8_2 + 1)), (by first | rfl | (simp; done) | (simp [*]; done)), (by first | rfl | (simp; done) | (simp [*]; done)), H', ⟨by have := HK1.out; have := HK2.out; omega⟩, ⟨wZ HB⟩⟩
      ·rw [if_neg c8] at H
       have c8b0 : decide (x8_2 < (l0.length : Int)) = false := decide_eq_false c8
       clear c8
       obtain rfl := Option.some.inj H
       go_wp2
       go_ret
       exact ⟨by first | rfl | (simp [*, errW_none, errW_some] <;> rfl), wZ HB⟩

/-! ### spec_ChangedBy: function 108 -/
def spec_ChangedBy.j0 : Nat → List Int → Int → Int → Bool → Option (List Int × Bool)
 | 0, _, _, _, _ => none
 | k + 1, x1, x2, x3, x28 => if x28 = true then (some ((([] : List Int)), false)) else (if x2 = 0 then ((spec_l2Least.f k x1 x3).bind fun t251 => ((spec_l6Rise.f k x1 t251).bind fun t252 => (some (t252, true)))) else ((spec_l6Rise.f k x1 x3).bind fun t255 => (some (t255, true))))
def spec_ChangedBy.f (k : Nat) (a0 : Int) (l1 : List Int) (a2 : Int) (a3 : Int) : Option (List Int × Bool) := (spec_RankOk.f k a0 l1).bind fun t245 => (if t245 = true then ((spec_SetOk.f a0 a3).bind fun t246 => (if t246 = true then (if a3 = 0 then (spec_ChangedBy.j0 k l1 a2 a3 true) else ((spec_l1In.f a2 0 1).bind fun t247 => (spec_ChangedBy.j0 k l1 a2 a3 (!t247)))) else (spec_ChangedBy.j0 k l1 a2 a3 true))) else (spec_ChangedBy.j0 k l1 a2 a3 true))
theorem spec_ChangedBy.mono_l : ∀ k, (∀ y0 y1 y2 y3, LeO (spec_ChangedBy.j0 k y0 y1 y2 y3) (spec_ChangedBy.j0 (k + 1) y0 y1 y2 y3))
 | 0 => fun _ _ _ _ r h => by simp [spec_ChangedBy.j0] at h
 | k + 1 => by
  have ih0 := spec_ChangedBy.mono_l k
  ·intro y0 y1 y2 y3
   unfold spec_ChangedBy.j0
   repeat' first
   | (with_reducible first | exact ih0 _ _ _ _ | exact spec_RankOk.mono _ _ _ | exact spec_l2Least.mono _ _ _ | exact spec_l6Rise.mono _ _ _ | exact LeO.refl _ | exact LeO.none _ | refine LeO.ite ?_ ?_ | refine LeO.bind ?_ (fun _ => ?_))
   | refine LeO.ite ?_ ?_
   | refine LeO.bind ?_ (fun _ => ?_)
theorem spec_ChangedBy.mono : ∀ a0 a1 a2 a3 k, LeO (spec_ChangedBy.f k a0 a1 a2 a3) (spec_ChangedBy.f (k + 1) a0 a1 a2 a3) := by
 intro a0 a1 a2 a3 k
 have ih0 := spec_ChangedBy.mono_l k
 unfold spec_ChangedBy.f
 repeat' first
   | (with_reducible first | exact ih0 _ _ _ _ | exact spec_RankOk.mono _ _ _ | exact spec_l2Least.mono _ _ _ | exact spec_l6Rise.mono _ _ _ | exact LeO.refl _ | exact LeO.none _ | refine LeO.ite ?_ ?_ | refine LeO.bind ?_ (fun _ => ?_))
   | refine LeO.ite ?_ ?_
   | refine LeO.bind ?_ (fun _ => ?_)
set_option maxHeartbeats 8000000 in
set_option maxRecDepth 100000 in
theorem spec_ChangedBy.calls (k : Nat) (a0 : Int) (A1 : Option Addr) (c1 : Nat) (l1 : List Int) (a2 : Int) (a3 : Int) (r1 : List Int) (r2 : Bool) (w : World) (hr1 : Kd.C (Kd.int .i64) w A1 l1.length l1) (hc1 : l1.length ≤ c1) (h : spec_ChangedBy.f k a0 l1 a2 a3 = some (r1, r2)) :
  Calls Try.prog 108 #[.int .i64 a0, .slice A1 l1.length c1, .int .i64 a2, .int .i64 a3] w fun e w' => ∃ v0_ : Value, e = .returned (.tuple #[v0_, .bool r2]) ∧ Kd.R (Kd.int .i64) 3 w' w.heap.size (fun _ => True) v0_ r1 ∧ Below w.heap.size w w' := by
 have HR1 := Asd.mk hr1
 have HC1 := Asd.mk hc1
 clear hr1 hc1
 have HB := Asd.mk (Below.refl w.heap.size w)
 have H : ((spec_RankOk.f k a0 l1).bind fun t245 => (if t245 = true then ((spec_SetOk.f a0 a3).bind fun t246 => (if t246 = true then (if a3 = 0 then (spec_ChangedBy.j0 k l1 a2 a3 true) else ((spec_l1In.f a2 0 1).bind fun t247 => (spec_ChangedBy.j0 k l1 a2 a3 (!t247)))) else (spec_ChangedBy.j0 k l1 a2 a3 true))) else (spec_ChangedBy.j0 k l1 a2 a3 true))) = some (r1, r2) := h
 clear h
 have HC5 := Asd.mk H
 clear H
 go_enter Try.func108, Try.ntmps108
 go_upto_region 1 with (fail)
 go_cut [28] (fun v28 wc => ∃ (kq : Nat) (x28_4 : Bool), v28 = .bool x28_4 ∧ Asd (spec_ChangedBy.j0 kq l1 a2 a3 x28_4 = some (r1, r2)) ∧ Asd (kq ≤ k) ∧ Asd (Below w.heap.size w wc))
 case first =>
  have H := HC5.out
  clear HC5
  replace H := Option.bind_eq_some_iff.mp H
  obtain ⟨t245, A60, H⟩ := H
  try dsimp only at H
  have A6 := Asd.mk A60
  clear A60
  by_cases c7 : t245 = true
  ·subst c7
   rw [if_pos rfl] at H
   replace H := Option.bind_eq_some_iff.mp H
   obtain ⟨t246, A80, H⟩ := H
   try dsimp only at H
   have A8 := Asd.mk A80
   clear A80
   by_cases c9 : t246 = true
   ·subst c9
    rw [if_pos rfl] at H
    by_cases c10 : a3 = 0
    ·rw [if_pos c10] at H
     have c10b0 : (a3 == 0) = true := beq_iff_eq.mpr c10
     have c10b1 : (a3 != 0) = false := bne_eq_false_iff_eq.mpr c10
     clear c10
     (first | rw [c10b0] | (simp only [i64_w, i32_w]; rw [c10b0]) | skip)
     have H' := Asd.mk H
     clear H
     go_wp2_with (first | ((with_reducible refine gate_callee (f := 59) rfl ?_); refine gsM (some 12) rfl rfl Try.func59 (by kernel_rfl) rfl #[.int .i64 a0, .slice A1 l1.length c1] rfl ?_; (with_reducible refine (spec_RankOk.calls k a0 _ _ l1 true _ ?side1 ?side2 A6.out).mono ?_); (case side1 => exact cZ (Kd.C_below HR1.out HB.out)); (case side2 => exact HC1.out); rintro e w11 ⟨rfl, hb⟩; refine ⟨_, rfl, ?_⟩; replace HB := bW HB hb; (try clear hb); (try clear hb2); (try clear hk); (try clear hi)) | (go_at_call 132; (with_reducible refine (spec_SetOk.calls a0 a3 true _ A8.out).mono ?_); rintro e w' ⟨rfl, ⟨nd, rfl⟩⟩))
     go_meet
     case rel => exact ⟨_, (true), (by first | rfl | (simp; done) | (simp [*]; done)), H', ⟨by first | omega | exact Nat.le_refl _⟩, ⟨wZ HB⟩⟩
    ·rw [if_neg c10] at H
     have c10b0 : (a3 == 0) = false := beq_eq_false_iff_ne.mpr c10
     have c10b1 : (a3 != 0) = true := bne_iff_ne.mpr c10
     (first | rw [c10b0] | (simp only [i64_w, i32_w]; rw [c10b0]) | skip)
     replace H := Option.bind_eq_some_iff.mp H
     obtain ⟨t247, A120, H⟩ := H
     try dsimp only at H
     have A12 := Asd.mk A120
     clear A120
     have H' := Asd.mk H
     clear H
     go_wp2_with (first | ((with_reducible refine gate_callee (f := 59) rfl ?_); refine gsM (some 12) rfl rfl Try.func59 (by kernel_rfl) rfl #[.int .i64 a0, .slice A1 l1.length c1] rfl ?_; (with_reducible refine (spec_RankOk.calls k a0 _ _ l1 true _ ?side1 ?side2 A6.out).mono ?_); (case side1 => exact cZ (Kd.C_below HR1.out HB.out)); (case side2 => exact HC1.out); rintro e w13 ⟨rfl, hb⟩; refine ⟨_, rfl, ?_⟩; replace HB := bW HB hb; (try clear hb); (try clear hb2); (try clear hk); (try clear hi)) | (go_at_call 132; (with_reducible refine (spec_SetOk.calls a0 a3 true _ A8.out).mono ?_); rintro e w' ⟨rfl, ⟨nd, rfl⟩⟩) | (go_at_call 72; (with_reducible refine (spec_l1In.calls a2 0 1 t247 _ A12.out).mono ?_); rintro e w' ⟨rfl, ⟨nd, rfl⟩⟩))
     go_meet
     case rel => exact ⟨_, (!t247), (by first | rfl | (simp; done) | (simp [*]; done)), H', ⟨by first | omega | exact Nat.le_refl _⟩, ⟨wZ HB⟩⟩
   ·replace c9 := Bool.eq_false_iff.mpr c9
    subst c9
    rw [if_neg (show ¬ (false = true) by decide)] at H
    have H' := Asd.mk H
    clear H
    go_wp2_with (first | ((with_reducible refine gate_callee (f := 59) rfl ?_); refine gsM (some 12) rfl rfl Try.func59 (by kernel_rfl) rfl #[.int .i64 a0, .slice A1 l1.length c1] rfl ?_; (with_reducible refine (spec_RankOk.calls k a0 _ _ l1 true _ ?side1 ?side2 A6.out).mono ?_); (case side1 => exact cZ (Kd.C_below HR1.out HB.out)); (case side2 => exact HC1.out); rintro e w14 ⟨rfl, hb⟩; refine ⟨_, rfl, ?_⟩; replace HB := bW HB hb; (try clear hb); (try clear hb2); (try clear hk); (try clear hi)) | (go_at_call 132; (with_reducible refine (spec_SetOk.calls a0 a3 false _ A8.out).mono ?_); rintro e w' ⟨rfl, ⟨nd, rfl⟩⟩))
    go_meet
    case rel => exact ⟨_, (true), (by first | rfl | (simp; done) | (simp [*]; done)), H', ⟨by first | omega | exact Nat.le_refl _⟩, ⟨wZ HB⟩⟩
  ·replace c7 := Bool.eq_false_iff.mpr c7
   subst c7
   rw [if_neg (show ¬ (false = true) by decide)] at H
   have H' := Asd.mk H
   clear H
   go_wp2_with (first | ((with_reducible refine gate_callee (f := 59) rfl ?_); refine gsM (some 12) rfl rfl Try.func59 (by kernel_rfl) rfl #[.int .i64 a0, .slice A1 l1.length c1] rfl ?_; (with_reducible refine (spec_RankOk.calls k a0 _ _ l1 false _ ?side1 ?side2 A6.out).mono ?_); (case side1 => exact cZ (Kd.C_below HR1.out HB.out)); (case side2 => exact HC1.out); rintro e w15 ⟨rfl, hb⟩; refine ⟨_, rfl, ?_⟩; replace HB := bW HB hb; (try clear hb); (try clear hb2); (try clear hk); (try clear hi)))
   go_meet
   case rel => exact ⟨_, (true), (by first | rfl | (simp; done) | (simp [*]; done)), H', ⟨by first | omega | exact Nat.le_refl _⟩, ⟨wZ HB⟩⟩
 case rest =>
  clear HC5
  obtain ⟨kq, x28_4, rfl, HA, HJ4, HB⟩ := hcut
  cases kq with
  | zero => exact absurd HA.out (by simp [spec_ChangedBy.j0])
  | succ kj4 =>
   have H := HA.out
   clear HA
   simp only [spec_ChangedBy.j0] at H
   by_cases c16 : x28_4 = true
   ·subst c16
    rw [if_pos rfl] at H
    obtain ⟨y248, hy248⟩ : ∃ y_ : List Int, y_ = (([] : List Int)) := ⟨_, rfl⟩
    replace H : (some (y248, false)) = some (r1, r2) := by first | (rw [hy248]; with_reducible exact H) | (have H2_ := (Option.bind_some _ _).symm.trans H; rw [hy248]; with_reducible exact H2_) | (have H2_ := (Option.bind_some _ _).symm.trans H; with_reducible exact H2_) | with_reducible exact H | (rw [hy248]; exact H) | exact H
    have Ny248 := Asd.mk hy248
    clear hy248
    simp only [Option.some.injEq, Prod.mk.injEq] at H
    obtain ⟨rfl, rfl⟩ := H
    go_wp2_with (first | ((with_reducible refine gate_dst (N := 29) rfl ?_); refine Kd.R_lit (Kd.int .i64) _ 3 ?hg (N := 29) ?hd (xs := ([] : List Int)) (inner := []) (ok := fun _ => True) (okp := fun _ => True) ?hr ?hp (fun _ hk => hk) trivial (Below.refl _ _) (Nat.le_refl _) (by simp) ?_; (case hd => rfl); (case hg => rfl); (case hr => first | (go_simp; done) | (go_simp; rfl)); (case hp => exact (Reps.none _ _)); intro v249 w17 ho18 hb hg_ hnew_; clear hg_ hnew_; (first | rw [← Ny248.out] at ho18 | (simp only [Int.reduceToNat] at ho18; rw [← Ny248.out] at ho18)); have HO250 := Asd.mk (Kd.R_lower ho18 (below_size (wZ HB))); replace HB := bW HB hb; clear hb ho18))
    go_ret2
    exact ⟨_, by first | rfl | (simp [*, errW_none, errW_some] <;> rfl), by (repeat apply Kd.RS); exact HO250.out, wZ HB⟩
   ·replace c16 := Bool.eq_false_iff.mpr c16
    subst c16
    rw [if_neg (show ¬ (false = true) by decide)] at H
    by_cases c19 : a2 = 0
    ·rw [if_pos c19] at H
     have c19b0 : (a2 == 0) = true := beq_iff_eq.mpr c19
     have c19b1 : (a2 != 0) = false := bne_eq_false_iff_eq.mpr c19
     clear c19
     replace H := Option.bind_eq_some_iff.mp H
     obtain ⟨t251, A200, H⟩ := H
     try dsimp only at H
     have A20 := Asd.mk A200
     clear A200
     replace H := Option.bind_eq_some_iff.mp H
     obtain ⟨t252, A210, H⟩ := H
     try dsimp only at H
     have A21 := Asd.mk A210
     clear A210
     simp only [Option.some.injEq, Prod.mk.injEq] at H
     obtain ⟨rfl, rfl⟩ := H
     go_wp2_with (first | ((with_reducible refine gate_callee (f := 134) rfl ?_); refine gsM (some 35) rfl rfl Try.func134 (by kernel_rfl) rfl #[.slice A1 l1.length c1, .int .i64 a3] rfl ?_; (with_reducible refine (spec_l2Least.calls kj4 _ _ l1 a3 t251 _ ?side1 ?side2 A20.out).mono ?_); (case side1 => exact cZ (Kd.C_below HR1.out HB.out)); (case side2 => exact HC1.out); rintro e w22 ⟨rfl, hb⟩; refine ⟨_, rfl, ?_⟩; replace HB := bW HB hb; (try clear hb); (try clear hb2); (try clear hk); (try clear hi)) | ((with_reducible refine gate_callee (f := 133) rfl ?_); refine gsM (some 36) rfl rfl Try.func133 (by kernel_rfl) rfl #[.slice A1 l1.length c1, .int .i64 t251] rfl ?_; (with_reducible refine (spec_l6Rise.calls kj4 _ _ l1 t251 t252 _ ?side1 ?side2 A21.out).mono ?_); (case side1 => exact cZ (Kd.C_below HR1.out HB.out)); (case side2 => exact HC1.out); rintro e w23 ⟨v253, rfl, ho0, hb⟩; refine ⟨_, rfl, ?_⟩; have HO254 := Asd.mk (Kd.R_lower ho0 (below_size (wZ HB))); replace HB := bW HB hb; (try clear hb); (try clear hb2); (try clear hk); (try clear hi); (try clear ho0)))
     go_ret2
     exact ⟨_, by first | rfl | (simp [*, errW_none, errW_some] <;> rfl), by (repeat apply Kd.RS); exact HO254.out, wZ HB⟩
    ·rw [if_neg c19] at H
     have c19b0 : (a2 == 0) = false := beq_eq_false_iff_ne.mpr c19
     have c19b1 : (a2 != 0) = true := bne_iff_ne.mpr c19
     replace H := Option.bind_eq_some_iff.mp H
     obtain ⟨t255, A240, H⟩ := H
     try dsimp only at H
     have A24 := Asd.mk A240
     clear A240
     simp only [Option.some.injEq, Prod.mk.injEq] at H
     obtain ⟨rfl, rfl⟩ := H
     go_wp2_with (first | ((with_reducible refine gate_callee (f := 133) rfl ?_); refine gsM (some 39) rfl rfl Try.func133 (by kernel_rfl) rfl #[.slice A1 l1.length c1, .int .i64 a3] rfl ?_; (with_reducible refine (spec_l6Rise.calls kj4 _ _ l1 a3 t255 _ ?side1 ?side2 A24.out).mono ?_); (case side1 => exact cZ (Kd.C_below HR1.out HB.out)); (case side2 => exact HC1.out); rintro e w25 ⟨v256, rfl, ho0, hb⟩; refine ⟨_, rfl, ?_⟩; have HO257 := Asd.mk (Kd.R_lower ho0 (below_size (wZ HB))); replace HB := bW HB hb; (try clear hb); (try clear hb2); (try clear hk); (try clear hi); (try clear ho0)))
     go_ret2
     exact ⟨_, by first | rfl | (simp [*, errW_none, errW_some] <;> rfl), by (repeat apply Kd.RS); exact HO257.out, wZ HB⟩

end Go.Proofs.Ytihgpkohglcijaa.P
