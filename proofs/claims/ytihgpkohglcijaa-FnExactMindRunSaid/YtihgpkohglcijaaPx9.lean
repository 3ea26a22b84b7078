-- Written by a program of this session (wip/hook.py), which runs the kit's printer; Lean checks it.
import Derived.Test.YtihgpkohglcijaaPx0
import Derived.Test.YtihgpkohglcijaaPx5
import Derived.Test.YtihgpkohglcijaaPx8
namespace Go.Proofs.Ytihgpkohglcijaa.P
open Go.RowKit Go.Proofs.YtihgpkohglcijaaW.PrintWords Go.Proofs.YtihgpkohglcijaaW.PrintLast Go.Proofs.YtihgpkohglcijaaW.PrintMore
attribute [local go_sem] max2_int min2_int max_two min_two max_three min_three max_four min_four   -- for this text's walks alone
set_option linter.unusedVariables false
set_option linter.unusedSimpArgs false

/-! ### impl_changedBy: function 135 -/
mutual
def impl_changedBy.j0 : Nat → List Int → Int → Option (List Int)
 | 0, _, _ => none
 | k + 1, x1, x9 => impl_changedBy.l0 k x9 (([] : List Int)) x1 (x1.length : Int) 0
def impl_changedBy.l0 : Nat → Int → List Int → List Int → Int → Int → Option (List Int)
 | 0, _, _, _, _, _ => none
 | k + 1, x9, x10, x21, x22, x23 => if x23 < x22 then (if 0 ≤ x23 then (if x23 < (x21.length : Int) then (if (Go.bits .and .i64 (shr .i64 x9 x23) 1) = 0 then (if x10.length < 17592186044416 then (impl_changedBy.l0 k x9 (x10 ++ [wrap64 ((rd x21 x23) + 10)]) x21 x22 (wrap64 (x23 + 1))) else (none)) else (if x10.length < 17592186044416 then (impl_changedBy.l0 k x9 (x10 ++ [rd x21 x23]) x21 x22 (wrap64 (x23 + 1))) else (none))) else (none)) else (none)) else ((impl_tidy.f k x10).bind fun t250 => (some t250))
end
def impl_changedBy.f (k : Nat) (a0 : Int) (l1 : List Int) (a2 : Int) (a3 : Int) : Option (List Int) := if a2 = 0 then ((impl_revisedBy.f k a0 l1 a3).bind fun t239 => (impl_changedBy.j0 k l1 t239)) else (impl_changedBy.j0 k l1 a3)
theorem impl_changedBy.mono_l : ∀ k, (∀ y0 y1, LeO (impl_changedBy.j0 k y0 y1) (impl_changedBy.j0 (k + 1) y0 y1)) ∧ (∀ y0 y1 y2 y3 y4, LeO (impl_changedBy.l0 k y0 y1 y2 y3 y4) (impl_changedBy.l0 (k + 1) y0 y1 y2 y3 y4))
 | 0 => ⟨fun _ _ r h => by simp [impl_changedBy.j0] at h, fun _ _ _ _ _ r h => by simp [impl_changedBy.l0] at h⟩
 | k + 1 => by
  obtain ⟨ih0, ih1⟩ := impl_changedBy.mono_l k
  refine ⟨?_, ?_⟩
  ·intro y0 y1
   unfold impl_changedBy.j0
   repeat' first
   | (with_reducible first | exact ih0 _ _ | exact ih1 _ _ _ _ _ | exact impl_revisedBy.mono _ _ _ _ | exact impl_tidy.mono _ _ | exact LeO.refl _ | exact LeO.none _ | refine LeO.ite ?_ ?_ | refine LeO.bind ?_ (fun _ => ?_))
   | refine LeO.ite ?_ ?_
   | refine LeO.bind ?_ (fun _ => ?_)
  ·intro y0 y1 y2 y3 y4
   unfold impl_changedBy.l0
   repeat' first
   | (with_reducible first | exact ih0 _ _ | exact ih1 _ _ _ _ _ | exact impl_revisedBy.mono _ _ _ _ | exact impl_tidy.mono _ _ | exact LeO.refl _ | exact LeO.none _ | refine LeO.ite ?_ ?_ | refine LeO.bind ?_ (fun _ => ?_))
   | refine LeO.ite ?_ ?_
   | refine LeO.bind ?_ (fun _ => ?_)
theorem impl_changedBy.mono : ∀ a0 a1 a2 a3 k, LeO (impl_changedBy.f k a0 a1 a2 a3) (impl_changedBy.f (k + 1) a0 a1 a2 a3) := by
 intro a0 a1 a2 a3 k
 obtain ⟨ih0, ih1⟩ := impl_changedBy.mono_l k
 unfold impl_changedBy.f
 repeat' first
   | (with_reducible first | exact ih0 _ _ | exact ih1 _ _ _ _ _ | exact impl_revisedBy.mono _ _ _ _ | exact impl_tidy.mono _ _ | exact LeO.refl _ | exact LeO.none _ | refine LeO.ite ?_ ?_ | refine LeO.bind ?_ (fun _ => ?_))
   | refine LeO.ite ?_ ?_
   | refine LeO.bind ?_ (fun _ => ?_)
set_option maxHeartbeats 8000000 in
set_option maxRecDepth 100000 in
theorem impl_changedBy.calls (k : Nat) (a0 : Int) (A1 : Option Addr) (c1 : Nat) (l1 : List Int) (a2 : Int) (a3 : Int) (r : List Int) (w : World) (hr1 : Kd.C (Kd.int .i64) w A1 l1.length l1) (hc1 : l1.length ≤ c1) (h : impl_changedBy.f k a0 l1 a2 a3 = some r) :
  Calls Try.prog 135 #[.int .i64 a0, .slice A1 l1.length c1, .int .i64 a2, .int .i64 a3] w fun e w' => ∃ v0_ : Value, e = .returned (v0_) ∧ Kd.R (Kd.int .i64) 3 w' w.heap.size (fun _ => True) v0_ r ∧ Below w.heap.size w w' := by
 have HR1 := Asd.mk hr1
 have HC1 := Asd.mk hc1
 clear hr1 hc1
 have HB := Asd.mk (Below.refl w.heap.size w)
 have H : (if a2 = 0 then ((impl_revisedBy.f k a0 l1 a3).bind fun t239 => (impl_changedBy.j0 k l1 t239)) else (impl_changedBy.j0 k l1 a3)) = some r := h
 clear h
 have HC5 := Asd.mk H
 clear H
 go_enter Try.func135, Try.ntmps135
 go_upto_if 15 with (fail)
 go_cut [9] (fun v9 wc => ∃ (kq : Nat) (x9_4 : Int), v9 = .int .i64 x9_4 ∧ Asd (impl_changedBy.j0 kq l1 x9_4 = some r) ∧ Asd (kq ≤ k) ∧ Asd (Below w.heap.size w wc))
 case first =>
  have H := HC5.out
  clear HC5
  by_cases c6 : a2 = 0
  ·rw [if_pos c6] at H
   have c6b0 : (a2 == 0) = true := beq_iff_eq.mpr c6
   have c6b1 : (a2 != 0) = false := bne_eq_false_iff_eq.mpr c6
   clear c6
   (first | rw [c6b0] | (simp only [i64_w, i32_w]; rw [c6b0]) | skip)
   replace H := Option.bind_eq_some_iff.mp H
   obtain ⟨t239, A70, H⟩ := H
   try dsimp only at H
   have A7 := Asd.mk A70
   clear A70
   have H' := Asd.mk H
   clear H
   go_wp2_with (first | ((with_reducible refine gate_callee (f := 148) rfl ?_); refine gsM (some 19) rfl rfl Try.func148 (by kernel_rfl) rfl #[.int .i64 a0, .slice A1 l1.length c1, .int .i64 a3] rfl ?_; (with_reducible refine (impl_revisedBy.calls k a0 _ _ l1 a3 t239 _ ?side1 ?side2 A7.out).mono ?_); (case side1 => exact cZ (Kd.C_below HR1.out HB.out)); (case side2 => exact HC1.out); rintro e w8 ⟨rfl, hb⟩; refine ⟨_, rfl, ?_⟩; replace HB := bW HB hb; (try clear hb); (try clear hb2); (try clear hk); (try clear hi)))
   go_meet
   case rel => exact ⟨_, (t239), (by first | rfl | (simp; done) | (simp [*]; done)), H', ⟨by first | omega | exact Nat.le_refl _⟩, ⟨wZ HB⟩⟩
  ·rw [if_neg c6] at H
   have c6b0 : (a2 == 0) = false := beq_eq_false_iff_ne.mpr c6
   have c6b1 : (a2 != 0) = true := bne_iff_ne.mpr c6
   (first | rw [c6b0] | (simp only [i64_w, i32_w]; rw [c6b0]) | skip)
   have H' := Asd.mk H
   clear H
   go_wp2
   go_meet
   case rel => exact ⟨_, (a3), (by first | rfl | (simp; done) | (simp [*]; done)), H', ⟨by first | omega | exact Nat.le_refl _⟩, ⟨wZ HB⟩⟩
 case rest =>
  clear HC5
  obtain ⟨kq, x9_4, rfl, HA, HJ4, HB⟩ := hcut
  cases kq with
  | zero => exact absurd HA.out (by simp [impl_changedBy.j0])
  | succ kj4 =>
   have H := HA.out
   clear HA
   simp only [impl_changedBy.j0] at H
   obtain ⟨y240, hy240⟩ : ∃ y_ : List Int, y_ = (([] : List Int)) := ⟨_, rfl⟩
   replace H : (impl_changedBy.l0 kj4 x9_4 y240 l1 (l1.length : Int) 0) = some r := by first | (rw [hy240]; with_reducible exact H) | (have H2_ := (Option.bind_some _ _).symm.trans H; rw [hy240]; with_reducible exact H2_) | (have H2_ := (Option.bind_some _ _).symm.trans H; with_reducible exact H2_) | with_reducible exact H | (rw [hy240]; exact H) | exact H
   have Ny240 := Asd.mk hy240
   clear hy240
   have H' := Asd.mk H
   clear H
   go_wp2_with (first | ((with_reducible refine gate_dst (N := 20) rfl ?_); refine Kd.R_lit (Kd.int .i64) _ 3 ?hg (N := 20) ?hd (xs := ([] : List Int)) (inner := []) (ok := fun _ => True) (okp := fun _ => True) ?hr ?hp (fun _ hk => hk) trivial (Below.refl _ _) (Nat.le_refl _) (by simp) ?_; (case hd => rfl); (case hg => rfl); (case hr => first | (go_simp; done) | (go_simp; rfl)); (case hp => exact (Reps.none _ _)); intro v241 w9 ho10 hb hg_ hnew_; clear hg_ hnew_; (first | rw [← Ny240.out] at ho10 | (simp only [Int.reduceToNat] at ho10; rw [← Ny240.out] at ho10)); have HO242 := Asd.mk (Kd.R_lower ho10 (below_size (wZ HB))); replace HB := bW HB hb; clear hb ho10))
   go_loopg [10, 23] kj4 (fun kq v10 v23 w' => ∃ (x10_2 : List Int) (x23_2 : Int), v23 = .int .i64 x23_2 ∧ Asd (impl_changedBy.l0 kq x9_4 x10_2 l1 (l1.length : Int) x23_2 = some r) ∧ Asd (kq ≤ kj4) ∧ Asd (Kd.R (Kd.int .i64) 3 w' w.heap.size (fun _ => True) v10 x10_2) ∧ Asd (Below w.heap.size w w'))
   case atStart => exact ⟨(y240), (0), (by first | rfl | (simp; done) | (simp [*]; done)), H', ⟨Nat.le_refl _⟩, ⟨by (repeat apply Kd.RS); exact HO242.out⟩, ⟨wZ HB⟩⟩
   case round =>
    clear H'
    obtain ⟨x10_2, x23_2, rfl, HA, HK2, HO_10, HB⟩ := hrel
    cases gk with
    | zero => exact absurd HA.out (by simp [impl_changedBy.l0])
    | succ k2 =>
     have H := HA.out
     clear HA
     simp only [impl_changedBy.l0] at H
     by_cases c11 : x23_2 < (l1.length : Int)
     ·rw [if_pos c11] at H
      have c11b0 : decide (x23_2 < (l1.length : Int)) = true := decide_eq_true c11
      clear c11
      by_cases c12 : 0 ≤ x23_2; rotate_left; (rw [if_neg c12] at H; exact absurd H (by simp))
      rw [if_pos c12] at H
      have c12b0 : decide (0 ≤ x23_2) = true := decide_eq_true c12
      clear c12
      by_cases c13 : x23_2 < (l1.length : Int); rotate_left; (rw [if_neg c13] at H; exact absurd H (by simp))
      rw [if_pos c13] at H
      have c13b0 : decide (x23_2 < (l1.length : Int)) = true := decide_eq_true c13
      clear c13
      have c14b0 := eq_true (odt : 0 ≤ x23_2)
      obtain ⟨ji15, hji15⟩ : ∃ j_ : Int, (shr .i64 x9_4 x23_2) = j_ := ⟨_, rfl⟩
      replace H : (if (Go.bits .and .i64 (ji15) 1) = 0 then (if x10_2.length < 17592186044416 then (impl_changedBy.l0 k2 x9_4 (x10_2 ++ [wrap64 ((rd l1 x23_2) + 10)]) l1 (l1.length : Int) (wrap64 (x23_2 + 1))) else (none)) else (if x10_2.length < 17592186044416 then (impl_changedBy.l0 k2 x9_4 (x10_2 ++ [rd l1 x23_2]) l1 (l1.length : Int) (wrap64 (x23_2 + 1))) else (none))) = some r := by first | (rw [hji15] at H; exact H) | (simp only [hji15] at H ⊢; exact H)
      have hji15_ : (x9_4 / 2 ^ min x23_2.toNat 64) = ji15 := hji15
      have hji15z : x23_2 ≤ 64 → (x9_4 / 2 ^ x23_2.toNat) = ji15 := shr_small hji15
      by_cases c16 : (Go.bits .and .i64 (ji15) 1) = 0
      ·rw [if_pos c16] at H
       have c16b0 : ((Go.bits .and .i64 (ji15) 1) == 0) = true := beq_iff_eq.mpr c16
       have c16b1 : ((Go.bits .and .i64 (ji15) 1) != 0) = false := bne_eq_false_iff_eq.mpr c16
       clear c16
       by_cases c17 : x10_2.length < 17592186044416; rotate_left; (rw [if_neg c17] at H; exact absurd H (by simp))
       rw [if_pos c17] at H
       have LMc17 := Asd.mk c17
       clear c17
       obtain ⟨y244, hy244⟩ : ∃ y_ : List Int, y_ = (x10_2 ++ [wrap64 ((rd l1 x23_2) + 10)]) := ⟨_, rfl⟩
       replace H : (impl_changedBy.l0 k2 x9_4 y244 l1 (l1.length : Int) (wrap64 (x23_2 + 1))) = some r := by first | (rw [hy244]; with_reducible exact H) | (have H2_ := (Option.bind_some _ _).symm.trans H; rw [hy244]; with_reducible exact H2_) | (have H2_ := (Option.bind_some _ _).symm.trans H; with_reducible exact H2_) | with_reducible exact H | (rw [hy244]; exact H) | exact H
       have Ny244 := Asd.mk hy244
       clear hy244
       have H' := Asd.mk H
       clear H
       have p243 : 0 ≤ (x23_2 : Int) := odt
       have q243 : x23_2 < (l1.length : Int) := odt
       obtain ⟨ad243, e243, hx243_0⟩ := Kd.at_int HR1.out x23_2 p243 q243
       cases e243
       replace hx243_0 := (HB.out.cell (World.block_lt_of_cell? w _ hx243_0)).trans hx243_0
       replace p243 := eq_true p243
       replace q243 := eq_true q243
       go_wp2_with (first | ((with_reducible refine gate_builtin (b := .append) (xs := #[.tmp 35, .tmp 37]) rfl ?_); at_builtin; refine Kd.R_append (Kd.int .i64) (w0 := w) w.heap.size rfl (.tmp 35) (.tmp 37) 55 3 (.int .i64 0) 8 rfl Try.underlying55 info3 rfl (by decide) (by omega) u10 x10_2 (wrap64 ((rd l1 x23_2) + 10)) [.int .i64 (wrap64 ((rd l1 x23_2) + 10))] (fun _ => True) (fun _ => False) rfl rfl ?aP (fun _ hk => hk.elim) ?aF ?aO ?aB ?aS ?aL ?_; (case aP => exact rfl); (case aB => exact (wZ HB)); (case aF => exact (fun _ _ => trivial)); (case aO => exact (rS HO_10)); (case aS => exact (below_size (wZ HB))); (case aL => have := LMc17.out; omega); intro v245 w18 ho hb hg hat; rw [← Ny244.out] at ho; replace HB := Asd.mk (hb); have HO246 := Asd.mk (ho); clear HO_10; clear ho hb hg hat))
       go_roundg k2
       case measure => have := HJ4.out; have := HK2.out; omega
       case rel => exact ⟨(y244), (wrap64 (x23_2 + 1)), (by first | rfl | (simp; done) | (simp [*]; done)), H', ⟨by have := HJ4.out; have := HK2.out; omega⟩, ⟨by (repeat apply Kd.RS); exact HO246.out⟩, ⟨wZ HB⟩⟩
      ·rw [if_neg c16] at H
       have c16b0 : ((Go.bits .and .i64 (ji15) 1) == 0) = false := beq_eq_false_iff_ne.mpr c16
       have c16b1 : ((Go.bits .and .i64 (ji15) 1) != 0) = true := bne_iff_ne.mpr c16
       by_cases c19 : x10_2.length < 17592186044416; rotate_left; (rw [if_neg c19] at H; exact absurd H (by simp))
       rw [if_pos c19] at H
       have LMc19 := Asd.mk c19
       clear c19
       obtain ⟨y247, hy247⟩ : ∃ y_ : List Int, y_ = (x10_2 ++ [rd l1 x23_2]) := ⟨_, rfl⟩
       replace H : (impl_changedBy.l0 k2 x9_4 y247 l1 (l1.length : Int) (wrap64 (x23_2 + 1))) = some r := by first | (rw [hy247]; with_reducible exact H) | (have H2_ := (Option.bind_some _ _).symm.trans H; rw [hy247]; with_reducible exact H2_) | (have H2_ := (Option.bind_some _ _).symm.trans H; with_reducible exact H2_) | with_reducible exact H | (rw [hy247]; exact H) | exact H
       have Ny247 := Asd.mk hy247
       clear hy247
       have H' := Asd.mk H
       clear H
       have p243 : 0 ≤ (x23_2 : Int) := odt
       have q243 : x23_2 < (l1.length : Int) := odt
       obtain ⟨ad243, e243, hx243_0⟩ := Kd.at_int HR1.out x23_2 p243 q243
       cases e243
       replace hx243_0 := (HB.out.cell (World.block_lt_of_cell? w _ hx243_0)).trans hx243_0
       replace p243 := eq_true p243
       replace q243 := eq_true q243
       go_wp2_with (first | ((with_reducible refine gate_builtin (b := .append) (xs := #[.tmp 35, .tmp 37]) rfl ?_); at_builtin; refine Kd.R_append (Kd.int .i64) (w0 := w) w.heap.size rfl (.tmp 35) (.tmp 37) 55 3 (.int .i64 0) 8 rfl Try.underlying55 info3 rfl (by decide) (by omega) u10 x10_2 (rd l1 x23_2) [.int .i64 (rd l1 x23_2)] (fun _ => True) (fun _ => False) rfl rfl ?aP (fun _ hk => hk.elim) ?aF ?aO ?aB ?aS ?aL ?_; (case aP => exact rfl); (case aB => exact (wZ HB)); (case aF => exact (fun _ _ => trivial)); (case aO => exact (rS HO_10)); (case aS => exact (below_size (wZ HB))); (case aL => have := LMc19.out; omega); intro v248 w20 ho hb hg hat; rw [← Ny247.out] at ho; replace HB := Asd.mk (hb); have HO249 := Asd.mk (ho); clear HO_10; clear ho hb hg hat))
       go_roundg k2
       case measure => have := HJ4.out; have := HK2.out; omega
       case rel => exact ⟨(y247), (wrap64 (x23_2 + 1)), (by first | rfl | (simp; done) | (simp [*]; done)), H', ⟨by have := HJ4.out; have := HK2.out; omega⟩, ⟨by (repeat apply Kd.RS); exact HO249.out⟩, ⟨wZ HB⟩⟩
     ·rw [if_neg c11] at H
      have c11b0 : decide (x23_2 < (l1.length : Int)) = false := decide_eq_false c11
      clear c11
      replace H := Option.bind_eq_some_iff.mp H
      obtain ⟨t250, A210, H⟩ := H
      try dsimp only at H
      have A21 := Asd.mk A210
      clear A210
      obtain rfl := Option.some.inj H
      obtain ⟨Ao22, co22, eo22⟩ := Kd.R_slice HO_10.out
      subst eo22
      go_wp2_with (first | ((with_reducible refine gate_callee (f := 91) rfl ?_); refine gsM (some 41) rfl rfl Try.func91 (by kernel_rfl) rfl #[.slice Ao22 x10_2.length co22] rfl ?_; (with_reducible refine (impl_tidy.calls k2 _ _ x10_2 t250 _ ?side1 ?side2 A21.out).mono ?_); (case side1 => exact cZ (Kd.R_reads' HO_10.out).2.2); (case side2 => exact (Kd.R_reads' HO_10.out).2.1); rintro e w23 ⟨v251, rfl, ho0, hb⟩; refine ⟨_, rfl, ?_⟩; have HO252 := Asd.mk (Kd.R_lower (Kd.R_new' ho0 (Kd.R_lt (rS HO_10))) (below_size (wZ HB))); replace HO_10 := Asd.mk (Kd.R_elder' (rS HO_10) (Kd.R_base ho0) hb); replace HB := bW HB hb; (try clear hb); (try clear hb2); (try clear hk); (try clear hi); (try clear ho0)))
      go_ret
      exact ⟨_, by first | rfl | (simp [*, errW_none, errW_some] <;> rfl), by (repeat apply Kd.RS); exact Kd.R_mono HO252.out (fun _ hk => trivial), wZ HB⟩

end Go.Proofs.Ytihgpkohglcijaa.P
