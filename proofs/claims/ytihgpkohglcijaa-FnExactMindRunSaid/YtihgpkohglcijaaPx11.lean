-- Written by a program of this session (wip/hook.py), which runs the kit's printer; Lean checks it.
import Derived.Test.YtihgpkohglcijaaPx0
import Derived.Test.YtihgpkohglcijaaPx6
import Derived.Test.YtihgpkohglcijaaPx8
import Derived.Test.YtihgpkohglcijaaPx10
namespace Go.Proofs.Ytihgpkohglcijaa.P
open Go.RowKit Go.Proofs.YtihgpkohglcijaaW.PrintWords Go.Proofs.YtihgpkohglcijaaW.PrintLast Go.Proofs.YtihgpkohglcijaaW.PrintMore
attribute [local go_sem] max2_int min2_int max_two min_two max_three min_three max_four min_four   -- for this text's walks alone
set_option linter.unusedVariables false
set_option linter.unusedSimpArgs false

/-! ### impl_MindRun: function 70 -/
mutual
def impl_MindRun.j0 : Nat → List (S26) → Bool → Int → List Int → List (List Int) → Option (Int × List Int × (List (List Int)) × Int)
 | 0, _, _, _, _, _ => none
 | k + 1, x1, x18, x303000, x303001, x303002 => if x18 = true then (some (0, ([] : List Int), ([] : List (List Int)), 0)) else ((impl_copyMind.f k x303000 x303001 x303002).bind fun bt305 => (impl_MindRun.l0 k 0 x1 (x1.length : Int) 0 bt305.1 bt305.2.1 bt305.2.2))
def impl_MindRun.l0 : Nat → Int → List (S26) → Int → Int → Int → List Int → List (List Int) → Option (Int × List Int × (List (List Int)) × Int)
 | 0, _, _, _, _, _, _, _ => none
 | k + 1, x6, x22, x23, x24, x303000, x303001, x303002 => if x24 < x23 then (if 0 ≤ x24 then (if x24 < (x22.length : Int) then ((impl_mindDo.f k x303000 x303001 x303002 ((rd_T26 x22 x24).f0) ((rd_T26 x22 x24).f1)).bind fun bt314 => (if bt314.2.2.2 = true then (impl_MindRun.l0 k (wrap64 (x6 + 1)) x22 x23 (wrap64 (x24 + 1)) bt314.1 bt314.2.1 bt314.2.2.1) else (impl_MindRun.l0 k x6 x22 x23 (wrap64 (x24 + 1)) x303000 x303001 x303002))) else (none)) else (none)) else (some (x303000, x303001, x303002, x6))
end
def impl_MindRun.f (k : Nat) (a0_0 : Int) (l0_1 : List Int) (l0_2 : List (List Int)) (l1 : List (S26)) : Option (Int × List Int × (List (List Int)) × Int) := (impl_isMind.f k a0_0 l0_1 l0_2).bind fun t304 => (if t304 = true then (impl_MindRun.j0 k l1 (decide ((l1.length : Int) > 40)) a0_0 l0_1 l0_2) else (impl_MindRun.j0 k l1 true a0_0 l0_1 l0_2))
theorem impl_MindRun.mono_l : ∀ k, (∀ y0 y1 y2 y3 y4, LeO (impl_MindRun.j0 k y0 y1 y2 y3 y4) (impl_MindRun.j0 (k + 1) y0 y1 y2 y3 y4)) ∧ (∀ y0 y1 y2 y3 y4 y5 y6, LeO (impl_MindRun.l0 k y0 y1 y2 y3 y4 y5 y6) (impl_MindRun.l0 (k + 1) y0 y1 y2 y3 y4 y5 y6))
 | 0 => ⟨fun _ _ _ _ _ r h => by simp [impl_MindRun.j0] at h, fun _ _ _ _ _ _ _ r h => by simp [impl_MindRun.l0] at h⟩
 | k + 1 => by
  obtain ⟨ih0, ih1⟩ := impl_MindRun.mono_l k
  refine ⟨?_, ?_⟩
  ·intro y0 y1 y2 y3 y4
   unfold impl_MindRun.j0
   repeat' first
   | (with_reducible first | exact ih0 _ _ _ _ _ | exact ih1 _ _ _ _ _ _ _ | exact impl_copyMind.mono _ _ _ _ | exact impl_isMind.mono _ _ _ _ | exact impl_mindDo.mono _ _ _ _ _ _ | exact LeO.refl _ | exact LeO.none _ | refine LeO.ite ?_ ?_ | refine LeO.bind ?_ (fun _ => ?_))
   | refine LeO.ite ?_ ?_
   | refine LeO.bind ?_ (fun _ => ?_)
  ·intro y0 y1 y2 y3 y4 y5 y6
   unfold impl_MindRun.l0
   repeat' first
   | (with_reducible first | exact ih0 _ _ _ _ _ | exact ih1 _ _ _ _ _ _ _ | exact impl_copyMind.mono _ _ _ _ | exact impl_isMind.mono _ _ _ _ | exact impl_mindDo.mono _ _ _ _ _ _ | exact LeO.refl _ | exact LeO.none _ | refine LeO.ite ?_ ?_ | refine LeO.bind ?_ (fun _ => ?_))
   | refine LeO.ite ?_ ?_
   | refine LeO.bind ?_ (fun _ => ?_)
theorem impl_MindRun.mono : ∀ a0 a1 a2 a3 k, LeO (impl_MindRun.f k a0 a1 a2 a3) (impl_MindRun.f (k + 1) a0 a1 a2 a3) := by
 intro a0 a1 a2 a3 k
 obtain ⟨ih0, ih1⟩ := impl_MindRun.mono_l k
 unfold impl_MindRun.f
 repeat' first
   | (with_reducible first | exact ih0 _ _ _ _ _ | exact ih1 _ _ _ _ _ _ _ | exact impl_copyMind.mono _ _ _ _ | exact impl_isMind.mono _ _ _ _ | exact impl_mindDo.mono _ _ _ _ _ _ | exact LeO.refl _ | exact LeO.none _ | refine LeO.ite ?_ ?_ | refine LeO.bind ?_ (fun _ => ?_))
   | refine LeO.ite ?_ ?_
   | refine LeO.bind ?_ (fun _ => ?_)
set_option maxHeartbeats 8000000 in
set_option maxRecDepth 100000 in
theorem impl_MindRun.calls (k : Nat) (a0_0 : Int) (A0_1 : Option Addr) (c0_1 : Nat) (l0_1 : List Int) (A0_2 : Option Addr) (c0_2 : Nat) (l0_2 : List (List Int)) (A1 : Option Addr) (c1 : Nat) (l1 : List (S26)) (r1 : Int) (r2 : List Int) (r3 : List (List Int)) (r4 : Int) (w : World) (hr0_1 : Kd.C (Kd.int .i64) w A0_1 l0_1.length l0_1) (hc0_1 : l0_1.length ≤ c0_1) (hr0_2 : Kd.C (Kd.slice 3 (Kd.int .i64)) w A0_2 l0_2.length l0_2) (hc0_2 : l0_2.length ≤ c0_2) (hr1 : Kd.C k26 w A1 l1.length l1) (hc1 : l1.length ≤ c1) (h : impl_MindRun.f k a0_0 l0_1 l0_2 l1 = some (r1, r2, r3, r4)) :
  Calls Try.prog 70 #[.agg #[.int .i64 a0_0, .slice A0_1 l0_1.length c0_1, .slice A0_2 l0_2.length c0_2], .slice A1 l1.length c1] w fun e w' => ∃ v1_ v2_ : Value, e = .returned (.tuple #[.agg #[.int .i64 r1, v1_, v2_], .int .i64 r4]) ∧ Kd.R (Kd.int .i64) 3 w' w.heap.size (fun _ => True) v1_ r2 ∧ Kd.S (Kd.slice 3 (Kd.int .i64)) 55 w' w.heap.size (fun k_ => some k_ ≠ (v1_ : Value).ownBlock) v2_ r3 ∧ Below w.heap.size w w' := by
 have hu58 := Try.underlying58
 have hu26 := Try.underlying26
 have HR0_1 := Asd.mk hr0_1
 have HC0_1 := Asd.mk hc0_1
 clear hr0_1 hc0_1
 have HR0_2 := Asd.mk hr0_2
 have HC0_2 := Asd.mk hc0_2
 clear hr0_2 hc0_2
 have HR1 := Asd.mk hr1
 have HC1 := Asd.mk hc1
 clear hr1 hc1
 have HB := Asd.mk (Below.refl w.heap.size w)
 have H : ((impl_isMind.f k a0_0 l0_1 l0_2).bind fun t304 => (if t304 = true then (impl_MindRun.j0 k l1 (decide ((l1.length : Int) > 40)) a0_0 l0_1 l0_2) else (impl_MindRun.j0 k l1 true a0_0 l0_1 l0_2))) = some (r1, r2, r3, r4) := h
 clear h
 have HC3 := Asd.mk H
 clear H
 go_enter Try.func70, Try.ntmps70
 go_upto_region 1 with (first | ((with_reducible refine gate_dst (N := 2) rfl ?_); (try (refine gate_guard (by rfl) ?_; dsimp only)); refine bxE ?hg (N := 2) ?hd (cs := #[.int .i64 a0_0, .slice A0_1 l0_1.length c0_1, .slice A0_2 l0_2.length c0_2]) (t := 58) ?hr ?_; (case hd => rfl); (case hg => rfl); (case hr => first | (go_simp; done) | (go_simp; rfl)); intro gb302 hg w4 hbox hb; have BK302 := Asd.mk (hbox); have GW302 := bG HB hg; have GE302 := bG HB hg; replace HB := bW HB hb; clear hb hbox hg) | ((with_reducible refine gate_dst (N := 4) rfl ?_); (try (refine gate_guard (by rfl) ?_; dsimp only)); refine bxE ?hg (N := 4) ?hd (cs := #[.int .i64 0, .slice none 0 0, .slice none 0 0]) (t := 58) ?hr ?_; (case hd => rfl); (case hg => rfl); (case hr => first | (go_simp; done) | (go_simp; rfl)); intro gb303 hg w5 hbox hb; have BK303 := Asd.mk (hbox); have GW303 := bG HB hg; have GE303 := bG HB hg; replace HB := bW HB hb; have NB302_303 := bL BK302 hg; have NB303_302 := bM BK302 hg; replace BK302 := bU BK302 hb; clear hb hbox hg))
 (try simp only [Act.put, qA, qB, qC])
 go_cut [18] (fun v18 wc => ∃ (kq : Nat) (x18_2 : Bool), v18 = .bool x18_2 ∧ Asd (impl_MindRun.j0 kq l1 x18_2 a0_0 l0_1 l0_2 = some (r1, r2, r3, r4)) ∧ Asd (kq ≤ k) ∧ Asd (wc.heap[gb302]? = some (.cells #[.int .i64 a0_0, (.slice A0_1 l0_1.length c0_1), (.slice A0_2 l0_2.length c0_2)] 58 (0, 0))) ∧ Asd (wc.heap[gb303]? = some (.cells #[.int .i64 0, (.slice none 0 0), (.slice none 0 0)] 58 (0, 0))) ∧ Asd (Below w.heap.size w wc))
 case first =>
  have H := HC3.out
  clear HC3
  replace H := Option.bind_eq_some_iff.mp H
  obtain ⟨t304, A60, H⟩ := H
  try dsimp only at H
  have A6 := Asd.mk A60
  clear A60
  by_cases c7 : t304 = true
  ·subst c7
   rw [if_pos rfl] at H
   have H' := Asd.mk H
   clear H
   have hnb8 := NB302_303.out
   have hnc8 := NB303_302.out
   obtain ⟨hcz9_0, hcz9_1, hcz9_2, hfz9_0, hfz9_1, hfz9_2⟩ := b3 BK302
   go_wp2_with (first | ((with_reducible refine gate_callee (f := 101) rfl ?_); refine gsM (some 12) rfl rfl Try.func101 (by kernel_rfl) rfl #[.agg #[.int .i64 a0_0, .slice A0_1 l0_1.length c0_1, .slice A0_2 l0_2.length c0_2]] rfl ?_; (with_reducible refine (impl_isMind.calls k a0_0 _ _ l0_1 _ _ l0_2 true _ ?side1 ?side2 ?side3 ?side4 A6.out).mono ?_); (case side1 => exact cZ (Kd.C_below HR0_1.out HB.out)); (case side2 => exact HC0_1.out); (case side3 => exact cZ (Kd.C_below HR0_2.out HB.out)); (case side4 => exact HC0_2.out); rintro e w10 ⟨rfl, hb⟩; refine ⟨_, rfl, ?_⟩; replace BK302 := bU BK302 hb; replace BK303 := bU BK303 hb; replace HB := bW HB hb; (try clear hb); (try clear hb2); (try clear hk); (try clear hi)))
   go_meet
   case rel => exact ⟨_, (decide ((l1.length : Int) > 40)), (by first | rfl | (simp; done) | (simp [*]; done)), H', ⟨by first | omega | exact Nat.le_refl _⟩, ⟨kS BK302⟩, ⟨kS BK303⟩, ⟨wZ HB⟩⟩
  ·replace c7 := Bool.eq_false_iff.mpr c7
   subst c7
   rw [if_neg (show ¬ (false = true) by decide)] at H
   have H' := Asd.mk H
   clear H
   have hnb11 := NB302_303.out
   have hnc11 := NB303_302.out
   obtain ⟨hcz12_0, hcz12_1, hcz12_2, hfz12_0, hfz12_1, hfz12_2⟩ := b3 BK302
   go_wp2_with (first | ((with_reducible refine gate_callee (f := 101) rfl ?_); refine gsM (some 12) rfl rfl Try.func101 (by kernel_rfl) rfl #[.agg #[.int .i64 a0_0, .slice A0_1 l0_1.length c0_1, .slice A0_2 l0_2.length c0_2]] rfl ?_; (with_reducible refine (impl_isMind.calls k a0_0 _ _ l0_1 _ _ l0_2 false _ ?side1 ?side2 ?side3 ?side4 A6.out).mono ?_); (case side1 => exact cZ (Kd.C_below HR0_1.out HB.out)); (case side2 => exact HC0_1.out); (case side3 => exact cZ (Kd.C_below HR0_2.out HB.out)); (case side4 => exact HC0_2.out); rintro e w13 ⟨rfl, hb⟩; refine ⟨_, rfl, ?_⟩; replace BK302 := bU BK302 hb; replace BK303 := bU BK303 hb; replace HB := bW HB hb; (try clear hb); (try clear hb2); (try clear hk); (try clear hi)))
   go_meet
   case rel => exact ⟨_, (true), (by first | rfl | (simp; done) | (simp [*]; done)), H', ⟨by first | omega | exact Nat.le_refl _⟩, ⟨kS BK302⟩, ⟨kS BK303⟩, ⟨wZ HB⟩⟩
 case rest =>
  clear HC3
  obtain ⟨kq, x18_2, rfl, HA, HJ2, BK302, BK303, HB⟩ := hcut
  cases kq with
  | zero => exact absurd HA.out (by simp [impl_MindRun.j0])
  | succ kj2 =>
   have H := HA.out
   clear HA
   simp only [impl_MindRun.j0] at H
   by_cases c14 : x18_2 = true
   ·subst c14
    rw [if_pos rfl] at H
    simp only [Option.some.injEq, Prod.mk.injEq] at H
    obtain ⟨rfl, rfl, rfl, rfl⟩ := H
    have hnb15 := NB303_302.out
    have hnc15 := NB302_303.out
    obtain ⟨hcz16_0, hcz16_1, hcz16_2, hfz16_0, hfz16_1, hfz16_2⟩ := b3 BK303
    go_wp2
    refine bodyPost_ret (results_ct rfl _ _ gb303 58 #[.int .i64 0, .slice none 0 0, .slice none 0 0] (0, 0) _ rfl (kP BK303) Try.underlying58 rfl (by kernel_rfl)) rfl ?_
    exact ⟨_, _, by first | rfl | (simp [*, errW_none, errW_some] <;> rfl), by first | exact Kd.R_nil _ _ _ _ _ | exact Kd.N_nil _ _ _ _ _ | exact Kd.V_nil _ _ _ _ _ | exact Kd.Q_nil _ _ _ _ _ | exact Kd.S_nil _ _ _ _ _, by first | exact Kd.S_nil _ _ _ _ _ | exact Kd.N_nil _ _ _ _ _ | exact Kd.V_nil _ _ _ _ _ | exact Kd.Q_nil _ _ _ _ _ | exact Kd.R_nil _ _ _ _ _, wZ HB⟩
   ·replace c14 := Bool.eq_false_iff.mpr c14
    subst c14
    rw [if_neg (show ¬ (false = true) by decide)] at H
    replace H := Option.bind_eq_some_iff.mp H
    obtain ⟨⟨t305, t306, t309⟩, A170, H⟩ := H
    try dsimp only at H
    have A17 := Asd.mk A170
    clear A170
    have H' := Asd.mk H
    clear H
    have hnb18 := NB302_303.out
    have hnc18 := NB303_302.out
    obtain ⟨hcz19_0, hcz19_1, hcz19_2, hfz19_0, hfz19_1, hfz19_2⟩ := b3 BK302
    go_wp2_with (first | ((with_reducible refine gate_callee (f := 116) rfl ?_); refine gsM (some 21) rfl rfl Try.func116 (by kernel_rfl) rfl #[.agg #[.int .i64 a0_0, .slice A0_1 l0_1.length c0_1, .slice A0_2 l0_2.length c0_2]] rfl ?_; (with_reducible refine (impl_copyMind.calls kj2 a0_0 _ _ l0_1 _ _ l0_2 t305 t306 t309 _ ?side1 ?side2 ?side3 ?side4 A17.out).mono ?_); (case side1 => exact cZ (Kd.C_below HR0_1.out HB.out)); (case side2 => exact HC0_1.out); (case side3 => exact cZ (Kd.C_below HR0_2.out HB.out)); (case side4 => exact HC0_2.out); rintro e w20 ⟨v307, v310, rfl, ho0, ho1, hb⟩; refine ⟨_, rfl, ?_⟩; have HO308 := Asd.mk (Kd.R_lower ho0 (below_size (wZ HB))); have HO311 := Asd.mk (Kd.S_lower ho1 (below_size (wZ HB))); replace BK302 := bU BK302 hb; replace BK303 := bU BK303 hb; replace HB := bW HB hb; (try clear hb); (try clear hb2); (try clear hk); (try clear hi); (try clear ho0); (try clear ho1); obtain ⟨hcz21_0, hcz21_1, hcz21_2, hfz21_0, hfz21_1, hfz21_2⟩ := b3 BK302; obtain ⟨Ao22, co22, eo22⟩ := Kd.R_slice HO308.out; subst eo22; obtain ⟨Ao23, co23, eo23⟩ := Kd.S_slice HO311.out; subst eo23))
    go_loopg [6, 24] kj2 (fun kq v6 v24 w' => ∃ (x6_2 : Int) (x24_2 : Int) (x303000_2 : Int) (x303001_2 : List Int) (x303002_2 : List (List Int)) (u303001 : Value) (u303002 : Value), v6 = .int .i64 x6_2 ∧ v24 = .int .i64 x24_2 ∧ Asd (impl_MindRun.l0 kq x6_2 l1 (l1.length : Int) x24_2 x303000_2 x303001_2 x303002_2 = some (r1, r2, r3, r4)) ∧ Asd (kq ≤ kj2) ∧ Asd (Kd.R (Kd.int .i64) 3 w' w.heap.size (fun _ => True) u303001 x303001_2) ∧ Asd (Kd.S (Kd.slice 3 (Kd.int .i64)) 55 w' w.heap.size (fun k_ => some k_ ≠ (u303001 : Value).ownBlock) u303002 x303002_2) ∧ Asd (w'.heap[gb302]? = some (.cells #[.int .i64 x303000_2, u303001, u303002] 58 (0, 0))) ∧ Asd (w'.heap[gb303]? = some (.cells #[.int .i64 0, (.slice none 0 0), (.slice none 0 0)] 58 (0, 0))) ∧ Asd (Below w.heap.size w w'))
    case atStart => exact ⟨(0), (0), (t305), (t306), (t309), (.slice Ao22 t306.length co22), (.slice Ao23 t309.length co23), (by first | rfl | (simp; done) | (simp [*]; done)), (by first | rfl | (simp; done) | (simp [*]; done)), H', ⟨Nat.le_refl _⟩, ⟨rT HO308⟩, ⟨sT HO311⟩, ⟨kP BK302⟩, ⟨kS BK303⟩, ⟨wZ HB⟩⟩
    case round =>
     clear H'
     obtain ⟨x6_2, x24_2, x303000_2, x303001_2, x303002_2, u303001, u303002, rfl, rfl, HA, HK2, HO_303001, HO_303002, BK302, BK303, HB⟩ := hrel
     cases gk with
     | zero => exact absurd HA.out (by simp [impl_MindRun.l0])
     | succ k2 =>
      have H := HA.out
      clear HA
      simp only [impl_MindRun.l0] at H
      by_cases c24 : x24_2 < (l1.length : Int)
      ·rw [if_pos c24] at H
       have c24b0 : decide (x24_2 < (l1.length : Int)) = true := decide_eq_true c24
       clear c24
       by_cases c25 : 0 ≤ x24_2; rotate_left; (rw [if_neg c25] at H; exact absurd H (by simp))
       rw [if_pos c25] at H
       have c25b0 : decide (0 ≤ x24_2) = true := decide_eq_true c25
       clear c25
       by_cases c26 : x24_2 < (l1.length : Int); rotate_left; (rw [if_neg c26] at H; exact absurd H (by simp))
       rw [if_pos c26] at H
       have c26b0 : decide (x24_2 < (l1.length : Int)) = true := decide_eq_true c26
       clear c26
       replace H := Option.bind_eq_some_iff.mp H
       obtain ⟨⟨t314, t315, t318, t321⟩, A270, H⟩ := H
       try dsimp only at H
       have A27 := Asd.mk A270
       clear A270
       by_cases c28 : t321 = true
       ·subst c28
        rw [if_pos rfl] at H
        have H' := Asd.mk H
        clear H
        have p312 : 0 ≤ (x24_2 : Int) := odt
        have q312 : x24_2 < (l1.length : Int) := odt
        obtain ⟨ad312, e312, hx312_0, hx312_1⟩ := at_T26 HR1.out x24_2 p312 q312
        cases e312
        replace hx312_0 := (HB.out.cell (World.block_lt_of_cell? w _ hx312_0)).trans hx312_0
        replace hx312_1 := (HB.out.cell (World.block_lt_of_cell? w _ hx312_1)).trans hx312_1
        replace p312 := eq_true p312
        replace q312 := eq_true q312
        go_wp2_with (first | ((with_reducible refine gate_dst (N := 8) rfl ?_); (try (refine gate_guard (by rfl) ?_; dsimp only)); refine bxE ?hg (N := 8) ?hd (cs := #[.int .i64 0, .string (⟨#[]⟩ : ByteArray)]) (t := 26) ?hr ?_; (case hd => rfl); (case hg => rfl); (case hr => first | (go_simp; done) | (go_simp; rfl)); intro gb313 hg w29 hbox hb; replace HO_303001 := bR HO_303001 hb; replace HO_303002 := bS HO_303002 hb; have BK313 := Asd.mk (hbox); have GW313 := bG HB hg; have GE313 := bG HB hg; replace HB := bW HB hb; have NB302_313 := bL BK302 hg; have NB313_302 := bM BK302 hg; replace BK302 := bU BK302 hb; have NB303_313 := bL BK303 hg; have NB313_303 := bM BK303 hg; replace BK303 := bU BK303 hb; clear hb hbox hg; have hnb30 := NB313_302.out; have hnc30 := NB302_313.out; have hnb31 := NB313_303.out; have hnc31 := NB303_313.out; obtain ⟨hcz32_0, hcz32_1, hfz32_0, hfz32_1⟩ := b2 BK313; have hnb33 := NB302_303.out; have hnc33 := NB303_302.out; obtain ⟨hcz34_0, hcz34_1, hcz34_2, hfz34_0, hfz34_1, hfz34_2⟩ := b3 BK302; obtain ⟨Ao35, co35, eo35⟩ := Kd.R_slice HO_303001.out; subst eo35; obtain ⟨Ao36, co36, eo36⟩ := Kd.S_slice HO_303002.out; subst eo36) | ((with_reducible refine gate_callee (f := 110) rfl ?_); refine gsM (some 31) rfl rfl Try.func110 (by kernel_rfl) rfl #[.agg #[.int .i64 x303000_2, .slice Ao35 x303001_2.length co35, .slice Ao36 x303002_2.length co36], .agg #[.int .i64 ((rd_T26 l1 x24_2).f0), .string ((rd_T26 l1 x24_2).f1)]] rfl ?_; (with_reducible refine (impl_mindDo.calls k2 x303000_2 _ _ x303001_2 _ _ x303002_2 ((rd_T26 l1 x24_2).f0) ((rd_T26 l1 x24_2).f1) t314 t315 t318 true _ ?side1 ?side2 ?side3 ?side4 A27.out).mono ?_); (case side1 => refine (Kd.R_reads' (e := 3) (base := w.heap.size) (ok := fun k_ => True) (n := x303001_2.length) (c := co35) ?_).2.2; exact (rT HO_303001)); (case side2 => exact (Kd.R_reads' HO_303001.out).2.1); (case side3 => refine (Kd.S_reads' (e := 55) (base := w.heap.size) (ok := fun k_ => some k_ ≠ (.slice Ao35 x303001_2.length co35 : Value).ownBlock) (n := x303002_2.length) (c := co36) ?_).2.2; exact (sT HO_303002)); (case side4 => exact (Kd.S_reads' HO_303002.out).2.1); rintro e w37 ⟨v316, v319, rfl, ho0, ho1, hb⟩; refine ⟨_, rfl, ?_⟩; have HO317 := Asd.mk (Kd.R_lower (Kd.R_new' ho0 (Kd.R_lt (rT HO_303001))) (below_size (wZ HB))); have HO320 := Asd.mk (Kd.S_lower (Kd.S_new' (Kd.S_new' ho1 (Kd.R_lt (rT HO_303001))) (Kd.S_lt (sT HO_303002))) (below_size (wZ HB))); replace HO_303001 := Asd.mk (Kd.R_elder' (rT HO_303001) (Kd.R_base ho0) hb); replace HO_303002 := Asd.mk (Kd.S_mono (Kd.S_told (Kd.S_told (Kd.S_old (sT HO_303002) hb) (Kd.R_base ho0)) (Kd.S_base ho1)) (fun _ h_ => h_.1)); replace BK302 := bU BK302 hb; replace BK303 := bU BK303 hb; replace BK313 := bP #[.int .i64 ((rd_T26 l1 x24_2).f0), .string ((rd_T26 l1 x24_2).f1)] BK313 hb; replace HB := bW HB hb; (try clear hb); (try clear hb2); (try clear hk); (try clear hi); (try clear ho0); (try clear ho1)) | ((with_reducible refine gate_dst (N := 9) rfl ?_); (try (refine gate_guard (by rfl) ?_; dsimp only)); refine bxE ?hg (N := 9) ?hd (cs := #[.int .i64 0, .slice none 0 0, .slice none 0 0]) (t := 58) ?hr ?_; (case hd => rfl); (case hg => rfl); (case hr => first | (go_simp; done) | (go_simp; rfl)); intro gb322 hg w38 hbox hb; replace HO_303001 := bR HO_303001 hb; replace HO_303002 := bS HO_303002 hb; replace HO317 := bR HO317 hb; replace HO320 := bS HO320 hb; have BK322 := Asd.mk (hbox); have GW322 := bG HB hg; have GE322 := bG HB hg; replace HB := bW HB hb; have NB302_322 := bL BK302 hg; have NB322_302 := bM BK302 hg; replace BK302 := bU BK302 hb; have NB303_322 := bL BK303 hg; have NB322_303 := bM BK303 hg; replace BK303 := bU BK303 hb; have NB313_322 := bL BK313 hg; have NB322_313 := bM BK313 hg; replace BK313 := bU BK313 hb; clear hb hbox hg; have hnb39 := NB322_302.out; have hnc39 := NB302_322.out; have hnb40 := NB322_303.out; have hnc40 := NB303_322.out; have hnb41 := NB322_313.out; have hnc41 := NB313_322.out; obtain ⟨hcz42_0, hcz42_1, hcz42_2, hfz42_0, hfz42_1, hfz42_2⟩ := b3 BK322; obtain ⟨Ao43, co43, eo43⟩ := Kd.R_slice HO317.out; subst eo43; obtain ⟨Ao44, co44, eo44⟩ := Kd.S_slice HO320.out; subst eo44; obtain ⟨hcz45_0, hcz45_1, hcz45_2, hfz45_0, hfz45_1, hfz45_2⟩ := b3 BK302))
        go_roundg k2
        case measure => have := HJ2.out; have := HK2.out; omega
        case rel => exact ⟨(wrap64 (x6_2 + 1)), (wrap64 (x24_2 + 1)), (t314), (t315), (t318), (.slice Ao43 t315.length co43), (.slice Ao44 t318.length co44), (by first | rfl | (simp; done) | (simp [*]; done)), (by first | rfl | (simp; done) | (simp [*]; done)), H', ⟨by have := HJ2.out; have := HK2.out; omega⟩, ⟨rT HO317⟩, ⟨by (repeat apply Kd.SS); exact Kd.S_mono (Kd.S_far (p := ⟨gb302, 2, none⟩) (Kd.S_far (p := ⟨gb302, 1, none⟩) (Kd.S_far (p := ⟨gb302, 0, none⟩) (Kd.S_far (p := ⟨gb322, 2, none⟩) (Kd.S_far (p := ⟨gb322, 1, none⟩) (Kd.S_far (p := ⟨gb322, 0, none⟩) (Kd.S_types (Kd.S_types HO320.out BK322.out (by decide)) BK302.out (by decide)) (fun _ hk => hk.1.2) (.int .i64 t314)) (fun _ hk => hk.1.2) (.slice Ao43 t315.length co43)) (fun _ hk => hk.1.2) (.slice Ao44 t318.length co44)) (fun _ hk => hk.2) (.int .i64 t314)) (fun _ hk => hk.2) (.slice Ao43 t315.length co43)) (fun _ hk => hk.2) (.slice Ao44 t318.length co44)) (fun _ hk => hk.1.1.1.1)⟩, ⟨kP BK302⟩, ⟨kS BK303⟩, ⟨wZ HB⟩⟩
       ·replace c28 := Bool.eq_false_iff.mpr c28
        subst c28
        rw [if_neg (show ¬ (false = true) by decide)] at H
        have H' := Asd.mk H
        clear H
        have p312 : 0 ≤ (x24_2 : Int) := odt
        have q312 : x24_2 < (l1.length : Int) := odt
        obtain ⟨ad312, e312, hx312_0, hx312_1⟩ := at_T26 HR1.out x24_2 p312 q312
        cases e312
        replace hx312_0 := (HB.out.cell (World.block_lt_of_cell? w _ hx312_0)).trans hx312_0
        replace hx312_1 := (HB.out.cell (World.block_lt_of_cell? w _ hx312_1)).trans hx312_1
        replace p312 := eq_true p312
        replace q312 := eq_true q312
        go_wp2_with (first | ((with_reducible refine gate_dst (N := 8) rfl ?_); (try (refine gate_guard (by rfl) ?_; dsimp only)); refine bxE ?hg (N := 8) ?hd (cs := #[.int .i64 0, .string (⟨#[]⟩ : ByteArray)]) (t := 26) ?hr ?_; (case hd => rfl); (case hg => rfl); (case hr => first | (go_simp; done) | (go_simp; rfl)); intro gb313 hg w46 hbox hb; replace HO_303001 := bR HO_303001 hb; replace HO_303002 := bS HO_303002 hb; have BK313 := Asd.mk (hbox); have GW313 := bG HB hg; have GE313 := bG HB hg; replace HB := bW HB hb; have NB302_313 := bL BK302 hg; have NB313_302 := bM BK302 hg; replace BK302 := bU BK302 hb; have NB303_313 := bL BK303 hg; have NB313_303 := bM BK303 hg; replace BK303 := bU BK303 hb; clear hb hbox hg; have hnb47 := NB313_302.out; have hnc47 := NB302_313.out; have hnb48 := NB313_303.out; have hnc48 := NB303_313.out; obtain ⟨hcz49_0, hcz49_1, hfz49_0, hfz49_1⟩ := b2 BK313; have hnb50 := NB302_303.out; have hnc50 := NB303_302.out; obtain ⟨hcz51_0, hcz51_1, hcz51_2, hfz51_0, hfz51_1, hfz51_2⟩ := b3 BK302; obtain ⟨Ao52, co52, eo52⟩ := Kd.R_slice HO_303001.out; subst eo52; obtain ⟨Ao53, co53, eo53⟩ := Kd.S_slice HO_303002.out; subst eo53) | ((with_reducible refine gate_callee (f := 110) rfl ?_); refine gsM (some 31) rfl rfl Try.func110 (by kernel_rfl) rfl #[.agg #[.int .i64 x303000_2, .slice Ao52 x303001_2.length co52, .slice Ao53 x303002_2.length co53], .agg #[.int .i64 ((rd_T26 l1 x24_2).f0), .string ((rd_T26 l1 x24_2).f1)]] rfl ?_; (with_reducible refine (impl_mindDo.calls k2 x303000_2 _ _ x303001_2 _ _ x303002_2 ((rd_T26 l1 x24_2).f0) ((rd_T26 l1 x24_2).f1) t314 t315 t318 false _ ?side1 ?side2 ?side3 ?side4 A27.out).mono ?_); (case side1 => refine (Kd.R_reads' (e := 3) (base := w.heap.size) (ok := fun k_ => True) (n := x303001_2.length) (c := co52) ?_).2.2; exact (rT HO_303001)); (case side2 => exact (Kd.R_reads' HO_303001.out).2.1); (case side3 => refine (Kd.S_reads' (e := 55) (base := w.heap.size) (ok := fun k_ => some k_ ≠ (.slice Ao52 x303001_2.length co52 : Value).ownBlock) (n := x303002_2.length) (c := co53) ?_).2.2; exact (sT HO_303002)); (case side4 => exact (Kd.S_reads' HO_303002.out).2.1); rintro e w54 ⟨v316, v319, rfl, ho0, ho1, hb⟩; refine ⟨_, rfl, ?_⟩; have HO317 := Asd.mk (Kd.R_lower (Kd.R_new' ho0 (Kd.R_lt (rT HO_303001))) (below_size (wZ HB))); have HO320 := Asd.mk (Kd.S_lower (Kd.S_new' (Kd.S_new' ho1 (Kd.R_lt (rT HO_303001))) (Kd.S_lt (sT HO_303002))) (below_size (wZ HB))); replace HO_303001 := Asd.mk (Kd.R_elder' (rT HO_303001) (Kd.R_base ho0) hb); replace HO_303002 := Asd.mk (Kd.S_mono (Kd.S_told (Kd.S_told (Kd.S_old (sT HO_303002) hb) (Kd.R_base ho0)) (Kd.S_base ho1)) (fun _ h_ => h_.1)); replace BK302 := bU BK302 hb; replace BK303 := bU BK303 hb; replace BK313 := bP #[.int .i64 ((rd_T26 l1 x24_2).f0), .string ((rd_T26 l1 x24_2).f1)] BK313 hb; replace HB := bW HB hb; (try clear hb); (try clear hb2); (try clear hk); (try clear hi); (try clear ho0); (try clear ho1)) | ((with_reducible refine gate_dst (N := 9) rfl ?_); (try (refine gate_guard (by rfl) ?_; dsimp only)); refine bxE ?hg (N := 9) ?hd (cs := #[.int .i64 0, .slice none 0 0, .slice none 0 0]) (t := 58) ?hr ?_; (case hd => rfl); (case hg => rfl); (case hr => first | (go_simp; done) | (go_simp; rfl)); intro gb322 hg w55 hbox hb; replace HO_303001 := bR HO_303001 hb; replace HO_303002 := bS HO_303002 hb; replace HO317 := bR HO317 hb; replace HO320 := bS HO320 hb; have BK322 := Asd.mk (hbox); have GW322 := bG HB hg; have GE322 := bG HB hg; replace HB := bW HB hb; have NB302_322 := bL BK302 hg; have NB322_302 := bM BK302 hg; replace BK302 := bU BK302 hb; have NB303_322 := bL BK303 hg; have NB322_303 := bM BK303 hg; replace BK303 := bU BK303 hb; have NB313_322 := bL BK313 hg; have NB322_313 := bM BK313 hg; replace BK313 := bU BK313 hb; clear hb hbox hg; have hnb56 := NB322_302.out; have hnc56 := NB302_322.out; have hnb57 := NB322_303.out; have hnc57 := NB303_322.out; have hnb58 := NB322_313.out; have hnc58 := NB313_322.out; obtain ⟨hcz59_0, hcz59_1, hcz59_2, hfz59_0, hfz59_1, hfz59_2⟩ := b3 BK322; obtain ⟨Ao60, co60, eo60⟩ := Kd.R_slice HO317.out; subst eo60; obtain ⟨Ao61, co61, eo61⟩ := Kd.S_slice HO320.out; subst eo61))
        go_roundg k2
        case measure => have := HJ2.out; have := HK2.out; omega
        case rel => exact ⟨(x6_2), (wrap64 (x24_2 + 1)), (x303000_2), (x303001_2), (x303002_2), (.slice Ao52 x303001_2.length co52), (.slice Ao53 x303002_2.length co53), (by first | rfl | (simp; done) | (simp [*]; done)), (by first | rfl | (simp; done) | (simp [*]; done)), H', ⟨by have := HJ2.out; have := HK2.out; omega⟩, ⟨rT HO_303001⟩, ⟨by (repeat apply Kd.SS); exact Kd.S_mono (Kd.S_far (p := ⟨gb322, 2, none⟩) (Kd.S_far (p := ⟨gb322, 1, none⟩) (Kd.S_far (p := ⟨gb322, 0, none⟩) (Kd.S_types HO_303002.out BK322.out (by decide)) (fun _ hk => hk.2) (.int .i64 t314)) (fun _ hk => hk.2) (.slice Ao60 t315.length co60)) (fun _ hk => hk.2) (.slice Ao61 t318.length co61)) (fun _ hk => hk.1.1.1)⟩, ⟨kS BK302⟩, ⟨kS BK303⟩, ⟨wZ HB⟩⟩
      ·rw [if_neg c24] at H
       have c24b0 : decide (x24_2 < (l1.length : Int)) = false := decide_eq_false c24
       clear c24
       simp only [Option.some.injEq, Prod.mk.injEq] at H
       obtain ⟨rfl, rfl, rfl, rfl⟩ := H
       have hnb62 := NB302_303.out
       have hnc62 := NB303_302.out
       obtain ⟨hcz63_0, hcz63_1, hcz63_2, hfz63_0, hfz63_1, hfz63_2⟩ := b3 BK302
       obtain ⟨hcz64_0, hcz64_1, hcz64_2, hfz64_0, hfz64_1, hfz64_2⟩ := b3 BK303
       obtain ⟨Ao65, co65, eo65⟩ := Kd.R_slice HO_303001.out
       subst eo65
       obtain ⟨Ao66, co66, eo66⟩ := Kd.S_slice HO_303002.out
       subst eo66
       go_wp2
       refine bodyPost_ret (results_ct rfl _ _ gb303 58 #[.int .i64 x303000_2, .slice Ao65 x303001_2.length co65, .slice Ao66 x303002_2.length co66] (0, 0) _ rfl (kP BK303) Try.underlying58 rfl (by kernel_rfl)) rfl ?_
       exact ⟨_, _, by first | rfl | (simp [*, errW_none, errW_some] <;> rfl), rT HO_303001, sT HO_303002, wZ HB⟩

/-! ### spec_l1In: function 72 -/
def spec_l1In.f (a0 : Int) (a1 : Int) (a2 : Int) : Option (Bool) := if a0 ≥ a1 then (some (decide (a0 ≤ a2))) else (some false)
set_option maxHeartbeats 8000000 in
set_option maxRecDepth 100000 in
theorem spec_l1In.calls (a0 : Int) (a1 : Int) (a2 : Int) (r : Bool) (w : World) (h : spec_l1In.f a0 a1 a2 = some r) :
  Calls Try.prog 72 #[.int .i64 a0, .int .i64 a1, .int .i64 a2] w fun e w' => e = .returned (.bool r) ∧ Drawn0 w w' := by
 have H : (if a0 ≥ a1 then (some (decide (a0 ≤ a2))) else (some false)) = some r := h
 clear h
 by_cases c4 : a0 ≥ a1
 ·rw [if_pos c4] at H
  have c4b0 : decide (a1 ≤ a0) = true := decide_eq_true c4
  clear c4
  obtain rfl := Option.some.inj H
  go_enter Try.func72, Try.ntmps72
  go_wp2
  go_ret
  exact ⟨by first | rfl | (simp; done) | (simp [*]; done), by repeat (first | exact Drawn0.refl _ | apply Drawn0.step)⟩
 ·rw [if_neg c4] at H
  have c4b0 : decide (a1 ≤ a0) = false := decide_eq_false c4
  clear c4
  obtain rfl := Option.some.inj H
  go_enter Try.func72, Try.ntmps72
  go_wp2
  go_ret
  exact ⟨by first | rfl | (simp; done) | (simp [*]; done), by repeat (first | exact Drawn0.refl _ | apply Drawn0.step)⟩

/-! ### spec_RankOk: function 59 -/
def spec_RankOk.l0 : Nat → Int → List Int → Int → Int → Option (Bool)
 | 0, _, _, _, _ => none
 | k + 1, x0, x1, x5, x6 => if x6 < (x1.length : Int) then (if 0 ≤ x6 then ((spec_l1In.f (rd x1 x6) 0 9).bind fun t324 => (if t324 = true then (spec_RankOk.l0 k x0 x1 (mn x5 (rd x1 x6)) (wrap64 (x6 + 1))) else (some false))) else (none)) else ((spec_l1In.f x0 1 3).bind fun t326 => (if t326 = true then (if 0 ≤ x0 then (if (x1.length : Int) = (shl .i64 1 x0) then (some (x5 == 0)) else (some false)) else (none)) else (some false)))
def spec_RankOk.f (k : Nat) (a0 : Int) (l1 : List Int) : Option (Bool) := spec_RankOk.l0 k a0 l1 9 0
theorem spec_RankOk.mono_l : ∀ k, (∀ y0 y1 y2 y3, LeO (spec_RankOk.l0 k y0 y1 y2 y3) (spec_RankOk.l0 (k + 1) y0 y1 y2 y3))
 | 0 => fun _ _ _ _ r h => by simp [spec_RankOk.l0] at h
 | k + 1 => by
  have ih0 := spec_RankOk.mono_l k
  ·intro y0 y1 y2 y3
   unfold spec_RankOk.l0
   repeat' first
   | (with_reducible first | exact ih0 _ _ _ _ | exact LeO.refl _ | exact LeO.none _ | refine LeO.ite ?_ ?_ | refine LeO.bind ?_ (fun _ => ?_))
   | refine LeO.ite ?_ ?_
   | refine LeO.bind ?_ (fun _ => ?_)
theorem spec_RankOk.mono : ∀ a0 a1 k, LeO (spec_RankOk.f k a0 a1) (spec_RankOk.f (k + 1) a0 a1) := by
 intro a0 a1 k
 have ih0 := spec_RankOk.mono_l k
 unfold spec_RankOk.f
 repeat' first
   | (with_reducible first | exact ih0 _ _ _ _ | exact LeO.refl _ | exact LeO.none _ | refine LeO.ite ?_ ?_ | refine LeO.bind ?_ (fun _ => ?_))
   | refine LeO.ite ?_ ?_
   | refine LeO.bind ?_ (fun _ => ?_)
set_option maxHeartbeats 8000000 in
set_option maxRecDepth 100000 in
theorem spec_RankOk.calls (k : Nat) (a0 : Int) (A1 : Option Addr) (c1 : Nat) (l1 : List Int) (r : Bool) (w : World) (hr1 : Kd.C (Kd.int .i64) w A1 l1.length l1) (hc1 : l1.length ≤ c1) (h : spec_RankOk.f k a0 l1 = some r) :
  Calls Try.prog 59 #[.int .i64 a0, .slice A1 l1.length c1] w fun e w' => e = .returned (.bool r) ∧ Below w.heap.size w w' := by
 have HR1 := Asd.mk hr1
 have HC1 := Asd.mk hc1
 clear hr1 hc1
 have HB := Asd.mk (Below.refl w.heap.size w)
 have H : (spec_RankOk.l0 k a0 l1 9 0) = some r := h
 clear h
 have H' := Asd.mk H
 clear H
 go_enter Try.func59, Try.ntmps59
 go_wp2
 go_loopg [5, 6] k (fun kq v5 v6 w' => ∃ (x5_1 : Int) (x6_1 : Int), v5 = .int .i64 x5_1 ∧ v6 = .int .i64 x6_1 ∧ Asd (spec_RankOk.l0 kq a0 l1 x5_1 x6_1 = some r) ∧ Asd (kq ≤ k) ∧ Asd (Below w.heap.size w w'))
 case atStart => exact ⟨(9), (0), (by first | rfl | (simp; done) | (simp [*]; done)), (by first | rfl | (simp; done) | (simp [*]; done)), H', ⟨Nat.le_refl _⟩, ⟨wZ HB⟩⟩
 case round =>
  clear H'
  obtain ⟨x5_1, x6_1, rfl, rfl, HA, HK1, HB⟩ := hrel
  cases gk with
  | zero => exact absurd HA.out (by simp [spec_RankOk.l0])
  | succ k1 =>
   have H := HA.out
   clear HA
   simp only [spec_RankOk.l0] at H
   by_cases c3 : x6_1 < (l1.length : Int)
   ·rw [if_pos c3] at H
    have c3b0 : decide (x6_1 < (l1.length : Int)) = true := decide_eq_true c3
    clear c3
    by_cases c4 : 0 ≤ x6_1; rotate_left; (rw [if_neg c4] at H; exact absurd H (by simp))
    rw [if_pos c4] at H
    have c4b0 : decide (0 ≤ x6_1) = true := decide_eq_true c4
    clear c4
    replace H := Option.bind_eq_some_iff.mp H
    obtain ⟨t324, A50, H⟩ := H
    try dsimp only at H
    have A5 := Asd.mk A50
    clear A50
    by_cases c6 : t324 = true
    ·subst c6
     rw [if_pos rfl] at H
     obtain ⟨ji7, hji7⟩ : ∃ j_ : Int, (mn x5_1 (rd l1 x6_1)) = j_ := ⟨_, rfl⟩
     replace H : (spec_RankOk.l0 k1 a0 l1 ji7 (wrap64 (x6_1 + 1))) = some r := by first | (rw [hji7] at H; exact H) | (simp only [hji7] at H ⊢; exact H)
     (try rw [hji7] at A5)
     have hji7_ : (if (rd l1 x6_1) < x5_1 then (rd l1 x6_1) else x5_1) = ji7 := hji7
     have H' := Asd.mk H
     clear H
     have p323 : 0 ≤ (x6_1 : Int) := odt
     have q323 : x6_1 < (l1.length : Int) := odt
     obtain ⟨ad323, e323, hx323_0⟩ := Kd.at_int HR1.out x6_1 p323 q323
     cases e323
     replace hx323_0 := (HB.out.cell (World.block_lt_of_cell? w _ hx323_0)).trans hx323_0
     replace p323 := eq_true p323
     replace q323 := eq_true q323
     go_wp2_with (first | ((with_reducible refine gate_callee (f := 72) rfl ?_); refine gsM (some 17) rfl rfl Try.func72 (by kernel_rfl) rfl #[.int .i64 (rd l1 x6_1), .int .i64 0, .int .i64 9] rfl ?_; (with_reducible refine (spec_l1In.calls (rd l1 x6_1) 0 9 true _ A5.out).mono ?_); rintro e w' ⟨rfl, ⟨nd, rfl⟩⟩; refine ⟨_, rfl, ?_⟩; have p325 : 0 ≤ (x6_1 : Int) := odt; have q325 : x6_1 < (l1.length : Int) := odt; obtain ⟨ad325, e325, hx325_0⟩ := Kd.at_int HR1.out x6_1 p325 q325; obtain rfl : ad323 = ad325 := (by injection e325); replace hx325_0 := (HB.out.cell (World.block_lt_of_cell? w _ hx325_0)).trans hx325_0; replace p325 := eq_true p325; replace q325 := eq_true q325))
     go_roundg k1
     case measure => have := HK1.out; omega
     case rel => exact ⟨(ji7), (wrap64 (x6_1 + 1)), (by first | rfl | (simp; done) | (simp only [← hji7] <;> (first | rfl | simp)) | (simp [*]; done)), (by first | rfl | (simp; done) | (simp [*]; done)), H', ⟨by have := HK1.out; omega⟩, ⟨wZ HB⟩⟩
    ·replace c6 := Bool.eq_false_iff.mpr c6
     subst c6
     rw [if_neg (show ¬ (false = true) by decide)] at H
     obtain rfl := Option.some.inj H
     have p323 : 0 ≤ (x6_1 : Int) := odt
     have q323 : x6_1 < (l1.length : Int) := odt
     obtain ⟨ad323, e323, hx323_0⟩ := Kd.at_int HR1.out x6_1 p323 q323
     cases e323
     replace hx323_0 := (HB.out.cell (World.block_lt_of_cell? w _ hx323_0)).trans hx323_0
     replace p323 := eq_true p323
     replace q323 := eq_true q323
     go_wp2_with (first | ((with_reducible refine gate_callee (f := 72) rfl ?_); refine gsM (some 17) rfl rfl Try.func72 (by kernel_rfl) rfl #[.int .i64 (rd l1 x6_1), .int .i64 0, .int .i64 9] rfl ?_; (with_reducible refine (spec_l1In.calls (rd l1 x6_1) 0 9 false _ A5.out).mono ?_); rintro e w' ⟨rfl, ⟨nd, rfl⟩⟩; refine ⟨_, rfl, ?_⟩))
     go_ret
     exact ⟨by first | rfl | (simp [*, errW_none, errW_some] <;> rfl), wZ HB⟩
   ·rw [if_neg c3] at H
    have c3b0 : decide (x6_1 < (l1.length : Int)) = false := decide_eq_false c3
    clear c3
    replace H := Option.bind_eq_some_iff.mp H
    obtain ⟨t326, A80, H⟩ := H
    try dsimp only at H
    have A8 := Asd.mk A80
    clear A80
    by_cases c9 : t326 = true
    ·subst c9
     rw [if_pos rfl] at H
     by_cases c10 : 0 ≤ a0; rotate_left; (rw [if_neg c10] at H; exact absurd H (by simp))
     rw [if_pos c10] at H
     have c10b0 := eq_true c10
     have c10b1 : decide (0 ≤ a0) = true := decide_eq_true c10
     clear c10
     obtain ⟨ji11, hji11⟩ : ∃ j_ : Int, (shl .i64 1 a0) = j_ := ⟨_, rfl⟩
     replace H : (if (l1.length : Int) = (ji11) then (some (x5_1 == 0)) else (some false)) = some r := by first | (rw [hji11] at H; exact H) | (simp only [hji11] at H ⊢; exact H)
     (try rw [hji11] at A8)
     have hji11_ : (IntKind.i64.wrap (1 * 2 ^ min a0.toNat 64)) = ji11 := hji11
     have hji11z : a0 ≤ 64 → (IntKind.i64.wrap (1 * 2 ^ a0.toNat)) = ji11 := shl_small hji11
     have hji11u : (IntKind.i64.wrap (2 ^ min a0.toNat 64)) = ji11 := by have h_ := hji11_; rw [Int.one_mul] at h_; exact h_
     have hji11v : a0 ≤ 64 → (IntKind.i64.wrap (2 ^ a0.toNat)) = ji11 := fun hle_ => by have h_ := hji11z hle_; rw [Int.one_mul] at h_; exact h_
     have hji11y : (wrap64 (1 * 2 ^ min a0.toNat 64)) = ji11 := (i64_w _).symm.trans hji11_
     have hji11x : a0 ≤ 64 → (wrap64 (1 * 2 ^ a0.toNat)) = ji11 := fun h_ => (i64_w _).symm.trans (hji11z h_)
     by_cases c12 : (l1.length : Int) = (ji11)
     ·rw [if_pos c12] at H
      have c12b0 : ((l1.length : Int) == (ji11)) = true := beq_iff_eq.mpr c12
      have c12b1 : ((l1.length : Int) != (ji11)) = false := bne_eq_false_iff_eq.mpr c12
      clear c12
      obtain rfl := Option.some.inj H
      go_wp2_with (first | ((with_reducible refine gate_callee (f := 72) rfl ?_); refine gsM (some 26) rfl rfl Try.func72 (by kernel_rfl) rfl #[.int .i64 a0, .int .i64 1, .int .i64 3] rfl ?_; (with_reducible refine (spec_l1In.calls a0 1 3 true _ A8.out).mono ?_); rintro e w' ⟨rfl, ⟨nd, rfl⟩⟩; refine ⟨_, rfl, ?_⟩))
      go_ret
      exact ⟨by first | rfl | (simp [errW_none, errW_some] <;> rfl) | (simp only [← hji11]; first | rfl | (simp [errW_none, errW_some] <;> rfl)) | (simp [*, errW_none, errW_some] <;> rfl), wZ HB⟩
     ·rw [if_neg c12] at H
      have c12b0 : ((l1.length : Int) == (ji11)) = false := beq_eq_false_iff_ne.mpr c12
      have c12b1 : ((l1.length : Int) != (ji11)) = true := bne_iff_ne.mpr c12
      obtain rfl := Option.some.inj H
      go_wp2_with (first | ((with_reducible refine gate_callee (f := 72) rfl ?_); refine gsM (some 26) rfl rfl Try.func72 (by kernel_rfl) rfl #[.int .i64 a0, .int .i64 1, .int .i64 3] rfl ?_; (with_reducible refine (spec_l1In.calls a0 1 3 true _ A8.out).mono ?_); rintro e w' ⟨rfl, ⟨nd, rfl⟩⟩; refine ⟨_, rfl, ?_⟩))
      go_ret
      exact ⟨by first | rfl | (simp [errW_none, errW_some] <;> rfl) | (simp only [← hji11]; first | rfl | (simp [errW_none, errW_some] <;> rfl)) | (simp [*, errW_none, errW_some] <;> rfl), wZ HB⟩
    ·replace c9 := Bool.eq_false_iff.mpr c9
     subst c9
     rw [if_neg (show ¬ (false = true) by decide)] at H
     obtain rfl := Option.some.inj H
     go_wp2_with (first | ((with_reducible refine gate_callee (f := 72) rfl ?_); refine gsM (some 26) rfl rfl Try.func72 (by kernel_rfl) rfl #[.int .i64 a0, .int .i64 1, .int .i64 3] rfl ?_; (with_reducible refine (spec_l1In.calls a0 1 3 false _ A8.out).mono ?_); rintro e w' ⟨rfl, ⟨nd, rfl⟩⟩; refine ⟨_, rfl, ?_⟩))
     go_ret
     exact ⟨by first | rfl | (simp [*, errW_none, errW_some] <;> rfl), wZ HB⟩

end Go.Proofs.Ytihgpkohglcijaa.P
