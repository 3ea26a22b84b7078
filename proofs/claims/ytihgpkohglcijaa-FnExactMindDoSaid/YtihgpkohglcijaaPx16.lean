-- Written by a program of this session (wip/hook.py), which runs the kit's printer; Lean checks it.
import Derived.Test.YtihgpkohglcijaaPx0
import Derived.Test.YtihgpkohglcijaaPx11
import Derived.Test.YtihgpkohglcijaaPx15
namespace Go.Proofs.Ytihgpkohglcijaa.P
open Go.RowKit Go.Proofs.YtihgpkohglcijaaW.PrintWords Go.Proofs.YtihgpkohglcijaaW.PrintLast Go.Proofs.YtihgpkohglcijaaW.PrintMore
attribute [local go_sem] max2_int min2_int max_two min_two max_three min_three max_four min_four   -- for this text's walks alone
set_option linter.unusedVariables false
set_option linter.unusedSimpArgs false

/-! ### impl_MindDo: function 64 -/
def impl_MindDo.f (k : Nat) (a0_0 : Int) (l0_1 : List Int) (l0_2 : List (List Int)) (a1_0 : Int) (a1_1 : ByteArray) : Option (Int × List Int × (List (List Int)) × Bool) := (impl_isMind.f k a0_0 l0_1 l0_2).bind fun t425 => (if t425 = true then ((impl_mindDo.f k a0_0 l0_1 l0_2 a1_0 a1_1).bind fun bt426 => (some (bt426.1, bt426.2.1, bt426.2.2.1, bt426.2.2.2))) else (some (0, ([] : List Int), ([] : List (List Int)), false)))
theorem impl_MindDo.mono : ∀ a0 a1 a2 a3 a4 k, LeO (impl_MindDo.f k a0 a1 a2 a3 a4) (impl_MindDo.f (k + 1) a0 a1 a2 a3 a4) := by
 intro a0 a1 a2 a3 a4 k
 unfold impl_MindDo.f
 repeat' first
   | (with_reducible first | exact impl_isMind.mono _ _ _ _ | exact impl_mindDo.mono _ _ _ _ _ _ | exact LeO.refl _ | exact LeO.none _ | refine LeO.ite ?_ ?_ | refine LeO.bind ?_ (fun _ => ?_))
   | refine LeO.ite ?_ ?_
   | refine LeO.bind ?_ (fun _ => ?_)
set_option maxHeartbeats 8000000 in
set_option maxRecDepth 100000 in
theorem impl_MindDo.calls (k : Nat) (a0_0 : Int) (A0_1 : Option Addr) (c0_1 : Nat) (l0_1 : List Int) (A0_2 : Option Addr) (c0_2 : Nat) (l0_2 : List (List Int)) (a1_0 : Int) (a1_1 : ByteArray) (r1 : Int) (r2 : List Int) (r3 : List (List Int)) (r4 : Bool) (w : World) (hr0_1 : Kd.C (Kd.int .i64) w A0_1 l0_1.length l0_1) (hc0_1 : l0_1.length ≤ c0_1) (hr0_2 : Kd.C (Kd.slice 3 (Kd.int .i64)) w A0_2 l0_2.length l0_2) (hc0_2 : l0_2.length ≤ c0_2) (h : impl_MindDo.f k a0_0 l0_1 l0_2 a1_0 a1_1 = some (r1, r2, r3, r4)) :
  Calls Try.prog 64 #[.agg #[.int .i64 a0_0, .slice A0_1 l0_1.length c0_1, .slice A0_2 l0_2.length c0_2], .agg #[.int .i64 a1_0, .string a1_1]] w fun e w' => ∃ v1_ v2_ : Value, e = .returned (.tuple #[.agg #[.int .i64 r1, v1_, v2_], .bool r4]) ∧ Kd.R (Kd.int .i64) 3 w' w.heap.size (fun _ => True) v1_ r2 ∧ Kd.S (Kd.slice 3 (Kd.int .i64)) 55 w' w.heap.size (fun k_ => some k_ ≠ (v1_ : Value).ownBlock) v2_ r3 ∧ Below w.heap.size w w' := by
 have hu58 := Try.underlying58
 have hu26 := Try.underlying26
 have HR0_1 := Asd.mk hr0_1
 have HC0_1 := Asd.mk hc0_1
 clear hr0_1 hc0_1
 have HR0_2 := Asd.mk hr0_2
 have HC0_2 := Asd.mk hc0_2
 clear hr0_2 hc0_2
 have HB := Asd.mk (Below.refl w.heap.size w)
 have H : ((impl_isMind.f k a0_0 l0_1 l0_2).bind fun t425 => (if t425 = true then ((impl_mindDo.f k a0_0 l0_1 l0_2 a1_0 a1_1).bind fun bt426 => (some (bt426.1, bt426.2.1, bt426.2.2.1, bt426.2.2.2))) else (some (0, ([] : List Int), ([] : List (List Int)), false)))) = some (r1, r2, r3, r4) := h
 clear h
 replace H := Option.bind_eq_some_iff.mp H
 obtain ⟨t425, A30, H⟩ := H
 try dsimp only at H
 have A3 := Asd.mk A30
 clear A30
 by_cases c4 : t425 = true
 ·subst c4
  rw [if_pos rfl] at H
  replace H := Option.bind_eq_some_iff.mp H
  obtain ⟨⟨t426, t427, t430, t433⟩, A50, H⟩ := H
  try dsimp only at H
  have A5 := Asd.mk A50
  clear A50
  simp only [Option.some.injEq, Prod.mk.injEq] at H
  obtain ⟨rfl, rfl, rfl, rfl⟩ := H
  go_enter Try.func64, Try.ntmps64
  go_wp2_with (first | ((with_reducible refine gate_dst (N := 2) rfl ?_); refine bxE ?hg (N := 2) ?hd (cs := #[.int .i64 a0_0, .slice A0_1 l0_1.length c0_1, .slice A0_2 l0_2.length c0_2]) (t := 58) ?hr ?_; (case hd => rfl); (case hg => rfl); (case hr => first | (go_simp; done) | (go_simp; rfl)); intro gb422 hg w6 hbox hb; have BK422 := Asd.mk (hbox); have GW422 := bG HB hg; have GE422 := bG HB hg; replace HB := bW HB hb; clear hb hbox hg) | ((with_reducible refine gate_dst (N := 3) rfl ?_); refine bxE ?hg (N := 3) ?hd (cs := #[.int .i64 a1_0, .string a1_1]) (t := 26) ?hr ?_; (case hd => rfl); (case hg => rfl); (case hr => first | (go_simp; done) | (go_simp; rfl)); intro gb423 hg w7 hbox hb; have BK423 := Asd.mk (hbox); have GW423 := bG HB hg; have GE423 := bG HB hg; replace HB := bW HB hb; have NB422_423 := bL BK422 hg; have NB423_422 := bM BK422 hg; replace BK422 := bU BK422 hb; clear hb hbox hg) | ((with_reducible refine gate_dst (N := 4) rfl ?_); refine bxE ?hg (N := 4) ?hd (cs := #[.int .i64 0, .slice none 0 0, .slice none 0 0]) (t := 58) ?hr ?_; (case hd => rfl); (case hg => rfl); (case hr => first | (go_simp; done) | (go_simp; rfl)); intro gb424 hg w8 hbox hb; have BK424 := Asd.mk (hbox); have GW424 := bG HB hg; have GE424 := bG HB hg; replace HB := bW HB hb; have NB422_424 := bL BK422 hg; have NB424_422 := bM BK422 hg; replace BK422 := bU BK422 hb; have NB423_424 := bL BK423 hg; have NB424_423 := bM BK423 hg; replace BK423 := bU BK423 hb; clear hb hbox hg; have hnb9 := NB422_423.out; have hnc9 := NB423_422.out; have hnb10 := NB422_424.out; have hnc10 := NB424_422.out; obtain ⟨hcz11_0, hcz11_1, hcz11_2, hfz11_0, hfz11_1, hfz11_2⟩ := b3 BK422) | ((with_reducible refine gate_callee (f := 101) rfl ?_); refine gsM (some 7) rfl rfl Try.func101 (by kernel_rfl) rfl #[.agg #[.int .i64 a0_0, .slice A0_1 l0_1.length c0_1, .slice A0_2 l0_2.length c0_2]] rfl ?_; (with_reducible refine (impl_isMind.calls k a0_0 _ _ l0_1 _ _ l0_2 true _ ?side1 ?side2 ?side3 ?side4 A3.out).mono ?_); (case side1 => exact cZ (Kd.C_below HR0_1.out HB.out)); (case side2 => exact HC0_1.out); (case side3 => exact cZ (Kd.C_below HR0_2.out HB.out)); (case side4 => exact HC0_2.out); rintro e w12 ⟨rfl, hb⟩; refine ⟨_, rfl, ?_⟩; replace BK422 := bU BK422 hb; replace BK423 := bU BK423 hb; replace BK424 := bU BK424 hb; replace HB := bW HB hb; (try clear hb); (try clear hb2); (try clear hk); (try clear hi); obtain ⟨hcz13_0, hcz13_1, hcz13_2, hfz13_0, hfz13_1, hfz13_2⟩ := b3 BK422; have hnb14 := NB423_424.out; have hnc14 := NB424_423.out; obtain ⟨hcz15_0, hcz15_1, hfz15_0, hfz15_1⟩ := b2 BK423) | ((with_reducible refine gate_callee (f := 110) rfl ?_); refine gsM (some 12) rfl rfl Try.func110 (by kernel_rfl) rfl #[.agg #[.int .i64 a0_0, .slice A0_1 l0_1.length c0_1, .slice A0_2 l0_2.length c0_2], .agg #[.int .i64 a1_0, .string a1_1]] rfl ?_; (with_reducible refine (impl_mindDo.calls k a0_0 _ _ l0_1 _ _ l0_2 a1_0 a1_1 t426 t427 t430 t433 _ ?side1 ?side2 ?side3 ?side4 A5.out).mono ?_); (case side1 => exact cZ (Kd.C_below HR0_1.out HB.out)); (case side2 => exact HC0_1.out); (case side3 => exact cZ (Kd.C_below HR0_2.out HB.out)); (case side4 => exact HC0_2.out); rintro e w16 ⟨v428, v431, rfl, ho0, ho1, hb⟩; refine ⟨_, rfl, ?_⟩; have HO429 := Asd.mk (Kd.R_lower ho0 (below_size (wZ HB))); have HO432 := Asd.mk (Kd.S_lower ho1 (below_size (wZ HB))); replace BK422 := bU BK422 hb; replace BK423 := bU BK423 hb; replace BK424 := bU BK424 hb; replace HB := bW HB hb; (try clear hb); (try clear hb2); (try clear hk); (try clear hi); (try clear ho0); (try clear ho1); obtain ⟨hcz17_0, hcz17_1, hcz17_2, hfz17_0, hfz17_1, hfz17_2⟩ := b3 BK424; obtain ⟨Ao18, co18, eo18⟩ := Kd.R_slice HO429.out; subst eo18; obtain ⟨Ao19, co19, eo19⟩ := Kd.S_slice HO432.out; subst eo19))
  refine bodyPost_ret (results_ct rfl _ _ gb424 58 #[.int .i64 t426, .slice Ao18 t427.length co18, .slice Ao19 t430.length co19] (0, 0) _ rfl (kP BK424) Try.underlying58 rfl (by kernel_rfl)) rfl ?_
  exact ⟨_, _, by first | rfl | (simp [*, errW_none, errW_some] <;> rfl), rT HO429, sT HO432, wZ HB⟩
 ·replace c4 := Bool.eq_false_iff.mpr c4
  subst c4
  rw [if_neg (show ¬ (false = true) by decide)] at H
  simp only [Option.some.injEq, Prod.mk.injEq] at H
  obtain ⟨rfl, rfl, rfl, rfl⟩ := H
  go_enter Try.func64, Try.ntmps64
  go_wp2_with (first | ((with_reducible refine gate_dst (N := 2) rfl ?_); refine bxE ?hg (N := 2) ?hd (cs := #[.int .i64 a0_0, .slice A0_1 l0_1.length c0_1, .slice A0_2 l0_2.length c0_2]) (t := 58) ?hr ?_; (case hd => rfl); (case hg => rfl); (case hr => first | (go_simp; done) | (go_simp; rfl)); intro gb422 hg w20 hbox hb; have BK422 := Asd.mk (hbox); have GW422 := bG HB hg; have GE422 := bG HB hg; replace HB := bW HB hb; clear hb hbox hg) | ((with_reducible refine gate_dst (N := 3) rfl ?_); refine bxE ?hg (N := 3) ?hd (cs := #[.int .i64 a1_0, .string a1_1]) (t := 26) ?hr ?_; (case hd => rfl); (case hg => rfl); (case hr => first | (go_simp; done) | (go_simp; rfl)); intro gb423 hg w21 hbox hb; have BK423 := Asd.mk (hbox); have GW423 := bG HB hg; have GE423 := bG HB hg; replace HB := bW HB hb; have NB422_423 := bL BK422 hg; have NB423_422 := bM BK422 hg; replace BK422 := bU BK422 hb; clear hb hbox hg) | ((with_reducible refine gate_dst (N := 4) rfl ?_); refine bxE ?hg (N := 4) ?hd (cs := #[.int .i64 0, .slice none 0 0, .slice none 0 0]) (t := 58) ?hr ?_; (case hd => rfl); (case hg => rfl); (case hr => first | (go_simp; done) | (go_simp; rfl)); intro gb424 hg w22 hbox hb; have BK424 := Asd.mk (hbox); have GW424 := bG HB hg; have GE424 := bG HB hg; replace HB := bW HB hb; have NB422_424 := bL BK422 hg; have NB424_422 := bM BK422 hg; replace BK422 := bU BK422 hb; have NB423_424 := bL BK423 hg; have NB424_423 := bM BK423 hg; replace BK423 := bU BK423 hb; clear hb hbox hg; have hnb23 := NB422_423.out; have hnc23 := NB423_422.out; have hnb24 := NB422_424.out; have hnc24 := NB424_422.out; obtain ⟨hcz25_0, hcz25_1, hcz25_2, hfz25_0, hfz25_1, hfz25_2⟩ := b3 BK422) | ((with_reducible refine gate_callee (f := 101) rfl ?_); refine gsM (some 7) rfl rfl Try.func101 (by kernel_rfl) rfl #[.agg #[.int .i64 a0_0, .slice A0_1 l0_1.length c0_1, .slice A0_2 l0_2.length c0_2]] rfl ?_; (with_reducible refine (impl_isMind.calls k a0_0 _ _ l0_1 _ _ l0_2 false _ ?side1 ?side2 ?side3 ?side4 A3.out).mono ?_); (case side1 => exact cZ (Kd.C_below HR0_1.out HB.out)); (case side2 => exact HC0_1.out); (case side3 => exact cZ (Kd.C_below HR0_2.out HB.out)); (case side4 => exact HC0_2.out); rintro e w26 ⟨rfl, hb⟩; refine ⟨_, rfl, ?_⟩; replace BK422 := bU BK422 hb; replace BK423 := bU BK423 hb; replace BK424 := bU BK424 hb; replace HB := bW HB hb; (try clear hb); (try clear hb2); (try clear hk); (try clear hi); have hnb27 := NB424_423.out; have hnc27 := NB423_424.out; obtain ⟨hcz28_0, hcz28_1, hcz28_2, hfz28_0, hfz28_1, hfz28_2⟩ := b3 BK424))
  refine bodyPost_ret (results_ct rfl _ _ gb424 58 #[.int .i64 0, .slice none 0 0, .slice none 0 0] (0, 0) _ rfl (kP BK424) Try.underlying58 rfl (by kernel_rfl)) rfl ?_
  exact ⟨_, _, by first | rfl | (simp [*, errW_none, errW_some] <;> rfl), by first | exact Kd.R_nil _ _ _ _ _ | exact Kd.N_nil _ _ _ _ _ | exact Kd.V_nil _ _ _ _ _ | exact Kd.Q_nil _ _ _ _ _ | exact Kd.S_nil _ _ _ _ _, by first | exact Kd.S_nil _ _ _ _ _ | exact Kd.N_nil _ _ _ _ _ | exact Kd.V_nil _ _ _ _ _ | exact Kd.Q_nil _ _ _ _ _ | exact Kd.R_nil _ _ _ _ _, wZ HB⟩

end Go.Proofs.Ytihgpkohglcijaa.P
