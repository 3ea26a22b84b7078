-- Written by a program of this session (wip/hook.py), which runs the kit's printer; Lean checks it.
import Derived.Test.YtihgpkohglcijaaPx0
import Derived.Test.YtihgpkohglcijaaPx1
import Derived.Test.YtihgpkohglcijaaPx5
import Derived.Test.YtihgpkohglcijaaPx8
import Derived.Test.YtihgpkohglcijaaPx9
namespace Go.Proofs.Ytihgpkohglcijaa.P
open Go.RowKit Go.Proofs.YtihgpkohglcijaaW.PrintWords Go.Proofs.YtihgpkohglcijaaW.PrintLast Go.Proofs.YtihgpkohglcijaaW.PrintMore
attribute [local go_sem] max2_int min2_int max_two min_two max_three min_three max_four min_four   -- for this text's walks alone
set_option linter.unusedVariables false
set_option linter.unusedSimpArgs false

attribute [local go_sem high] eqA26
/-! ### impl_mindDo: function 110 -/
mutual
def impl_mindDo.j0 : Nat → Bool → Int → List Int → List (List Int) → Int → ByteArray → Int → List Int → List (List Int) → Option (Int × List Int × (List (List Int)) × Bool)
 | 0, _, _, _, _, _, _, _, _, _ => none
 | k + 1, x45, x254000, x254001, x254002, x255000, x255001, x264000, x264001, x264002 => if x45 = true then (some (x264000, x264001, x264002, false)) else ((impl_HoldsIn.f k x254000 x255001).bind fun bt276 => (if bt276.2 = true then (impl_mindDo.j1 k bt276.1 (bt276.1 == 0) x254000 x254001 x254002 x255000 x255001 x264000 x264001 x264002) else (impl_mindDo.j1 k bt276.1 true x254000 x254001 x254002 x255000 x255001 x264000 x264001 x264002)))
def impl_mindDo.j1 : Nat → Int → Bool → Int → List Int → List (List Int) → Int → ByteArray → Int → List Int → List (List Int) → Option (Int × List Int × (List (List Int)) × Bool)
 | 0, _, _, _, _, _, _, _, _, _, _ => none
 | k + 1, x8, x60, x254000, x254001, x254002, x255000, x255001, x264000, x264001, x264002 => if x60 = true then (some (x264000, x264001, x264002, false)) else (if x255000 = 1 then (impl_mindDo.j2 k x8 1 x254000 x254001 x254002 x264000 x264001 x264002) else (impl_mindDo.j2 k x8 0 x254000 x254001 x254002 x264000 x264001 x264002))
def impl_mindDo.j2 : Nat → Int → Int → Int → List Int → List (List Int) → Int → List Int → List (List Int) → Option (Int × List Int × (List (List Int)) × Bool)
 | 0, _, _, _, _, _, _, _, _ => none
 | k + 1, x8, x10, x254000, x254001, x254002, x264000, x264001, x264002 => (impl_changedBy.f k x254000 x254001 x10 x8).bind fun t278 => ((slices_Equal_int_int.f k t278 x254001).bind fun t281 => (if t281 = true then (some (x264000, x264001, x264002, false)) else (if x264002.length < 5864062014805 then ((some (x264002 ++ [x264001] : List (List Int))).bind fun y282 => (if (y282.length : Int) > 10 then (if 1 ≤ (y282.length : Int) then ((impl_copyMind.f k x254000 t278 (y282.drop (1 : Int).toNat)).bind fun bt288 => (some (bt288.1, bt288.2.1, bt288.2.2, true))) else (none)) else ((impl_copyMind.f k x254000 t278 y282).bind fun bt295 => (some (bt295.1, bt295.2.1, bt295.2.2, true))))) else (none))))
end
def impl_mindDo.f (k : Nat) (a0_0 : Int) (l0_1 : List Int) (l0_2 : List (List Int)) (a1_0 : Int) (a1_1 : ByteArray) : Option (Int × List Int × (List (List Int)) × Bool) := (impl_copyMind.f k a0_0 l0_1 l0_2).bind fun bt256 => (if (a1_0 == 2 && (a1_1.toList == ([] : List UInt8))) = true then (if (wrap64 ((bt256.2.2.length : Int) - 1)) < 0 then (some (bt256.1, bt256.2.1, bt256.2.2, false)) else (if 0 ≤ (wrap64 ((bt256.2.2.length : Int) - 1)) then (if (wrap64 ((bt256.2.2.length : Int) - 1)) < (bt256.2.2.length : Int) then (if (wrap64 ((bt256.2.2.length : Int) - 1)) ≤ (bt256.2.2.length : Int) then ((impl_copyMind.f k a0_0 (rd_L5 bt256.2.2 (wrap64 ((bt256.2.2.length : Int) - 1))) (bt256.2.2.take ((wrap64 ((bt256.2.2.length : Int) - 1)) : Int).toNat)).bind fun bt269 => (some (bt269.1, bt269.2.1, bt269.2.2, true))) else (none)) else (none)) else (none))) else (if a1_0 = 0 then (impl_mindDo.j0 k false a0_0 l0_1 l0_2 a1_0 a1_1 bt256.1 bt256.2.1 bt256.2.2) else (impl_mindDo.j0 k (a1_0 != 1) a0_0 l0_1 l0_2 a1_0 a1_1 bt256.1 bt256.2.1 bt256.2.2)))
theorem impl_mindDo.mono_l : ∀ k, (∀ y0 y1 y2 y3 y4 y5 y6 y7 y8, LeO (impl_mindDo.j0 k y0 y1 y2 y3 y4 y5 y6 y7 y8) (impl_mindDo.j0 (k + 1) y0 y1 y2 y3 y4 y5 y6 y7 y8)) ∧ (∀ y0 y1 y2 y3 y4 y5 y6 y7 y8 y9, LeO (impl_mindDo.j1 k y0 y1 y2 y3 y4 y5 y6 y7 y8 y9) (impl_mindDo.j1 (k + 1) y0 y1 y2 y3 y4 y5 y6 y7 y8 y9)) ∧ (∀ y0 y1 y2 y3 y4 y5 y6 y7, LeO (impl_mindDo.j2 k y0 y1 y2 y3 y4 y5 y6 y7) (impl_mindDo.j2 (k + 1) y0 y1 y2 y3 y4 y5 y6 y7))
 | 0 => ⟨fun _ _ _ _ _ _ _ _ _ r h => by simp [impl_mindDo.j0] at h, fun _ _ _ _ _ _ _ _ _ _ r h => by simp [impl_mindDo.j1] at h, fun _ _ _ _ _ _ _ _ r h => by simp [impl_mindDo.j2] at h⟩
 | k + 1 => by
  obtain ⟨ih0, ih1, ih2⟩ := impl_mindDo.mono_l k
  refine ⟨?_, ?_, ?_⟩
  ·intro y0 y1 y2 y3 y4 y5 y6 y7 y8
   unfold impl_mindDo.j0
   repeat' first
   | (with_reducible first | exact ih0 _ _ _ _ _ _ _ _ _ | exact ih1 _ _ _ _ _ _ _ _ _ _ | exact ih2 _ _ _ _ _ _ _ _ | exact impl_HoldsIn.mono _ _ _ | exact impl_changedBy.mono _ _ _ _ _ | exact impl_copyMind.mono _ _ _ _ | exact slices_Equal_int_int.mono _ _ _ | exact LeO.refl _ | exact LeO.none _ | refine LeO.ite ?_ ?_ | refine LeO.bind ?_ (fun _ => ?_))
   | refine LeO.ite ?_ ?_
   | refine LeO.bind ?_ (fun _ => ?_)
  ·intro y0 y1 y2 y3 y4 y5 y6 y7 y8 y9
   unfold impl_mindDo.j1
   repeat' first
   | (with_reducible first | exact ih0 _ _ _ _ _ _ _ _ _ | exact ih1 _ _ _ _ _ _ _ _ _ _ | exact ih2 _ _ _ _ _ _ _ _ | exact impl_HoldsIn.mono _ _ _ | exact impl_changedBy.mono _ _ _ _ _ | exact impl_copyMind.mono _ _ _ _ | exact slices_Equal_int_int.mono _ _ _ | exact LeO.refl _ | exact LeO.none _ | refine LeO.ite ?_ ?_ | refine LeO.bind ?_ (fun _ => ?_))
   | refine LeO.ite ?_ ?_
   | refine LeO.bind ?_ (fun _ => ?_)
  ·intro y0 y1 y2 y3 y4 y5 y6 y7
   unfold impl_mindDo.j2
   repeat' first
   | (with_reducible first | exact ih0 _ _ _ _ _ _ _ _ _ | exact ih1 _ _ _ _ _ _ _ _ _ _ | exact ih2 _ _ _ _ _ _ _ _ | exact impl_HoldsIn.mono _ _ _ | exact impl_changedBy.mono _ _ _ _ _ | exact impl_copyMind.mono _ _ _ _ | exact slices_Equal_int_int.mono _ _ _ | exact LeO.refl _ | exact LeO.none _ | refine LeO.ite ?_ ?_ | refine LeO.bind ?_ (fun _ => ?_))
   | refine LeO.ite ?_ ?_
   | refine LeO.bind ?_ (fun _ => ?_)
theorem impl_mindDo.mono : ∀ a0 a1 a2 a3 a4 k, LeO (impl_mindDo.f k a0 a1 a2 a3 a4) (impl_mindDo.f (k + 1) a0 a1 a2 a3 a4) := by
 intro a0 a1 a2 a3 a4 k
 obtain ⟨ih0, ih1, ih2⟩ := impl_mindDo.mono_l k
 unfold impl_mindDo.f
 repeat' first
   | (with_reducible first | exact ih0 _ _ _ _ _ _ _ _ _ | exact ih1 _ _ _ _ _ _ _ _ _ _ | exact ih2 _ _ _ _ _ _ _ _ | exact impl_HoldsIn.mono _ _ _ | exact impl_changedBy.mono _ _ _ _ _ | exact impl_copyMind.mono _ _ _ _ | exact slices_Equal_int_int.mono _ _ _ | exact LeO.refl _ | exact LeO.none _ | refine LeO.ite ?_ ?_ | refine LeO.bind ?_ (fun _ => ?_))
   | refine LeO.ite ?_ ?_
   | refine LeO.bind ?_ (fun _ => ?_)
def impl_mindDo.T6 : Bool × List (List Nat × List Nat) := (true, [([], []), ([0], [0]), ([], []), ([2], [2]), ([], []), ([3, 4], [3, 4]), ([5], [5]), ([], []), ([7], [7]), ([], []), ([8, 9], [8, 9]), ([1, 6, 10], [1, 6, 10]), ([11], [11]), ([12, 12, 0, 1, 2, 3, 4, 5, 6, 7, 8, 9, 10, 11, 12], [12]), ([13, 0, 1, 2, 3, 4, 5, 6, 7, 8, 9, 10, 11, 12, 13], [])])
def impl_mindDo.B6 : List Nat := [0, 1, 0, 4, 0, 28, 60, 0, 128, 0, 896, 2047, 4095, 8191, 16383]
theorem impl_mindDo.tab6 : rtab .any (opsOf Try.f110 6) = impl_mindDo.T6 := by kernel_rfl
theorem impl_mindDo.bits6 : waitsOk impl_mindDo.T6.2 impl_mindDo.B6 = true := by kernel_rfl
set_option maxHeartbeats 8000000 in
set_option maxRecDepth 100000 in
theorem impl_mindDo.calls (k : Nat) (a0_0 : Int) (A0_1 : Option Addr) (c0_1 : Nat) (l0_1 : List Int) (A0_2 : Option Addr) (c0_2 : Nat) (l0_2 : List (List Int)) (a1_0 : Int) (a1_1 : ByteArray) (r1 : Int) (r2 : List Int) (r3 : List (List Int)) (r4 : Bool) (w : World) (hr0_1 : Kd.C (Kd.int .i64) w A0_1 l0_1.length l0_1) (hc0_1 : l0_1.length ≤ c0_1) (hr0_2 : Kd.C (Kd.slice 3 (Kd.int .i64)) w A0_2 l0_2.length l0_2) (hc0_2 : l0_2.length ≤ c0_2) (h : impl_mindDo.f k a0_0 l0_1 l0_2 a1_0 a1_1 = some (r1, r2, r3, r4)) :
  Calls Try.prog 110 #[.agg #[.int .i64 a0_0, .slice A0_1 l0_1.length c0_1, .slice A0_2 l0_2.length c0_2], .agg #[.int .i64 a1_0, .string a1_1]] w fun e w' => ∃ v1_ v2_ : Value, e = .returned (.tuple #[.agg #[.int .i64 r1, v1_, v2_], .bool r4]) ∧ Kd.R (Kd.int .i64) 3 w' w.heap.size (fun _ => True) v1_ r2 ∧ Kd.S (Kd.slice 3 (Kd.int .i64)) 55 w' w.heap.size (fun k_ => some k_ ≠ (v1_ : Value).ownBlock) v2_ r3 ∧ Below w.heap.size w w' := by
 have hu58 := Try.underlying58
 have hu26 := Try.underlying26
 have HR0_1 := Asd.mk hr0_1
 have HC0_1 := Asd.mk hc0_1
 clear hr0_1 hc0_1
 have HR0_2 := Asd.mk hr0_2
 have HC0_2 := Asd.mk hc0_2
 clear hr0_2 hc0_2
 have HB := Asd.mk (Below.refl w.heap.size w)
 have H : ((impl_copyMind.f k a0_0 l0_1 l0_2).bind fun bt256 => (if (a1_0 == 2 && (a1_1.toList == ([] : List UInt8))) = true then (if (wrap64 ((bt256.2.2.length : Int) - 1)) < 0 then (some (bt256.1, bt256.2.1, bt256.2.2, false)) else (if 0 ≤ (wrap64 ((bt256.2.2.length : Int) - 1)) then (if (wrap64 ((bt256.2.2.length : Int) - 1)) < (bt256.2.2.length : Int) then (if (wrap64 ((bt256.2.2.length : Int) - 1)) ≤ (bt256.2.2.length : Int) then ((impl_copyMind.f k a0_0 (rd_L5 bt256.2.2 (wrap64 ((bt256.2.2.length : Int) - 1))) (bt256.2.2.take ((wrap64 ((bt256.2.2.length : Int) - 1)) : Int).toNat)).bind fun bt269 => (some (bt269.1, bt269.2.1, bt269.2.2, true))) else (none)) else (none)) else (none))) else (if a1_0 = 0 then (impl_mindDo.j0 k false a0_0 l0_1 l0_2 a1_0 a1_1 bt256.1 bt256.2.1 bt256.2.2) else (impl_mindDo.j0 k (a1_0 != 1) a0_0 l0_1 l0_2 a1_0 a1_1 bt256.1 bt256.2.1 bt256.2.2)))) = some (r1, r2, r3, r4) := h
 clear h
 replace H := Option.bind_eq_some_iff.mp H
 obtain ⟨⟨t256, t257, t260⟩, A30, H⟩ := H
 try dsimp only at H
 have A3 := Asd.mk A30
 clear A30
 by_cases c4 : (a1_0 == 2 && (a1_1.toList == ([] : List UInt8))) = true
 ·rw [if_pos c4] at H
  have c4b0 : (a1_0 == 2 && (a1_1.toList == ([] : List UInt8))) = true := c4
  try have c4b7 : (a1_0 == 2 && a1_1.toList.isEmpty) = true := by have h_ := c4b0; (repeat rw [Hof.isEmpty_beq]); exact h_
  (try (have c4b1 : decide (a1_0 = 2 && (a1_1.toList == ([] : List UInt8))) = true := by simpa using c4))
  (try (have c4b2 : (a1_0 == 2 && (a1_1.toList == ([] : List UInt8))) = true := by simpa using c4))
  clear c4
  by_cases c5 : (wrap64 ((t260.length : Int) - 1)) < 0
  ·rw [if_pos c5] at H
   have c5b0 : decide ((wrap64 ((t260.length : Int) - 1)) < 0) = true := decide_eq_true c5
   clear c5
   simp only [Option.some.injEq, Prod.mk.injEq] at H
   obtain ⟨rfl, rfl, rfl, rfl⟩ := H
   go_enter Try.func110, Try.ntmps110
   go_wp2_with (first | ((with_reducible refine gate_dst (N := 2) rfl ?_); refine bxE ?hg (N := 2) ?hd (cs := #[.int .i64 a0_0, .slice A0_1 l0_1.length c0_1, .slice A0_2 l0_2.length c0_2]) (t := 58) ?hr ?_; (case hd => rfl); (case hg => rfl); (case hr => first | (go_simp; done) | (go_simp; rfl)); intro gb253 hg w6 hbox hb; have BK253 := Asd.mk (hbox); have GW253 := bG HB hg; have GE253 := bG HB hg; replace HB := bW HB hb; clear hb hbox hg) | ((with_reducible refine gate_dst (N := 3) rfl ?_); refine bxE ?hg (N := 3) ?hd (cs := #[.int .i64 a1_0, .string a1_1]) (t := 26) ?hr ?_; (case hd => rfl); (case hg => rfl); (case hr => first | (go_simp; done) | (go_simp; rfl)); intro gb254 hg w7 hbox hb; have BK254 := Asd.mk (hbox); have GW254 := bG HB hg; have GE254 := bG HB hg; replace HB := bW HB hb; have NB253_254 := bL BK253 hg; have NB254_253 := bM BK253 hg; replace BK253 := bU BK253 hb; clear hb hbox hg) | ((with_reducible refine gate_dst (N := 4) rfl ?_); refine bxE ?hg (N := 4) ?hd (cs := #[.int .i64 0, .slice none 0 0, .slice none 0 0]) (t := 58) ?hr ?_; (case hd => rfl); (case hg => rfl); (case hr => first | (go_simp; done) | (go_simp; rfl)); intro gb255 hg w8 hbox hb; have BK255 := Asd.mk (hbox); have GW255 := bG HB hg; have GE255 := bG HB hg; replace HB := bW HB hb; have NB253_255 := bL BK253 hg; have NB255_253 := bM BK253 hg; replace BK253 := bU BK253 hb; have NB254_255 := bL BK254 hg; have NB255_254 := bM BK254 hg; replace BK254 := bU BK254 hb; clear hb hbox hg; have hnb9 := NB253_254.out; have hnc9 := NB254_253.out; have hnb10 := NB253_255.out; have hnc10 := NB255_253.out; obtain ⟨hcz11_0, hcz11_1, hcz11_2, hfz11_0, hfz11_1, hfz11_2⟩ := b3 BK253) | ((with_reducible refine gate_callee (f := 116) rfl ?_); refine gsM (some 14) rfl rfl Try.func116 (by kernel_rfl) rfl #[.agg #[.int .i64 a0_0, .slice A0_1 l0_1.length c0_1, .slice A0_2 l0_2.length c0_2]] rfl ?_; (with_reducible refine (impl_copyMind.calls k a0_0 _ _ l0_1 _ _ l0_2 t256 t257 t260 _ ?side1 ?side2 ?side3 ?side4 A3.out).mono ?_); (case side1 => exact cZ (Kd.C_below HR0_1.out HB.out)); (case side2 => exact HC0_1.out); (case side3 => exact cZ (Kd.C_below HR0_2.out HB.out)); (case side4 => exact HC0_2.out); rintro e w12 ⟨v258, v261, rfl, ho0, ho1, hb⟩; refine ⟨_, rfl, ?_⟩; have HO259 := Asd.mk (Kd.R_lower ho0 (below_size (wZ HB))); have HO262 := Asd.mk (Kd.S_lower ho1 (below_size (wZ HB))); replace BK253 := bU BK253 hb; replace BK254 := bU BK254 hb; replace BK255 := bU BK255 hb; replace HB := bW HB hb; (try clear hb); (try clear hb2); (try clear hk); (try clear hi); (try clear ho0); (try clear ho1)) | ((with_reducible refine gate_dst (N := 6) rfl ?_); refine bxE ?hg (N := 6) ?hd (cs := #[.int .i64 0, .slice none 0 0, .slice none 0 0]) (t := 58) ?hr ?_; (case hd => rfl); (case hg => rfl); (case hr => first | (go_simp; done) | (go_simp; rfl)); intro gb263 hg w13 hbox hb; replace HO259 := bR HO259 hb; replace HO262 := bS HO262 hb; have BK263 := Asd.mk (hbox); have GW263 := bG HB hg; have GE263 := bG HB hg; replace HB := bW HB hb; have NB253_263 := bL BK253 hg; have NB263_253 := bM BK253 hg; replace BK253 := bU BK253 hb; have NB254_263 := bL BK254 hg; have NB263_254 := bM BK254 hg; replace BK254 := bU BK254 hb; have NB255_263 := bL BK255 hg; have NB263_255 := bM BK255 hg; replace BK255 := bU BK255 hb; clear hb hbox hg; have hnb14 := NB263_253.out; have hnc14 := NB253_263.out; have hnb15 := NB263_254.out; have hnc15 := NB254_263.out; have hnb16 := NB263_255.out; have hnc16 := NB255_263.out; obtain ⟨hcz17_0, hcz17_1, hcz17_2, hfz17_0, hfz17_1, hfz17_2⟩ := b3 BK263; obtain ⟨Ao18, co18, eo18⟩ := Kd.R_slice HO259.out; subst eo18; obtain ⟨Ao19, co19, eo19⟩ := Kd.S_slice HO262.out; subst eo19; have hnb20 := NB254_255.out; have hnc20 := NB255_254.out; obtain ⟨hcz21_0, hcz21_1, hfz21_0, hfz21_1⟩ := b2 BK254; obtain ⟨hcz22_0, hcz22_1, hcz22_2, hfz22_0, hfz22_1, hfz22_2⟩ := b3 BK255))
   refine bodyPost_ret (results_ct rfl _ _ gb255 58 #[.int .i64 t256, .slice Ao18 t257.length co18, .slice Ao19 t260.length co19] (0, 0) _ rfl (kP BK255) Try.underlying58 rfl (by kernel_rfl)) rfl ?_
   exact ⟨_, _, by first | rfl | (simp [*, errW_none, errW_some] <;> rfl), rT HO259, by (repeat apply Kd.SS); exact Kd.S_mono (Kd.S_far (p := ⟨gb255, 2, none⟩) (Kd.S_far (p := ⟨gb255, 1, none⟩) (Kd.S_far (p := ⟨gb255, 0, none⟩) (Kd.S_far (p := ⟨gb263, 2, none⟩) (Kd.S_far (p := ⟨gb263, 1, none⟩) (Kd.S_far (p := ⟨gb263, 0, none⟩) (Kd.S_types (Kd.S_types HO262.out BK263.out (by decide)) BK255.out (by decide)) (fun _ hk => hk.1.2) (.int .i64 t256)) (fun _ hk => hk.1.2) (.slice Ao18 t257.length co18)) (fun _ hk => hk.1.2) (.slice Ao19 t260.length co19)) (fun _ hk => hk.2) (.int .i64 t256)) (fun _ hk => hk.2) (.slice Ao18 t257.length co18)) (fun _ hk => hk.2) (.slice Ao19 t260.length co19)) (fun _ hk => by first | exact hk.1.1 | exact hk.1.2), wZ HB⟩
  ·rw [if_neg c5] at H
   have c5b0 : decide ((wrap64 ((t260.length : Int) - 1)) < 0) = false := decide_eq_false c5
   clear c5
   obtain ⟨ji23, hji23⟩ : ∃ j_ : Int, (wrap64 ((t260.length : Int) - 1)) = j_ := ⟨_, rfl⟩
   replace H : (if 0 ≤ (ji23) then (if (ji23) < (t260.length : Int) then (if (ji23) ≤ (t260.length : Int) then ((impl_copyMind.f k a0_0 (rd_L5 t260 (ji23)) (t260.take ((ji23) : Int).toNat)).bind fun bt269 => (some (bt269.1, bt269.2.1, bt269.2.2, true))) else (none)) else (none)) else (none)) = some (r1, r2, r3, r4) := by first | (rw [hji23] at H; exact H) | (simp only [hji23] at H ⊢; exact H)
   (try rw [hji23] at c5b0)
   (try rw [hji23] at A3)
   have hji23w : (IntKind.i64.wrap ((t260.length : Int) - 1)) = ji23 := (i64_w _).trans hji23
   by_cases c24 : 0 ≤ (ji23); rotate_left; (rw [if_neg c24] at H; exact absurd H (by simp))
   rw [if_pos c24] at H
   have c24b0 : decide (0 ≤ (ji23)) = true := decide_eq_true c24
   clear c24
   by_cases c25 : (ji23) < (t260.length : Int); rotate_left; (rw [if_neg c25] at H; exact absurd H (by simp))
   rw [if_pos c25] at H
   have c25b0 : decide ((ji23) < (t260.length : Int)) = true := decide_eq_true c25
   clear c25
   have c26b0 := eq_true (odt : 0 ≤ (ji23))
   by_cases c27 : (ji23) ≤ (t260.length : Int); rotate_left; (rw [if_neg c27] at H; exact absurd H (by simp))
   rw [if_pos c27] at H
   have c27b0 := eq_true c27
   have c27b1 : decide ((ji23) ≤ (t260.length : Int)) = true := decide_eq_true c27
   clear c27
   obtain ⟨y265, hy265⟩ : ∃ y_ : List (List Int), y_ = (t260.take ((ji23) : Int).toNat) := ⟨_, rfl⟩
   replace H : ((impl_copyMind.f k a0_0 (rd_L5 t260 (ji23)) y265).bind fun bt269 => (some (bt269.1, bt269.2.1, bt269.2.2, true))) = some (r1, r2, r3, r4) := by first | (rw [hy265]; with_reducible exact H) | (have H2_ := (Option.bind_some _ _).symm.trans H; rw [hy265]; with_reducible exact H2_) | (have H2_ := (Option.bind_some _ _).symm.trans H; with_reducible exact H2_) | with_reducible exact H | (rw [hy265]; exact H) | exact H
   have Ny265 := Asd.mk hy265
   clear hy265
   replace H := Option.bind_eq_some_iff.mp H
   obtain ⟨⟨t269, t270, t273⟩, A280, H⟩ := H
   try dsimp only at H
   have A28 := Asd.mk A280
   clear A280
   simp only [Option.some.injEq, Prod.mk.injEq] at H
   obtain ⟨rfl, rfl, rfl, rfl⟩ := H
   go_enter Try.func110, Try.ntmps110
   try go_wp2_with (first | ((with_reducible refine gate_dst (N := 2) rfl ?_); refine bxE ?hg (N := 2) ?hd (cs := #[.int .i64 a0_0, .slice A0_1 l0_1.length c0_1, .slice A0_2 l0_2.length c0_2]) (t := 58) ?hr ?_; (case hd => rfl); (case hg => rfl); (case hr => first | (go_simp; done) | (go_simp; rfl)); intro gb253 hg w29 hbox hb; have BK253 := Asd.mk (hbox); have GW253 := bG HB hg; have GE253 := bG HB hg; replace HB := bW HB hb; clear hb hbox hg) | ((with_reducible refine gate_dst (N := 3) rfl ?_); refine bxE ?hg (N := 3) ?hd (cs := #[.int .i64 a1_0, .string a1_1]) (t := 26) ?hr ?_; (case hd => rfl); (case hg => rfl); (case hr => first | (go_simp; done) | (go_simp; rfl)); intro gb254 hg w30 hbox hb; have BK254 := Asd.mk (hbox); have GW254 := bG HB hg; have GE254 := bG HB hg; replace HB := bW HB hb; have NB253_254 := bL BK253 hg; have NB254_253 := bM BK253 hg; replace BK253 := bU BK253 hb; clear hb hbox hg) | ((with_reducible refine gate_dst (N := 4) rfl ?_); refine bxE ?hg (N := 4) ?hd (cs := #[.int .i64 0, .slice none 0 0, .slice none 0 0]) (t := 58) ?hr ?_; (case hd => rfl); (case hg => rfl); (case hr => first | (go_simp; done) | (go_simp; rfl)); intro gb255 hg w31 hbox hb; have BK255 := Asd.mk (hbox); have GW255 := bG HB hg; have GE255 := bG HB hg; replace HB := bW HB hb; have NB253_255 := bL BK253 hg; have NB255_253 := bM BK253 hg; replace BK253 := bU BK253 hb; have NB254_255 := bL BK254 hg; have NB255_254 := bM BK254 hg; replace BK254 := bU BK254 hb; clear hb hbox hg; have hnb32 := NB253_254.out; have hnc32 := NB254_253.out; have hnb33 := NB253_255.out; have hnc33 := NB255_253.out; obtain ⟨hcz34_0, hcz34_1, hcz34_2, hfz34_0, hfz34_1, hfz34_2⟩ := b3 BK253) | ((with_reducible refine gate_callee (f := 116) rfl ?_); refine gsM (some 14) rfl rfl Try.func116 (by kernel_rfl) rfl #[.agg #[.int .i64 a0_0, .slice A0_1 l0_1.length c0_1, .slice A0_2 l0_2.length c0_2]] rfl ?_; (with_reducible refine (impl_copyMind.calls k a0_0 _ _ l0_1 _ _ l0_2 t256 t257 t260 _ ?side1 ?side2 ?side3 ?side4 A3.out).mono ?_); (case side1 => exact cZ (Kd.C_below HR0_1.out HB.out)); (case side2 => exact HC0_1.out); (case side3 => exact cZ (Kd.C_below HR0_2.out HB.out)); (case side4 => exact HC0_2.out); rintro e w35 ⟨v258, v261, rfl, ho0, ho1, hb⟩; refine ⟨_, rfl, ?_⟩; have HO259 := Asd.mk (Kd.R_lower ho0 (below_size (wZ HB))); have HO262 := Asd.mk (Kd.S_lower ho1 (below_size (wZ HB))); replace BK253 := bU BK253 hb; replace BK254 := bU BK254 hb; replace BK255 := bU BK255 hb; replace HB := bW HB hb; (try clear hb); (try clear hb2); (try clear hk); (try clear hi); (try clear ho0); (try clear ho1)) | ((with_reducible refine gate_dst (N := 6) rfl ?_); refine bxE ?hg (N := 6) ?hd (cs := #[.int .i64 0, .slice none 0 0, .slice none 0 0]) (t := 58) ?hr ?_; (case hd => rfl); (case hg => rfl); (case hr => first | (go_simp; done) | (go_simp; rfl)); intro gb263 hg w36 hbox hb; replace HO259 := bR HO259 hb; replace HO262 := bS HO262 hb; have BK263 := Asd.mk (hbox); have GW263 := bG HB hg; have GE263 := bG HB hg; replace HB := bW HB hb; have NB253_263 := bL BK253 hg; have NB263_253 := bM BK253 hg; replace BK253 := bU BK253 hb; have NB254_263 := bL BK254 hg; have NB263_254 := bM BK254 hg; replace BK254 := bU BK254 hb; have NB255_263 := bL BK255 hg; have NB263_255 := bM BK255 hg; replace BK255 := bU BK255 hb; clear hb hbox hg; have hnb37 := NB263_253.out; have hnc37 := NB253_263.out; have hnb38 := NB263_254.out; have hnc38 := NB254_263.out; have hnb39 := NB263_255.out; have hnc39 := NB255_263.out; obtain ⟨hcz40_0, hcz40_1, hcz40_2, hfz40_0, hfz40_1, hfz40_2⟩ := b3 BK263; obtain ⟨Ao41, co41, eo41⟩ := Kd.R_slice HO259.out; subst eo41; obtain ⟨Ao42, co42, eo42⟩ := Kd.S_slice HO262.out; subst eo42; have hnb43 := NB254_255.out; have hnc43 := NB255_254.out; obtain ⟨hcz44_0, hcz44_1, hfz44_0, hfz44_1⟩ := b2 BK254))
   have n0_ : Asd (Kd.R (Kd.int .i64) 3 (((w36.setCell ⟨gb263, 0, none⟩ (.int .i64 t256)).setCell ⟨gb263, 1, none⟩ (.slice Ao41 t257.length co41)).setCell ⟨gb263, 2, none⟩ (.slice Ao42 t260.length co42)) w.heap.size (fun _ => True) (.slice Ao41 t257.length co41) t257) := ⟨rT HO259⟩
   have n1_ : Asd (Kd.S (Kd.slice 3 (Kd.int .i64)) 55 (((w36.setCell ⟨gb263, 0, none⟩ (.int .i64 t256)).setCell ⟨gb263, 1, none⟩ (.slice Ao41 t257.length co41)).setCell ⟨gb263, 2, none⟩ (.slice Ao42 t260.length co42)) w.heap.size (fun k_ => some k_ ≠ (.slice Ao41 t257.length co41 : Value).ownBlock) (.slice Ao42 t260.length co42) t260) := ⟨sT HO262⟩
   have n2_ : Asd ((((w36.setCell ⟨gb263, 0, none⟩ (.int .i64 t256)).setCell ⟨gb263, 1, none⟩ (.slice Ao41 t257.length co41)).setCell ⟨gb263, 2, none⟩ (.slice Ao42 t260.length co42)).heap[gb253]? = some (.cells #[.int .i64 a0_0, .slice A0_1 l0_1.length c0_1, .slice A0_2 l0_2.length c0_2] 58 (0, 0))) := ⟨kS BK253⟩
   have n3_ : Asd ((((w36.setCell ⟨gb263, 0, none⟩ (.int .i64 t256)).setCell ⟨gb263, 1, none⟩ (.slice Ao41 t257.length co41)).setCell ⟨gb263, 2, none⟩ (.slice Ao42 t260.length co42)).heap[gb254]? = some (.cells #[.int .i64 a1_0, .string a1_1] 26 (0, 0))) := ⟨kS BK254⟩
   have n4_ : Asd ((((w36.setCell ⟨gb263, 0, none⟩ (.int .i64 t256)).setCell ⟨gb263, 1, none⟩ (.slice Ao41 t257.length co41)).setCell ⟨gb263, 2, none⟩ (.slice Ao42 t260.length co42)).heap[gb255]? = some (.cells #[.int .i64 0, .slice none 0 0, .slice none 0 0] 58 (0, 0))) := ⟨kS BK255⟩
   have n5_ : Asd ((((w36.setCell ⟨gb263, 0, none⟩ (.int .i64 t256)).setCell ⟨gb263, 1, none⟩ (.slice Ao41 t257.length co41)).setCell ⟨gb263, 2, none⟩ (.slice Ao42 t260.length co42)).heap[gb263]? = some (.cells #[.int .i64 t256, .slice Ao41 t257.length co41, .slice Ao42 t260.length co42] 58 (0, 0))) := ⟨kP BK263⟩
   have n6_ : Asd (Below w.heap.size w (((w36.setCell ⟨gb263, 0, none⟩ (.int .i64 t256)).setCell ⟨gb263, 1, none⟩ (.slice Ao41 t257.length co41)).setCell ⟨gb263, 2, none⟩ (.slice Ao42 t260.length co42))) := ⟨wZ HB⟩
   (try clear HO259)
   (try clear HO262)
   (try clear BK253)
   (try clear BK254)
   (try clear BK255)
   (try clear BK263)
   (try clear HB)
   generalize (((w36.setCell ⟨gb263, 0, none⟩ (.int .i64 t256)).setCell ⟨gb263, 1, none⟩ (.slice Ao41 t257.length co41)).setCell ⟨gb263, 2, none⟩ (.slice Ao42 t260.length co42)) = w45 at n0_ n1_ n2_ n3_ n4_ n5_ n6_ ⊢
   have HO259 := n0_
   have HO262 := n1_
   have BK253 := n2_
   have BK254 := n3_
   have BK255 := n4_
   have BK263 := n5_
   have HB := n6_
   clear n0_ n1_ n2_ n3_ n4_ n5_ n6_
   replace HO259 := Asd.mk (Kd.R_drew HO259.out)
   replace HO262 := Asd.mk (Kd.S_drew HO262.out)
   replace BK253 := Asd.mk (bkD BK253.out)
   replace BK254 := Asd.mk (bkD BK254.out)
   replace BK255 := Asd.mk (bkD BK255.out)
   replace BK263 := Asd.mk (bkD BK263.out)
   replace HB := Asd.mk (bwD HB.out)
   have p264 : 0 ≤ ((ji23) : Int) := odt
   have q264 : (ji23) < (t260.length : Int) := odt
   obtain ⟨ad264, A264_0, c264_0, e264, hx264_0, hl264_0, hi264_0⟩ := at_L5 (Kd.S_reads' HO262.out).2.2 (ji23) p264 q264
   cases e264
   obtain ⟨ce264, hce264, hMe264, hcc264⟩ := Kd.S_get HO262.out [] (ji23) p264 (by first | exact q264 | exact odt | (have e_ := (Kd.S_reads' HO262.out).1; omega))
   obtain ⟨ve264_0, rfl, ge264_0⟩ := hMe264
   have hv264_0 := hcc264 0 _ rfl
   rw [Nat.add_zero, show ((Kd.slice 3 (Kd.int .i64))).sz = 1 from rfl, Nat.mul_one] at hv264_0
   replace hv264_0 := Option.some.inj (hv264_0.symm.trans hx264_0)
   rw [hv264_0] at ge264_0
   have HL264_0 := Asd.mk (show Kd.R (Kd.int .i64) 3 _ _ _ _ (rd_L5 t260 (ji23)) from ge264_0)
   clear hv264_0 ge264_0 hcc264 hce264
   have HR264_0 := Asd.mk hi264_0
   have HC264_0 := Asd.mk hl264_0
   clear hi264_0 hl264_0
   replace p264 := eq_true p264
   replace q264 := eq_true q264
   have q47 : ((ji23) : Int) ≤ ((t260.length : Int) : Int) := odt
   obtain ⟨i047, hi047, _, hsz47, _⟩ := info_parts info55
   have hroom47 : t260.length ≤ co42 := (Kd.S_reads' HO262.out).2.1
   have hC47 : Kd.C (Kd.slice 3 (Kd.int .i64)) _ (some ad264) t260.length t260 := (Kd.S_reads' HO262.out).2.2
   have hcut47 := cut_to (P := Try.prog) 56 55 .i64 Try.underlying56 hi047 (some ad264) t260.length co42 (ji23) (odt) q47 hroom47
   have hr47 := Kd.C_take (m := ((ji23) : Int).toNat) hC47 (by omega)
   have hy47 : y265.length = ((ji23) : Int).toNat := (by rw [Ny265.out, List.length_take]; omega)
   rw [← Ny265.out] at hr47
   rw [← hy47] at hcut47
   have HR268 := Asd.mk hr47
   have HC268 := Asd.mk (show y265.length ≤ co42 from by omega)
   clear hr47 hC47 hroom47 hi047 hsz47
   have KY47 := Asd.mk hy47
   clear hy47
   have KL47 := Asd.mk (show ((ji23) : Int).toNat ≤ t260.length from by omega)
   replace q47 := eq_true q47
   refine start_ (n := 15) (S := fun w' => w'.cell? ⟨gb253, 0, none⟩ = some (.int .i64 a0_0) ∧ w'.cell? ⟨gb253, 1, none⟩ = some (.slice A0_1 l0_1.length c0_1) ∧ w'.cell? ⟨gb253, 2, none⟩ = some (.slice A0_2 l0_2.length c0_2) ∧ w'.cell? ⟨gb263, 0, none⟩ = some (.int .i64 t256) ∧ w'.cell? ⟨gb263, 1, none⟩ = some (.slice Ao41 t257.length co41) ∧ w'.cell? ⟨gb263, 2, none⟩ = some (.slice (some ad264) t260.length co42) ∧ w'.cell? (ad264.add ((ji23)).toNat) = some (.slice A264_0 (rd_L5 t260 (ji23)).length c264_0)) (ds := []) #[false, false, false, false, false, false, false, false, false, false, false, false, false, false, false] (by kernel_rfl) rfl rfl ⟨(bkC BK253.out 0).trans rfl, (bkC BK253.out 1).trans rfl, (bkC BK253.out 2).trans rfl, (bkC BK263.out 0).trans rfl, (bkC BK263.out 1).trans rfl, (bkC BK263.out 2).trans rfl, hx264_0⟩ (fun hHeld => ?_); refine with_tabW impl_mindDo.tab6 impl_mindDo.bits6 (fun HT_ HW_ => ?_)
   generalize w45.drew = w46 at HO259 HO262 BK253 BK254 BK255 BK263 HB HL264_0 HR264_0 HR268 hx264_0 hHeld ⊢
   refine pure_ (i := 0) (N := some 25) (v := ?_) (a' := ?_) #[true, false, false, false, false, false, false, false, false, false, false, false, false, false, false] rfl rfl (any_of HT_.out (by kernel_rfl)) (fun _ _ _ h => h) (Or.inl ⟨by rfl, ?_⟩) ?_ ?_
   rotate_left
   ·intro w'
    go_simp
    with_reducible rfl
   rotate_left
   ·simp only [Act.put, qA, qB, qC, i64_w, i32_w]
    rfl
   refine pure_ (i := 2) (N := some 27) (v := ?_) (a' := ?_) #[true, false, true, false, false, false, false, false, false, false, false, false, false, false, false] rfl rfl (any_of HT_.out (by kernel_rfl)) (fun _ _ _ h => h) (Or.inl ⟨by rfl, ?_⟩) ?_ ?_
   rotate_left
   ·intro w'
    go_simp
    with_reducible rfl
   rotate_left
   ·simp only [Act.put, qA, qB, qC, i64_w, i32_w]
    rfl
   refine pure_ (i := 4) (N := some 29) (v := ?_) (a' := ?_) #[true, false, true, false, true, false, false, false, false, false, false, false, false, false, false] rfl rfl (any_of HT_.out (by kernel_rfl)) (fun _ _ _ h => h) (Or.inl ⟨by rfl, ?_⟩) ?_ ?_
   rotate_left
   ·intro w'
    go_simp
    with_reducible rfl
   rotate_left
   ·simp only [Act.put, qA, qB, qC, i64_w, i32_w]
    rfl
   refine pure_ (i := 7) (N := some 32) (v := ?_) (a' := ?_) #[true, false, true, false, true, false, false, true, false, false, false, false, false, false, false] rfl rfl (any_of HT_.out (by kernel_rfl)) (fun _ _ _ h => h) (Or.inl ⟨by rfl, ?_⟩) ?_ ?_
   rotate_left
   ·intro w'
    go_simp
    with_reducible rfl
   rotate_left
   ·simp only [Act.put, qA, qB, qC, i64_w, i32_w]
    rfl
   refine pure_ (i := 9) (N := some 34) (v := ?_) (a' := ?_) #[true, false, true, false, true, false, false, true, false, true, false, false, false, false, false] rfl rfl (any_of HT_.out (by kernel_rfl)) (fun _ _ _ h => h) (Or.inl ⟨by rfl, ?_⟩) ?_ ?_
   rotate_left
   ·intro w'
    go_simp
    with_reducible rfl
   rotate_left
   ·simp only [Act.put, qA, qB, qC, i64_w, i32_w]
    rfl
   refine take_ (i := 1) (N := some 26) (v := ?_) (a' := ?_) #[true, true, true, false, true, false, false, true, false, true, false, false, false, false, false] rfl rfl (take_ofW HT_.out HW_.out (by kernel_rfl)) (fun _ _ _ h => h) (Or.inl ⟨by rfl, ?_⟩) hHeld ?_ ?_
   rotate_left
   ·rintro w' ⟨s0, s1, s2, s3, s4, s5, s6⟩
    go_simp
    with_reducible rfl
   rotate_left
   ·simp only [Act.put, qA, qB, qC, i64_w, i32_w]
    rfl
   refine take_ (i := 3) (N := some 28) (v := ?_) (a' := ?_) #[true, true, true, true, true, false, false, true, false, true, false, false, false, false, false] rfl rfl (take_ofW HT_.out HW_.out (by kernel_rfl)) (fun _ _ _ h => h) (Or.inl ⟨by rfl, ?_⟩) hHeld ?_ ?_
   rotate_left
   ·rintro w' ⟨s0, s1, s2, s3, s4, s5, s6⟩
    go_simp
    with_reducible rfl
   rotate_left
   ·simp only [Act.put, qA, qB, qC, i64_w, i32_w]
    rfl
   refine pure_ (i := 5) (N := some 30) (v := ?_) (a' := ?_) #[true, true, true, true, true, true, false, true, false, true, false, false, false, false, false] rfl rfl (any_of HT_.out (by kernel_rfl)) (fun _ _ _ h => h) (Or.inl ⟨by rfl, ?_⟩) ?_ ?_
   rotate_left
   ·intro w'
    go_simp
    with_reducible rfl
   rotate_left
   ·simp only [Act.put, qA, qB, qC, i64_w, i32_w]
    rfl
   refine take_ (i := 6) (N := some 31) (v := ?_) (a' := ?_) #[true, true, true, true, true, true, true, true, false, true, false, false, false, false, false] rfl rfl (take_ofW HT_.out HW_.out (by kernel_rfl)) (fun _ _ _ h => h) (Or.inl ⟨by rfl, ?_⟩) hHeld ?_ ?_
   rotate_left
   ·rintro w' ⟨s0, s1, s2, s3, s4, s5, s6⟩
    go_simp
    with_reducible rfl
   rotate_left
   ·simp only [Act.put, qA, qB, qC, i64_w, i32_w]
    rfl
   refine take_ (i := 8) (N := some 33) (v := ?_) (a' := ?_) #[true, true, true, true, true, true, true, true, true, true, false, false, false, false, false] rfl rfl (take_ofW HT_.out HW_.out (by kernel_rfl)) (fun _ _ _ h => h) (Or.inl ⟨by rfl, ?_⟩) hHeld ?_ ?_
   rotate_left
   ·rintro w' ⟨s0, s1, s2, s3, s4, s5, s6⟩
    go_simp
    with_reducible rfl
   rotate_left
   ·simp only [Act.put, qA, qB, qC, i64_w, i32_w]
    rfl
   refine pure_ (i := 10) (N := some 35) (v := ?_) (a' := ?_) #[true, true, true, true, true, true, true, true, true, true, true, false, false, false, false] rfl rfl (any_of HT_.out (by kernel_rfl)) (fun _ _ _ h => h) (Or.inl ⟨by rfl, ?_⟩) ?_ ?_
   rotate_left
   ·intro w'
    go_simp
    with_reducible rfl
   rotate_left
   ·simp only [Act.put, qA, qB, qC, i64_w, i32_w]
    rfl
   refine pure_ (i := 11) (N := some 36) (v := ?_) (a' := ?_) #[true, true, true, true, true, true, true, true, true, true, true, true, false, false, false] rfl rfl (any_of HT_.out (by kernel_rfl)) (fun _ _ _ h => h) (Or.inl ⟨by rfl, ?_⟩) ?_ ?_
   rotate_left
   ·intro w'
    go_simp
    with_reducible rfl
   rotate_left
   ·simp only [Act.put, qA, qB, qC, i64_w, i32_w]
    rfl
   refine one_ (i := 12) (N := some 37) #[true, true, true, true, true, true, true, true, true, true, true, true, true, false, false] rfl rfl (one_of HT_.out (by kernel_rfl)) (by decide) (fun K hK => ?_)
   refine goes_ Try.func116 (by kernel_rfl) rfl #[.agg #[.int .i64 a0_0, .slice A264_0 (rd_L5 t260 (ji23)).length c264_0, .slice (some ad264) y265.length co42]] (by rfl) rfl rfl (by (try simp only [List.map_toArray, List.map_cons, List.map_nil]); first | done | (simp only [hji23]; rfl) | rfl | (simp only [List.length_drop, List.length_take]; rfl)) ?_
   with_reducible refine (impl_copyMind.calls k a0_0 _ _ (rd_L5 t260 (ji23)) _ _ y265 t269 t270 t273 _ ?side1 ?side2 ?side3 ?side4 A28.out).mono ?_
   (case side1 => repeat (first | exact (by repeat (first | (with_reducible exact HR264_0.out) | (with_reducible refine Kd.C_alloc ?_ _) | (with_reducible refine Kd.C_drewN ?_ _) | (with_reducible refine Kd.C_drew ?_) | exact HR264_0.out)) | (with_reducible refine Kd.C_alloc ?_ _) | (with_reducible refine Kd.C_drewN ?_ _) | (with_reducible refine Kd.C_drew ?_)))
   (case side2 => exact HC264_0.out)
   (case side3 => repeat (first | exact (by repeat (first | (with_reducible exact HR268.out) | (with_reducible refine Kd.C_alloc ?_ _) | (with_reducible refine Kd.C_drewN ?_ _) | (with_reducible refine Kd.C_drew ?_) | exact HR268.out)) | (with_reducible refine Kd.C_alloc ?_ _) | (with_reducible refine Kd.C_drewN ?_ _) | (with_reducible refine Kd.C_drew ?_)))
   (case side4 => exact HC268.out)
   rintro e w48 ⟨v271, v274, rfl, ho0, ho1, hb⟩
   have HS6_ := (hb.cell (World.block_lt_of_cell? _ _ (hHeld.2.2.2.2.2.2))).trans (hHeld.2.2.2.2.2.2)
   refine ⟨_, rfl, ?_⟩
   have HO272 := Asd.mk (Kd.R_lower (Kd.R_new' (Kd.R_new' ho0 (Kd.R_lt (rS HO259))) (Kd.R_lt (rS HL264_0))) (below_size (wZ HB)))
   have HO275 := Asd.mk (Kd.S_lower (Kd.S_new' (Kd.S_new' (Kd.S_new' ho1 (Kd.R_lt (rS HO259))) (Kd.S_lt (sS HO262))) (Kd.R_lt (rS HL264_0))) (below_size (wZ HB)))
   replace HO259 := Asd.mk (Kd.R_elder' (rS HO259) (Kd.R_base ho0) hb)
   replace HO262 := Asd.mk (Kd.S_mono (Kd.S_told (Kd.S_told (Kd.S_old (sS HO262) hb) (Kd.R_base ho0)) (Kd.S_base ho1)) (fun _ h_ => h_.1))
   replace HL264_0 := Asd.mk (Kd.R_elder' (rS HL264_0) (Kd.R_base ho0) hb)
   replace BK253 := bU BK253 hb
   replace BK254 := bU BK254 hb
   replace BK255 := bU BK255 hb
   replace BK263 := bU BK263 hb
   replace HR264_0 := Asd.mk (Kd.C_below (by repeat (first | (with_reducible exact HR264_0.out) | (with_reducible refine Kd.C_alloc ?_ _) | (with_reducible refine Kd.C_drewN ?_ _) | (with_reducible refine Kd.C_drew ?_) | exact HR264_0.out)) hb)
   replace HR268 := Asd.mk (Kd.C_below (by repeat (first | (with_reducible exact HR268.out) | (with_reducible refine Kd.C_alloc ?_ _) | (with_reducible refine Kd.C_drewN ?_ _) | (with_reducible refine Kd.C_drew ?_) | exact HR268.out)) hb)
   replace HB := bW HB hb
   (try clear hb)
   (try clear hb2)
   (try clear hk)
   (try clear hi)
   (try clear ho0)
   (try clear ho1)
   obtain ⟨Ao50, co50, eo50⟩ := Kd.R_slice HO272.out
   (first | subst eo50 | (injection eo50 with f1_ f2_ f3_; have f4_ := f1_.symm; have f5_ := f3_.symm; clear f1_ f2_ f3_; subst f4_; subst f5_))
   obtain ⟨Ao52, co52, eo52⟩ := Kd.S_slice HO275.out
   (first | subst eo52 | (injection eo52 with f1_ f2_ f3_; have f4_ := f1_.symm; have f5_ := f3_.symm; clear f1_ f2_ f3_; subst f4_; subst f5_))
   refine hK.out _ _ ⟨(bkC BK253.out 0).trans rfl, (bkC BK253.out 1).trans rfl, (bkC BK253.out 2).trans rfl, (bkC BK263.out 0).trans rfl, (bkC BK263.out 1).trans rfl, (bkC BK263.out 2).trans rfl, HS6_⟩ (fun hHeld => ?_)
   clear hK K
   refine norm_ (a' := ?_) ?_ ?_
   rotate_left
   ·show Act.put _ (some 37) _ = _
    simp only [Act.put, qA, qB, qC, i64_w, i32_w]
    rfl
   refine one_ (i := 13) (N := none) #[true, true, true, true, true, true, true, true, true, true, true, true, true, true, false] rfl rfl (one_of HT_.out (by kernel_rfl)) (by decide) (fun K hK => ?_)
   have hs49 := bC BK255 0
   have hfs49 := bkF BK255.out 0
   have hns49_0 := NB253_255.out
   have hns49_1 := NB254_255.out
   have hns49_3 := NB263_255.out
   have hms49_0 := NB255_253.out
   have hms49_1 := NB255_254.out
   have hms49_3 := NB255_263.out
   have hs51 := bC BK255 1
   have hfs51 := bkF BK255.out 1
   have hns51_0 := NB253_255.out
   have hns51_1 := NB254_255.out
   have hns51_3 := NB263_255.out
   have hms51_0 := NB255_253.out
   have hms51_1 := NB255_254.out
   have hms51_3 := NB255_263.out
   have hs53 := bC BK255 2
   have hfs53 := bkF BK255.out 2
   have hns53_0 := NB253_255.out
   have hns53_1 := NB254_255.out
   have hns53_3 := NB263_255.out
   have hms53_0 := NB255_253.out
   have hms53_1 := NB255_254.out
   have hms53_3 := NB255_263.out
   refine skip_ (w1 := ?_) (by rfl) rfl ?_ ?_
   rotate_left
   ·go_simp
    rfl
   refine hK.out _ _ ⟨((cell_far (p := ⟨gb255, _, none⟩) NB253_255.out _).trans (((cell_far (p := ⟨gb255, _, none⟩) NB253_255.out _).trans (((cell_far (p := ⟨gb255, _, none⟩) NB253_255.out _).trans (hHeld.1)))))), ((cell_far (p := ⟨gb255, _, none⟩) NB253_255.out _).trans (((cell_far (p := ⟨gb255, _, none⟩) NB253_255.out _).trans (((cell_far (p := ⟨gb255, _, none⟩) NB253_255.out _).trans (hHeld.2.1)))))), ((cell_far (p := ⟨gb255, _, none⟩) NB253_255.out _).trans (((cell_far (p := ⟨gb255, _, none⟩) NB253_255.out _).trans (((cell_far (p := ⟨gb255, _, none⟩) NB253_255.out _).trans (hHeld.2.2.1)))))), ((cell_far (p := ⟨gb255, _, none⟩) NB263_255.out _).trans (((cell_far (p := ⟨gb255, _, none⟩) NB263_255.out _).trans (((cell_far (p := ⟨gb255, _, none⟩) NB263_255.out _).trans (hHeld.2.2.2.1)))))), ((cell_far (p := ⟨gb255, _, none⟩) NB263_255.out _).trans (((cell_far (p := ⟨gb255, _, none⟩) NB263_255.out _).trans (((cell_far (p := ⟨gb255, _, none⟩) NB263_255.out _).trans (hHeld.2.2.2.2.1)))))), ((cell_far (p := ⟨gb255, _, none⟩) NB263_255.out _).trans (((cell_far (p := ⟨gb255, _, none⟩) NB263_255.out _).trans (((cell_far (p := ⟨gb255, _, none⟩) NB263_255.out _).trans (hHeld.2.2.2.2.2.1)))))), ((cell_far (p := ⟨gb255, _, none⟩) (by first | exact Kd.own_blk (Kd.S_ne HO262.out BK255.out (by decide)) | (rw [add_block]; exact Kd.own_blk (Kd.S_ne HO262.out BK255.out (by decide))) | (show (Addr.add _ _).block ≠ _; rw [add_block]; exact Kd.own_blk (Kd.S_ne HO262.out BK255.out (by decide))) | (dsimp only; exact Kd.own_blk (Kd.S_ne HO262.out BK255.out (by decide)))) _).trans (((cell_far (p := ⟨gb255, _, none⟩) (by first | exact Kd.own_blk (Kd.S_ne HO262.out BK255.out (by decide)) | (rw [add_block]; exact Kd.own_blk (Kd.S_ne HO262.out BK255.out (by decide))) | (show (Addr.add _ _).block ≠ _; rw [add_block]; exact Kd.own_blk (Kd.S_ne HO262.out BK255.out (by decide))) | (dsimp only; exact Kd.own_blk (Kd.S_ne HO262.out BK255.out (by decide)))) _).trans (((cell_far (p := ⟨gb255, _, none⟩) (by first | exact Kd.own_blk (Kd.S_ne HO262.out BK255.out (by decide)) | (rw [add_block]; exact Kd.own_blk (Kd.S_ne HO262.out BK255.out (by decide))) | (show (Addr.add _ _).block ≠ _; rw [add_block]; exact Kd.own_blk (Kd.S_ne HO262.out BK255.out (by decide))) | (dsimp only; exact Kd.own_blk (Kd.S_ne HO262.out BK255.out (by decide)))) _).trans (hHeld.2.2.2.2.2.2))))))⟩ (fun hHeld => ?_)
   clear hK K
   refine pure_ (i := 14) (N := some 5) (v := ?_) (a' := ?_) #[true, true, true, true, true, true, true, true, true, true, true, true, true, true, true] rfl rfl (any_of HT_.out (by kernel_rfl)) (fun _ _ _ h => h) (Or.inl ⟨by rfl, ?_⟩) ?_ ?_
   rotate_left
   ·intro w'
    go_simp
    with_reducible rfl
   rotate_left
   ·simp only [Act.put, qA, qB, qC, i64_w, i32_w]
    rfl
   refine done_ (done_of HT_.out (by kernel_rfl)) ?_
   try go_wp2
   refine bodyPost_ret (results_ct rfl _ _ gb255 58 #[.int .i64 t269, .slice Ao50 t270.length co50, .slice Ao52 t273.length co52] (0, 0) _ rfl (kP BK255) Try.underlying58 rfl (by kernel_rfl)) rfl ?_
   exact ⟨_, _, by first | rfl | (simp [errW_none, errW_some] <;> rfl) | (simp only [← hji23]; first | rfl | (simp [errW_none, errW_some] <;> rfl)) | (simp [*, errW_none, errW_some] <;> rfl), rT HO272, by (repeat apply Kd.SS); exact Kd.S_mono (Kd.S_far (p := ⟨gb255, 2, none⟩) (Kd.S_far (p := ⟨gb255, 1, none⟩) (Kd.S_far (p := ⟨gb255, 0, none⟩) (Kd.S_types HO275.out BK255.out (by decide)) (fun _ hk => hk.2) (.int .i64 t269)) (fun _ hk => hk.2) (.slice Ao50 t270.length co50)) (fun _ hk => hk.2) (.slice Ao52 t273.length co52)) (fun _ hk => hk.1.1.1.1), wZ HB⟩
 ·rw [if_neg c4] at H
  have c4b0 : (a1_0 == 2 && (a1_1.toList == ([] : List UInt8))) = false := by simpa using c4
  try have c4b7 : (a1_0 == 2 && a1_1.toList.isEmpty) = false := by have h_ := c4b0; (repeat rw [Hof.isEmpty_beq]); exact h_
  (try (have c4b1 : decide (a1_0 = 2 && (a1_1.toList == ([] : List UInt8))) = false := by simpa using c4))
  (try (have c4b2 : (a1_0 == 2 && (a1_1.toList == ([] : List UInt8))) = false := by simpa using c4))
  (try (have c4b3 : ¬ (a1_0 = 2 && (a1_1.toList == ([] : List UInt8))) := by simpa using c4))
  clear c4
  have HC54 := Asd.mk H
  clear H
  go_enter Try.func110, Try.ntmps110
  go_upto_region 7 with (first | ((with_reducible refine gate_dst (N := 2) rfl ?_); refine bxE ?hg (N := 2) ?hd (cs := #[.int .i64 a0_0, .slice A0_1 l0_1.length c0_1, .slice A0_2 l0_2.length c0_2]) (t := 58) ?hr ?_; (case hd => rfl); (case hg => rfl); (case hr => first | (go_simp; done) | (go_simp; rfl)); intro gb253 hg w55 hbox hb; have BK253 := Asd.mk (hbox); have GW253 := bG HB hg; have GE253 := bG HB hg; replace HB := bW HB hb; clear hb hbox hg) | ((with_reducible refine gate_dst (N := 3) rfl ?_); refine bxE ?hg (N := 3) ?hd (cs := #[.int .i64 a1_0, .string a1_1]) (t := 26) ?hr ?_; (case hd => rfl); (case hg => rfl); (case hr => first | (go_simp; done) | (go_simp; rfl)); intro gb254 hg w56 hbox hb; have BK254 := Asd.mk (hbox); have GW254 := bG HB hg; have GE254 := bG HB hg; replace HB := bW HB hb; have NB253_254 := bL BK253 hg; have NB254_253 := bM BK253 hg; replace BK253 := bU BK253 hb; clear hb hbox hg) | ((with_reducible refine gate_dst (N := 4) rfl ?_); refine bxE ?hg (N := 4) ?hd (cs := #[.int .i64 0, .slice none 0 0, .slice none 0 0]) (t := 58) ?hr ?_; (case hd => rfl); (case hg => rfl); (case hr => first | (go_simp; done) | (go_simp; rfl)); intro gb255 hg w57 hbox hb; have BK255 := Asd.mk (hbox); have GW255 := bG HB hg; have GE255 := bG HB hg; replace HB := bW HB hb; have NB253_255 := bL BK253 hg; have NB255_253 := bM BK253 hg; replace BK253 := bU BK253 hb; have NB254_255 := bL BK254 hg; have NB255_254 := bM BK254 hg; replace BK254 := bU BK254 hb; clear hb hbox hg; have hnb58 := NB253_254.out; have hnc58 := NB254_253.out; have hnb59 := NB253_255.out; have hnc59 := NB255_253.out; obtain ⟨hcz60_0, hcz60_1, hcz60_2, hfz60_0, hfz60_1, hfz60_2⟩ := b3 BK253) | ((with_reducible refine gate_callee (f := 116) rfl ?_); refine gsM (some 14) rfl rfl Try.func116 (by kernel_rfl) rfl #[.agg #[.int .i64 a0_0, .slice A0_1 l0_1.length c0_1, .slice A0_2 l0_2.length c0_2]] rfl ?_; (with_reducible refine (impl_copyMind.calls k a0_0 _ _ l0_1 _ _ l0_2 t256 t257 t260 _ ?side1 ?side2 ?side3 ?side4 A3.out).mono ?_); (case side1 => exact cZ (Kd.C_below HR0_1.out HB.out)); (case side2 => exact HC0_1.out); (case side3 => exact cZ (Kd.C_below HR0_2.out HB.out)); (case side4 => exact HC0_2.out); rintro e w61 ⟨v258, v261, rfl, ho0, ho1, hb⟩; refine ⟨_, rfl, ?_⟩; have HO259 := Asd.mk (Kd.R_lower ho0 (below_size (wZ HB))); have HO262 := Asd.mk (Kd.S_lower ho1 (below_size (wZ HB))); replace BK253 := bU BK253 hb; replace BK254 := bU BK254 hb; replace BK255 := bU BK255 hb; replace HB := bW HB hb; (try clear hb); (try clear hb2); (try clear hk); (try clear hi); (try clear ho0); (try clear ho1)) | ((with_reducible refine gate_dst (N := 6) rfl ?_); refine bxE ?hg (N := 6) ?hd (cs := #[.int .i64 0, .slice none 0 0, .slice none 0 0]) (t := 58) ?hr ?_; (case hd => rfl); (case hg => rfl); (case hr => first | (go_simp; done) | (go_simp; rfl)); intro gb263 hg w62 hbox hb; replace HO259 := bR HO259 hb; replace HO262 := bS HO262 hb; have BK263 := Asd.mk (hbox); have GW263 := bG HB hg; have GE263 := bG HB hg; replace HB := bW HB hb; have NB253_263 := bL BK253 hg; have NB263_253 := bM BK253 hg; replace BK253 := bU BK253 hb; have NB254_263 := bL BK254 hg; have NB263_254 := bM BK254 hg; replace BK254 := bU BK254 hb; have NB255_263 := bL BK255 hg; have NB263_255 := bM BK255 hg; replace BK255 := bU BK255 hb; clear hb hbox hg; have hnb63 := NB263_253.out; have hnc63 := NB253_263.out; have hnb64 := NB263_254.out; have hnc64 := NB254_263.out; have hnb65 := NB263_255.out; have hnc65 := NB255_263.out; obtain ⟨hcz66_0, hcz66_1, hcz66_2, hfz66_0, hfz66_1, hfz66_2⟩ := b3 BK263; obtain ⟨Ao67, co67, eo67⟩ := Kd.R_slice HO259.out; subst eo67; obtain ⟨Ao68, co68, eo68⟩ := Kd.S_slice HO262.out; subst eo68; have hnb69 := NB254_255.out; have hnc69 := NB255_254.out; obtain ⟨hcz70_0, hcz70_1, hfz70_0, hfz70_1⟩ := b2 BK254))
  (try simp only [Act.put, qA, qB, qC])
  go_cut [45] (fun v45 wc => ∃ (kq : Nat) (x45_53 : Bool), v45 = .bool x45_53 ∧ Asd (impl_mindDo.j0 kq x45_53 a0_0 l0_1 l0_2 a1_0 a1_1 t256 t257 t260 = some (r1, r2, r3, r4)) ∧ Asd (kq ≤ k) ∧ Asd (Kd.R (Kd.int .i64) 3 wc w.heap.size (fun _ => True) (.slice Ao67 t257.length co67) t257) ∧ Asd (Kd.S (Kd.slice 3 (Kd.int .i64)) 55 wc w.heap.size (fun k_ => some k_ ≠ ((.slice Ao67 t257.length co67) : Value).ownBlock) (.slice Ao68 t260.length co68) t260) ∧ Asd (wc.heap[gb253]? = some (.cells #[.int .i64 a0_0, (.slice A0_1 l0_1.length c0_1), (.slice A0_2 l0_2.length c0_2)] 58 (0, 0))) ∧ Asd (wc.heap[gb254]? = some (.cells #[.int .i64 a1_0, .string a1_1] 26 (0, 0))) ∧ Asd (wc.heap[gb255]? = some (.cells #[.int .i64 0, (.slice none 0 0), (.slice none 0 0)] 58 (0, 0))) ∧ Asd (wc.heap[gb263]? = some (.cells #[.int .i64 t256, (.slice Ao67 t257.length co67), (.slice Ao68 t260.length co68)] 58 (0, 0))) ∧ Asd (Below w.heap.size w wc))
  case first =>
   have H := HC54.out
   clear HC54
   by_cases c71 : a1_0 = 0
   ·rw [if_pos c71] at H
    have c71b0 : (a1_0 == 0) = true := beq_iff_eq.mpr c71
    have c71b1 : (a1_0 != 0) = false := bne_eq_false_iff_eq.mpr c71
    clear c71
    (first | rw [c71b0] | (simp only [i64_w, i32_w]; rw [c71b0]) | skip)
    have H' := Asd.mk H
    clear H
    have hnb72 := NB254_253.out
    have hnc72 := NB253_254.out
    have hnb73 := NB254_255.out
    have hnc73 := NB255_254.out
    have hnb74 := NB254_263.out
    have hnc74 := NB263_254.out
    obtain ⟨hcz75_0, hcz75_1, hfz75_0, hfz75_1⟩ := b2 BK254
    go_wp2
    go_meet
    case rel => exact ⟨_, (false), (by first | rfl | (simp; done) | (simp [*]; done)), H', ⟨by first | omega | exact Nat.le_refl _⟩, ⟨rT HO259⟩, ⟨sT HO262⟩, ⟨kS BK253⟩, ⟨kS BK254⟩, ⟨kS BK255⟩, ⟨kP BK263⟩, ⟨wZ HB⟩⟩
   ·rw [if_neg c71] at H
    have c71b0 : (a1_0 == 0) = false := beq_eq_false_iff_ne.mpr c71
    have c71b1 : (a1_0 != 0) = true := bne_iff_ne.mpr c71
    (first | rw [c71b0] | (simp only [i64_w, i32_w]; rw [c71b0]) | skip)
    have H' := Asd.mk H
    clear H
    have hnb76 := NB254_253.out
    have hnc76 := NB253_254.out
    have hnb77 := NB254_255.out
    have hnc77 := NB255_254.out
    have hnb78 := NB254_263.out
    have hnc78 := NB263_254.out
    obtain ⟨hcz79_0, hcz79_1, hfz79_0, hfz79_1⟩ := b2 BK254
    go_wp2
    go_meet
    case rel => exact ⟨_, ((a1_0 != 1)), (by first | rfl | (simp; done) | (simp [*]; done)), H', ⟨by first | omega | exact Nat.le_refl _⟩, ⟨rT HO259⟩, ⟨sT HO262⟩, ⟨kS BK253⟩, ⟨kS BK254⟩, ⟨kS BK255⟩, ⟨kP BK263⟩, ⟨wZ HB⟩⟩
  case rest =>
   clear HC54
   obtain ⟨kq, x45_53, rfl, HA, HJ53, HO_264001, HO_264002, BK253, BK254, BK255, BK263, HB⟩ := hcut
   cases kq with
   | zero => exact absurd HA.out (by simp [impl_mindDo.j0])
   | succ kj53 =>
    have H := HA.out
    clear HA
    simp only [impl_mindDo.j0] at H
    by_cases c80 : x45_53 = true
    ·subst c80
     rw [if_pos rfl] at H
     simp only [Option.some.injEq, Prod.mk.injEq] at H
     obtain ⟨rfl, rfl, rfl, rfl⟩ := H
     have hnb81 := NB263_253.out
     have hnc81 := NB253_263.out
     have hnb82 := NB263_254.out
     have hnc82 := NB254_263.out
     have hnb83 := NB263_255.out
     have hnc83 := NB255_263.out
     obtain ⟨hcz84_0, hcz84_1, hcz84_2, hfz84_0, hfz84_1, hfz84_2⟩ := b3 BK263
     have hnb85 := NB255_253.out
     have hnc85 := NB253_255.out
     have hnb86 := NB255_254.out
     have hnc86 := NB254_255.out
     obtain ⟨hcz87_0, hcz87_1, hcz87_2, hfz87_0, hfz87_1, hfz87_2⟩ := b3 BK255
     go_wp2
     refine bodyPost_ret (results_ct rfl _ _ gb255 58 #[.int .i64 t256, .slice Ao67 t257.length co67, .slice Ao68 t260.length co68] (0, 0) _ rfl (kP BK255) Try.underlying58 rfl (by kernel_rfl)) rfl ?_
     exact ⟨_, _, by first | rfl | (simp [*, errW_none, errW_some] <;> rfl), rT HO_264001, sT HO_264002, wZ HB⟩
    ·replace c80 := Bool.eq_false_iff.mpr c80
     subst c80
     rw [if_neg (show ¬ (false = true) by decide)] at H
     replace H := Option.bind_eq_some_iff.mp H
     obtain ⟨⟨t276, t277⟩, A880, H⟩ := H
     try dsimp only at H
     have A88 := Asd.mk A880
     clear A880
     have HC89 := Asd.mk H
     clear H
     have hnb90 := NB253_254.out
     have hnc90 := NB254_253.out
     have hnb91 := NB253_255.out
     have hnc91 := NB255_253.out
     have hnb92 := NB253_263.out
     have hnc92 := NB263_253.out
     obtain ⟨hcz93_0, hcz93_1, hcz93_2, hfz93_0, hfz93_1, hfz93_2⟩ := b3 BK253
     have hnb94 := NB254_255.out
     have hnc94 := NB255_254.out
     have hnb95 := NB254_263.out
     have hnc95 := NB263_254.out
     obtain ⟨hcz96_0, hcz96_1, hfz96_0, hfz96_1⟩ := b2 BK254
     go_upto_region 10 with (first | ((with_reducible refine gate_callee (f := 66) rfl ?_); refine gsM (some 52) rfl rfl Try.func66 (by kernel_rfl) rfl #[.int .i64 a0_0, .string a1_1] rfl ?_; (with_reducible refine (impl_HoldsIn.calls kj53 a0_0 a1_1 t276 t277 _ A88.out).mono ?_); rintro e w97 ⟨rfl, hb⟩; refine ⟨_, rfl, ?_⟩; replace HO_264001 := bR HO_264001 hb; replace HO_264002 := bS HO_264002 hb; replace BK253 := bU BK253 hb; replace BK254 := bU BK254 hb; replace BK255 := bU BK255 hb; replace BK263 := bU BK263 hb; replace HB := bW HB hb; (try clear hb); (try clear hb2); (try clear hk); (try clear hi)))
     (try simp only [Act.put, qA, qB, qC])
     go_cut [60] (fun v60 wc => ∃ (kq : Nat) (x60_88 : Bool), v60 = .bool x60_88 ∧ Asd (impl_mindDo.j1 kq t276 x60_88 a0_0 l0_1 l0_2 a1_0 a1_1 t256 t257 t260 = some (r1, r2, r3, r4)) ∧ Asd (kq ≤ kj53) ∧ Asd (Kd.R (Kd.int .i64) 3 wc w.heap.size (fun _ => True) (.slice Ao67 t257.length co67) t257) ∧ Asd (Kd.S (Kd.slice 3 (Kd.int .i64)) 55 wc w.heap.size (fun k_ => some k_ ≠ ((.slice Ao67 t257.length co67) : Value).ownBlock) (.slice Ao68 t260.length co68) t260) ∧ Asd (wc.heap[gb253]? = some (.cells #[.int .i64 a0_0, (.slice A0_1 l0_1.length c0_1), (.slice A0_2 l0_2.length c0_2)] 58 (0, 0))) ∧ Asd (wc.heap[gb254]? = some (.cells #[.int .i64 a1_0, .string a1_1] 26 (0, 0))) ∧ Asd (wc.heap[gb255]? = some (.cells #[.int .i64 0, (.slice none 0 0), (.slice none 0 0)] 58 (0, 0))) ∧ Asd (wc.heap[gb263]? = some (.cells #[.int .i64 t256, (.slice Ao67 t257.length co67), (.slice Ao68 t260.length co68)] 58 (0, 0))) ∧ Asd (Below w.heap.size w wc))
     case first =>
      have H := HC89.out
      clear HC89
      by_cases c98 : t277 = true
      ·subst c98
       rw [if_pos rfl] at H
       have H' := Asd.mk H
       clear H
       go_wp2
       go_meet
       case rel => exact ⟨_, ((t276 == 0)), (by first | rfl | (simp; done) | (simp [*]; done)), H', ⟨by have := HJ53.out; first | omega | exact Nat.le_refl _⟩, ⟨by (repeat apply Kd.RS); exact HO_264001.out⟩, ⟨by (repeat apply Kd.SS); exact HO_264002.out⟩, ⟨kS BK253⟩, ⟨kS BK254⟩, ⟨kS BK255⟩, ⟨kS BK263⟩, ⟨wZ HB⟩⟩
      ·replace c98 := Bool.eq_false_iff.mpr c98
       subst c98
       rw [if_neg (show ¬ (false = true) by decide)] at H
       have H' := Asd.mk H
       clear H
       go_wp2
       go_meet
       case rel => exact ⟨_, (true), (by first | rfl | (simp; done) | (simp [*]; done)), H', ⟨by have := HJ53.out; first | omega | exact Nat.le_refl _⟩, ⟨by (repeat apply Kd.RS); exact HO_264001.out⟩, ⟨by (repeat apply Kd.SS); exact HO_264002.out⟩, ⟨kS BK253⟩, ⟨kS BK254⟩, ⟨kS BK255⟩, ⟨kS BK263⟩, ⟨wZ HB⟩⟩
     case rest =>
      clear HC89
      obtain ⟨kq, x60_88, rfl, HA, HJ88, HO_264001, HO_264002, BK253, BK254, BK255, BK263, HB⟩ := hcut
      cases kq with
      | zero => exact absurd HA.out (by simp [impl_mindDo.j1])
      | succ kj88 =>
       have H := HA.out
       clear HA
       simp only [impl_mindDo.j1] at H
       by_cases c99 : x60_88 = true
       ·subst c99
        rw [if_pos rfl] at H
        simp only [Option.some.injEq, Prod.mk.injEq] at H
        obtain ⟨rfl, rfl, rfl, rfl⟩ := H
        have hnb100 := NB263_253.out
        have hnc100 := NB253_263.out
        have hnb101 := NB263_254.out
        have hnc101 := NB254_263.out
        have hnb102 := NB263_255.out
        have hnc102 := NB255_263.out
        obtain ⟨hcz103_0, hcz103_1, hcz103_2, hfz103_0, hfz103_1, hfz103_2⟩ := b3 BK263
        have hnb104 := NB255_253.out
        have hnc104 := NB253_255.out
        have hnb105 := NB255_254.out
        have hnc105 := NB254_255.out
        obtain ⟨hcz106_0, hcz106_1, hcz106_2, hfz106_0, hfz106_1, hfz106_2⟩ := b3 BK255
        go_wp2
        refine bodyPost_ret (results_ct rfl _ _ gb255 58 #[.int .i64 t256, .slice Ao67 t257.length co67, .slice Ao68 t260.length co68] (0, 0) _ rfl (kP BK255) Try.underlying58 rfl (by kernel_rfl)) rfl ?_
        exact ⟨_, _, by first | rfl | (simp [*, errW_none, errW_some] <;> rfl), rT HO_264001, sT HO_264002, wZ HB⟩
       ·replace c99 := Bool.eq_false_iff.mpr c99
        subst c99
        rw [if_neg (show ¬ (false = true) by decide)] at H
        have HC107 := Asd.mk H
        clear H
        have hnb108 := NB254_253.out
        have hnc108 := NB253_254.out
        have hnb109 := NB254_255.out
        have hnc109 := NB255_254.out
        have hnb110 := NB254_263.out
        have hnc110 := NB263_254.out
        obtain ⟨hcz111_0, hcz111_1, hfz111_0, hfz111_1⟩ := b2 BK254
        go_upto_if 64 with (fail)
        go_cut [10] (fun v10 wc => ∃ (kq : Nat) (x10_106 : Int), v10 = .int .i64 x10_106 ∧ Asd (impl_mindDo.j2 kq t276 x10_106 a0_0 l0_1 l0_2 t256 t257 t260 = some (r1, r2, r3, r4)) ∧ Asd (kq ≤ kj88) ∧ Asd (Kd.R (Kd.int .i64) 3 wc w.heap.size (fun _ => True) (.slice Ao67 t257.length co67) t257) ∧ Asd (Kd.S (Kd.slice 3 (Kd.int .i64)) 55 wc w.heap.size (fun k_ => some k_ ≠ ((.slice Ao67 t257.length co67) : Value).ownBlock) (.slice Ao68 t260.length co68) t260) ∧ Asd (wc.heap[gb253]? = some (.cells #[.int .i64 a0_0, (.slice A0_1 l0_1.length c0_1), (.slice A0_2 l0_2.length c0_2)] 58 (0, 0))) ∧ Asd (wc.heap[gb254]? = some (.cells #[.int .i64 a1_0, .string a1_1] 26 (0, 0))) ∧ Asd (wc.heap[gb255]? = some (.cells #[.int .i64 0, (.slice none 0 0), (.slice none 0 0)] 58 (0, 0))) ∧ Asd (wc.heap[gb263]? = some (.cells #[.int .i64 t256, (.slice Ao67 t257.length co67), (.slice Ao68 t260.length co68)] 58 (0, 0))) ∧ Asd (Below w.heap.size w wc))
        case first =>
         have H := HC107.out
         clear HC107
         by_cases c112 : a1_0 = 1
         ·rw [if_pos c112] at H
          have c112b0 : (a1_0 == 1) = true := beq_iff_eq.mpr c112
          have c112b1 : (a1_0 != 1) = false := bne_eq_false_iff_eq.mpr c112
          clear c112
          (first | rw [c112b0] | (simp only [i64_w, i32_w]; rw [c112b0]) | skip)
          have H' := Asd.mk H
          clear H
          go_wp2
          go_meet
          case rel => exact ⟨_, (1), (by first | rfl | (simp; done) | (simp [*]; done)), H', ⟨by have := HJ53.out; have := HJ88.out; first | omega | exact Nat.le_refl _⟩, ⟨by (repeat apply Kd.RS); exact HO_264001.out⟩, ⟨by (repeat apply Kd.SS); exact HO_264002.out⟩, ⟨kS BK253⟩, ⟨kS BK254⟩, ⟨kS BK255⟩, ⟨kS BK263⟩, ⟨wZ HB⟩⟩
         ·rw [if_neg c112] at H
          have c112b0 : (a1_0 == 1) = false := beq_eq_false_iff_ne.mpr c112
          have c112b1 : (a1_0 != 1) = true := bne_iff_ne.mpr c112
          (first | rw [c112b0] | (simp only [i64_w, i32_w]; rw [c112b0]) | skip)
          have H' := Asd.mk H
          clear H
          go_wp2
          go_meet
          case rel => exact ⟨_, (0), (by first | rfl | (simp; done) | (simp [*]; done)), H', ⟨by have := HJ53.out; have := HJ88.out; first | omega | exact Nat.le_refl _⟩, ⟨by (repeat apply Kd.RS); exact HO_264001.out⟩, ⟨by (repeat apply Kd.SS); exact HO_264002.out⟩, ⟨kS BK253⟩, ⟨kS BK254⟩, ⟨kS BK255⟩, ⟨kS BK263⟩, ⟨wZ HB⟩⟩
        case rest =>
         clear HC107
         obtain ⟨kq, x10_106, rfl, HA, HJ106, HO_264001, HO_264002, BK253, BK254, BK255, BK263, HB⟩ := hcut
         cases kq with
         | zero => exact absurd HA.out (by simp [impl_mindDo.j2])
         | succ kj106 =>
          have H := HA.out
          clear HA
          simp only [impl_mindDo.j2] at H
          replace H := Option.bind_eq_some_iff.mp H
          obtain ⟨t278, A1130, H⟩ := H
          try dsimp only at H
          have A113 := Asd.mk A1130
          clear A1130
          replace H := Option.bind_eq_some_iff.mp H
          obtain ⟨t281, A1140, H⟩ := H
          try dsimp only at H
          have A114 := Asd.mk A1140
          clear A1140
          by_cases c115 : t281 = true
          ·subst c115
           rw [if_pos rfl] at H
           simp only [Option.some.injEq, Prod.mk.injEq] at H
           obtain ⟨rfl, rfl, rfl, rfl⟩ := H
           have hnb116 := NB253_254.out
           have hnc116 := NB254_253.out
           have hnb117 := NB253_255.out
           have hnc117 := NB255_253.out
           have hnb118 := NB253_263.out
           have hnc118 := NB263_253.out
           obtain ⟨hcz119_0, hcz119_1, hcz119_2, hfz119_0, hfz119_1, hfz119_2⟩ := b3 BK253
           go_wp2_with (first | ((with_reducible refine gate_callee (f := 135) rfl ?_); refine gsM (some 71) rfl rfl Try.func135 (by kernel_rfl) rfl #[.int .i64 a0_0, .slice A0_1 l0_1.length c0_1, .int .i64 x10_106, .int .i64 t276] rfl ?_; (with_reducible refine (impl_changedBy.calls kj106 a0_0 _ _ l0_1 x10_106 t276 t278 _ ?side1 ?side2 A113.out).mono ?_); (case side1 => exact cZ (Kd.C_below HR0_1.out HB.out)); (case side2 => exact HC0_1.out); rintro e w120 ⟨v279, rfl, ho0, hb⟩; refine ⟨_, rfl, ?_⟩; replace HO_264002 := Asd.mk (Kd.S_elder' (sS HO_264002) (Kd.R_base ho0) hb); have HO280 := Asd.mk (Kd.R_lower (Kd.R_new' ho0 (Kd.R_lt (rS HO_264001))) (below_size (wZ HB))); replace HO_264001 := Asd.mk (Kd.R_elder' (rS HO_264001) (Kd.R_base ho0) hb); replace BK253 := bU BK253 hb; replace BK254 := bU BK254 hb; replace BK255 := bU BK255 hb; replace BK263 := bU BK263 hb; replace HB := bW HB hb; (try clear hb); (try clear hb2); (try clear hk); (try clear hi); (try clear ho0); obtain ⟨hcz121_0, hcz121_1, hcz121_2, hfz121_0, hfz121_1, hfz121_2⟩ := b3 BK253; obtain ⟨Ao122, co122, eo122⟩ := Kd.R_slice HO280.out; subst eo122) | ((with_reducible refine gate_callee (f := 106) rfl ?_); refine gsM (some 75) rfl rfl Try.func106 (by kernel_rfl) rfl #[.slice Ao122 t278.length co122, .slice A0_1 l0_1.length c0_1] rfl ?_; (with_reducible refine (slices_Equal_int_int.calls kj106 _ _ t278 _ _ l0_1 true _ ?side1 ?side2 ?side3 ?side4 A114.out).mono ?_); (case side1 => exact cZ (Kd.R_reads' HO280.out).2.2); (case side2 => exact (Kd.R_reads' HO280.out).2.1); (case side3 => exact cZ (Kd.C_below HR0_1.out HB.out)); (case side4 => exact HC0_1.out); rintro e w' ⟨rfl, ⟨nd, rfl⟩⟩; refine ⟨_, rfl, ?_⟩; (try (rw [drewN_self w120]; generalize hq_ : World.drewN w120 _ = w120; replace HO280 : Asd (Kd.R (Kd.int .i64) 3 w120 w.heap.size (fun k_ => some k_ ≠ (.slice Ao67 t257.length co67 : Value).ownBlock) (.slice Ao122 t278.length co122) t278) := ⟨by rw [← hq_]; exact (by (repeat apply Kd.RS); exact Kd.R_mono HO280.out (fun _ hk => hk.2))⟩; replace HO_264001 : Asd (Kd.R (Kd.int .i64) 3 w120 w.heap.size (fun k_ => some k_ ≠ (.slice Ao122 t278.length co122 : Value).ownBlock) (.slice Ao67 t257.length co67) t257) := ⟨by rw [← hq_]; exact (by (repeat apply Kd.RS); exact Kd.R_mono HO_264001.out (fun _ hk => hk.2))⟩; replace HO_264002 : Asd (Kd.S (Kd.slice 3 (Kd.int .i64)) 55 w120 w.heap.size (fun k_ => some k_ ≠ (.slice Ao122 t278.length co122 : Value).ownBlock ∧ some k_ ≠ (.slice Ao67 t257.length co67 : Value).ownBlock) (.slice Ao68 t260.length co68) t260) := ⟨by rw [← hq_]; exact (by (repeat apply Kd.SS); exact Kd.S_mono HO_264002.out (fun _ hk => ⟨hk.2, hk.1⟩))⟩; replace BK253 : Asd (w120.heap[gb253]? = some (.cells #[.int .i64 a0_0, .slice A0_1 l0_1.length c0_1, .slice A0_2 l0_2.length c0_2] 58 (0, 0))) := ⟨by rw [← hq_]; exact (kS BK253)⟩; replace BK254 : Asd (w120.heap[gb254]? = some (.cells #[.int .i64 a1_0, .string a1_1] 26 (0, 0))) := ⟨by rw [← hq_]; exact (kS BK254)⟩; replace BK255 : Asd (w120.heap[gb255]? = some (.cells #[.int .i64 0, .slice none 0 0, .slice none 0 0] 58 (0, 0))) := ⟨by rw [← hq_]; exact (kS BK255)⟩; replace BK263 : Asd (w120.heap[gb263]? = some (.cells #[.int .i64 t256, .slice Ao67 t257.length co67, .slice Ao68 t260.length co68] 58 (0, 0))) := ⟨by rw [← hq_]; exact (kS BK263)⟩; replace HB : Asd (Below w.heap.size w w120) := ⟨by rw [← hq_]; exact (wZ HB)⟩; clear hq_)); have hnb123 := NB263_254.out; have hnc123 := NB254_263.out; have hnb124 := NB263_255.out; have hnc124 := NB255_263.out; obtain ⟨hcz125_0, hcz125_1, hcz125_2, hfz125_0, hfz125_1, hfz125_2⟩ := b3 BK263; have hnb126 := NB255_254.out; have hnc126 := NB254_255.out; obtain ⟨hcz127_0, hcz127_1, hcz127_2, hfz127_0, hfz127_1, hfz127_2⟩ := b3 BK255))
           refine bodyPost_ret (results_ct rfl _ _ gb255 58 #[.int .i64 t256, .slice Ao67 t257.length co67, .slice Ao68 t260.length co68] (0, 0) _ rfl (kP BK255) Try.underlying58 rfl (by kernel_rfl)) rfl ?_
           exact ⟨_, _, by first | rfl | (simp [*, errW_none, errW_some] <;> rfl), rT HO_264001, by (repeat apply Kd.SS); exact Kd.S_mono (Kd.S_far (p := ⟨gb255, 2, none⟩) (Kd.S_far (p := ⟨gb255, 1, none⟩) (Kd.S_far (p := ⟨gb255, 0, none⟩) (Kd.S_types HO_264002.out BK255.out (by decide)) (fun _ hk => hk.2) (.int .i64 t256)) (fun _ hk => hk.2) (.slice Ao67 t257.length co67)) (fun _ hk => hk.2) (.slice Ao68 t260.length co68)) (fun _ hk => by first | exact hk.1.1 | exact hk.1.2), wZ HB⟩
          ·replace c115 := Bool.eq_false_iff.mpr c115
           subst c115
           rw [if_neg (show ¬ (false = true) by decide)] at H
           by_cases c128 : t260.length < 5864062014805; rotate_left; (rw [if_neg c128] at H; exact absurd H (by simp))
           rw [if_pos c128] at H
           have LMc128 := Asd.mk c128
           clear c128
           obtain ⟨y282, hy282⟩ : ∃ y_ : List (List Int), y_ = (t260 ++ [t257]) := ⟨_, rfl⟩
           replace H : (if (y282.length : Int) > 10 then (if 1 ≤ (y282.length : Int) then ((impl_copyMind.f kj106 a0_0 t278 (y282.drop (1 : Int).toNat)).bind fun bt288 => (some (bt288.1, bt288.2.1, bt288.2.2, true))) else (none)) else ((impl_copyMind.f kj106 a0_0 t278 y282).bind fun bt295 => (some (bt295.1, bt295.2.1, bt295.2.2, true)))) = some (r1, r2, r3, r4) := by first | (rw [hy282]; with_reducible exact H) | (have H2_ := (Option.bind_some _ _).symm.trans H; rw [hy282]; with_reducible exact H2_) | (have H2_ := (Option.bind_some _ _).symm.trans H; with_reducible exact H2_) | with_reducible exact H | (rw [hy282]; exact H) | exact H
           have Ny282 := Asd.mk hy282
           clear hy282
           by_cases c129 : (y282.length : Int) > 10
           ·rw [if_pos c129] at H
            have c129b0 : decide (10 < (y282.length : Int)) = true := decide_eq_true c129
            have c129b1 : decide (10 < y282.length) = true := decide_eq_true (by omega)
            clear c129
            by_cases c130 : 1 ≤ (y282.length : Int); rotate_left; (rw [if_neg c130] at H; exact absurd H (by simp))
            rw [if_pos c130] at H
            have c130b0 := eq_true c130
            have c130b1 : decide (1 ≤ (y282.length : Int)) = true := decide_eq_true c130
            clear c130
            obtain ⟨y285, hy285⟩ : ∃ y_ : List (List Int), y_ = (y282.drop (1 : Int).toNat) := ⟨_, rfl⟩
            replace H : ((impl_copyMind.f kj106 a0_0 t278 y285).bind fun bt288 => (some (bt288.1, bt288.2.1, bt288.2.2, true))) = some (r1, r2, r3, r4) := by first | (rw [hy285]; with_reducible exact H) | (have H2_ := (Option.bind_some _ _).symm.trans H; rw [hy285]; with_reducible exact H2_) | (have H2_ := (Option.bind_some _ _).symm.trans H; with_reducible exact H2_) | with_reducible exact H | (rw [hy285]; exact H) | exact H
            have Ny285 := Asd.mk hy285
            clear hy285
            replace H := Option.bind_eq_some_iff.mp H
            obtain ⟨⟨t288, t289, t292⟩, A1310, H⟩ := H
            try dsimp only at H
            have A131 := Asd.mk A1310
            clear A1310
            simp only [Option.some.injEq, Prod.mk.injEq] at H
            obtain ⟨rfl, rfl, rfl, rfl⟩ := H
            have hnb132 := NB253_254.out
            have hnc132 := NB254_253.out
            have hnb133 := NB253_255.out
            have hnc133 := NB255_253.out
            have hnb134 := NB253_263.out
            have hnc134 := NB263_253.out
            obtain ⟨hcz135_0, hcz135_1, hcz135_2, hfz135_0, hfz135_1, hfz135_2⟩ := b3 BK253
            go_wp2_with (first | ((with_reducible refine gate_callee (f := 135) rfl ?_); refine gsM (some 71) rfl rfl Try.func135 (by kernel_rfl) rfl #[.int .i64 a0_0, .slice A0_1 l0_1.length c0_1, .int .i64 x10_106, .int .i64 t276] rfl ?_; (with_reducible refine (impl_changedBy.calls kj106 a0_0 _ _ l0_1 x10_106 t276 t278 _ ?side1 ?side2 A113.out).mono ?_); (case side1 => exact cZ (Kd.C_below HR0_1.out HB.out)); (case side2 => exact HC0_1.out); rintro e w136 ⟨v279, rfl, ho0, hb⟩; refine ⟨_, rfl, ?_⟩; replace HO_264002 := Asd.mk (Kd.S_elder' (sS HO_264002) (Kd.R_base ho0) hb); have HO280 := Asd.mk (Kd.R_lower (Kd.R_new' ho0 (Kd.R_lt (rS HO_264001))) (below_size (wZ HB))); replace HO_264001 := Asd.mk (Kd.R_elder' (rS HO_264001) (Kd.R_base ho0) hb); replace BK253 := bU BK253 hb; replace BK254 := bU BK254 hb; replace BK255 := bU BK255 hb; replace BK263 := bU BK263 hb; replace HB := bW HB hb; (try clear hb); (try clear hb2); (try clear hk); (try clear hi); (try clear ho0); obtain ⟨hcz137_0, hcz137_1, hcz137_2, hfz137_0, hfz137_1, hfz137_2⟩ := b3 BK253; obtain ⟨Ao138, co138, eo138⟩ := Kd.R_slice HO280.out; subst eo138) | ((with_reducible refine gate_callee (f := 106) rfl ?_); refine gsM (some 75) rfl rfl Try.func106 (by kernel_rfl) rfl #[.slice Ao138 t278.length co138, .slice A0_1 l0_1.length c0_1] rfl ?_; (with_reducible refine (slices_Equal_int_int.calls kj106 _ _ t278 _ _ l0_1 false _ ?side1 ?side2 ?side3 ?side4 A114.out).mono ?_); (case side1 => exact cZ (Kd.R_reads' HO280.out).2.2); (case side2 => exact (Kd.R_reads' HO280.out).2.1); (case side3 => exact cZ (Kd.C_below HR0_1.out HB.out)); (case side4 => exact HC0_1.out); rintro e w' ⟨rfl, ⟨nd, rfl⟩⟩; refine ⟨_, rfl, ?_⟩; (try (rw [drewN_self w136]; generalize hq_ : World.drewN w136 _ = w136; replace HO280 : Asd (Kd.R (Kd.int .i64) 3 w136 w.heap.size (fun k_ => some k_ ≠ (.slice Ao67 t257.length co67 : Value).ownBlock) (.slice Ao138 t278.length co138) t278) := ⟨by rw [← hq_]; exact (by (repeat apply Kd.RS); exact Kd.R_mono HO280.out (fun _ hk => hk.2))⟩; replace HO_264001 : Asd (Kd.R (Kd.int .i64) 3 w136 w.heap.size (fun k_ => some k_ ≠ (.slice Ao138 t278.length co138 : Value).ownBlock) (.slice Ao67 t257.length co67) t257) := ⟨by rw [← hq_]; exact (by (repeat apply Kd.RS); exact Kd.R_mono HO_264001.out (fun _ hk => hk.2))⟩; replace HO_264002 : Asd (Kd.S (Kd.slice 3 (Kd.int .i64)) 55 w136 w.heap.size (fun k_ => some k_ ≠ (.slice Ao138 t278.length co138 : Value).ownBlock ∧ some k_ ≠ (.slice Ao67 t257.length co67 : Value).ownBlock) (.slice Ao68 t260.length co68) t260) := ⟨by rw [← hq_]; exact (by (repeat apply Kd.SS); exact Kd.S_mono HO_264002.out (fun _ hk => ⟨hk.2, hk.1⟩))⟩; replace BK253 : Asd (w136.heap[gb253]? = some (.cells #[.int .i64 a0_0, .slice A0_1 l0_1.length c0_1, .slice A0_2 l0_2.length c0_2] 58 (0, 0))) := ⟨by rw [← hq_]; exact (kS BK253)⟩; replace BK254 : Asd (w136.heap[gb254]? = some (.cells #[.int .i64 a1_0, .string a1_1] 26 (0, 0))) := ⟨by rw [← hq_]; exact (kS BK254)⟩; replace BK255 : Asd (w136.heap[gb255]? = some (.cells #[.int .i64 0, .slice none 0 0, .slice none 0 0] 58 (0, 0))) := ⟨by rw [← hq_]; exact (kS BK255)⟩; replace BK263 : Asd (w136.heap[gb263]? = some (.cells #[.int .i64 t256, .slice Ao67 t257.length co67, .slice Ao68 t260.length co68] 58 (0, 0))) := ⟨by rw [← hq_]; exact (kS BK263)⟩; replace HB : Asd (Below w.heap.size w w136) := ⟨by rw [← hq_]; exact (wZ HB)⟩; clear hq_)); have hnb139 := NB263_254.out; have hnc139 := NB254_263.out; have hnb140 := NB263_255.out; have hnc140 := NB255_263.out; obtain ⟨hcz141_0, hcz141_1, hcz141_2, hfz141_0, hfz141_1, hfz141_2⟩ := b3 BK263) | ((with_reducible refine gate_builtin (b := .append) (xs := #[.tmp 78, .tmp 81]) rfl ?_); at_builtin; refine Kd.S_append (Kd.slice 3 (Kd.int .i64)) (w0 := w) w.heap.size rfl (.tmp 78) (.tmp 81) 56 55 (.slice none 0 0) 24 rfl Try.underlying56 info55 rfl (by decide) (by omega) (.slice Ao68 t260.length co68) t260 t257 [.slice Ao67 t257.length co67] (fun k_ => some k_ ≠ (.slice Ao138 t278.length co138 : Value).ownBlock) (fun k_ => some k_ = (.slice Ao67 t257.length co67 : Value).ownBlock) rfl rfl ?aP (fun k_ hk_ => ((Kd.R_mono (ok' := fun k_ => ((fun k_ => some k_ ≠ (.slice Ao138 t278.length co138 : Value).ownBlock)) k_ ∧ some k_ ≠ (.slice Ao68 t260.length co68 : Value).ownBlock) (Kd.R_apart' (HO_264001.out) (Kd.S_typed HO_264002.out) (by decide)) (fun k_ hk => by first | exact ⟨hk.1.2, hk.2⟩ | exact ⟨hk.1, hk.2⟩ | exact ⟨hk.1.1, hk.2⟩))).1 k_ hk_.symm) ?aF ?aO ?aB ?aS ?aL ?_; (case aP => exact Kd.M_row (Kd.R_mono (Kd.R_tight rfl (Kd.R_mono (ok' := fun k_ => ((fun k_ => some k_ ≠ (.slice Ao138 t278.length co138 : Value).ownBlock)) k_ ∧ some k_ ≠ (.slice Ao68 t260.length co68 : Value).ownBlock) (Kd.R_apart' (HO_264001.out) (Kd.S_typed HO_264002.out) (by decide)) (fun k_ hk => by first | exact ⟨hk.1.2, hk.2⟩ | exact ⟨hk.1, hk.2⟩ | exact ⟨hk.1.1, hk.2⟩))) (fun _ h_ => h_))); (case aB => exact (wZ HB)); (case aF => exact (fun k_ hk => Kd.fresh' (Kd.R_lt (rS HO280)) k_ hk)); (case aO => exact (by (repeat apply Kd.SS); exact Kd.S_mono HO_264002.out (fun k_ hk => by first | exact ⟨hk.2, fun e_ => hk.1 e_⟩ | exact ⟨hk.1, fun e_ => hk.2 e_⟩))); (case aS => exact (below_size (wZ HB))); (case aL => have := LMc128.out; omega); intro v283 w142 ho hb hg hat; rw [← Ny282.out] at ho; replace BK253 := bN BK253 hg (Kd.S_ne HO_264002.out BK253.out (by decide)); replace BK254 := bN BK254 hg (Kd.S_ne HO_264002.out BK254.out (by decide)); replace BK255 := bN BK255 hg (Kd.S_ne HO_264002.out BK255.out (by decide)); replace BK263 := bN BK263 hg (Kd.S_ne HO_264002.out BK263.out (by decide)); replace HO280 := Asd.mk (Kd.R_over' (rS HO280) (Kd.S_typed (sS HO_264002)) (by decide) hg); replace HB := Asd.mk (hb); have HO284 := Asd.mk (ho); clear HO_264002 HO_264001; clear ho hb hg hat; obtain ⟨Ao143, co143, eo143⟩ := Kd.S_slice HO284.out; subst eo143; have q144 : (1 : Int) ≤ ((y282.length : Int) : Int) := odt; obtain ⟨i0144, hi0144, _, hsz144, _⟩ := info_parts info55; have hcut144 := cut_from (P := Try.prog) 56 55 .i64 Try.underlying56 hi0144 1 hsz144 Ao143 y282.length co143 1 (by omega) q144; have hr144 := Kd.Q_drop (k := (1 : Int).toNat) (Kd.Q_of_R (Kd.S_R HO284.out)) (by omega); obtain ⟨A144, hA144⟩ : ∃ A1, A1 = (if co143 = (1 : Int).toNat then Ao143 else (Ao143 : Option Addr).map (·.add ((1 : Int).toNat * 1))) := ⟨_, rfl⟩; obtain ⟨c144, hc144⟩ : ∃ c1, c1 = co143 - (1 : Int).toNat := ⟨_, rfl⟩; have hy144 : y285.length = y282.length - (1 : Int).toNat := (by rw [Ny285.out, List.length_drop]); rw [← Ny285.out] at hr144; rw [← hy144, ← hA144, ← hc144] at hcut144; replace hr144 : Kd.Q (Kd.slice 3 (Kd.int .i64)) 55 w142 w.heap.size (fun k_ => some k_ ≠ (.slice Ao138 t278.length co138 : Value).ownBlock) (.slice A144 y285.length c144) y285 := (by rw [hA144, hc144, hy144]; exact hr144); have HE144 : Asd ((Value.slice A144 y285.length c144).ownBlock = (.slice Ao143 y282.length co143 : Value).ownBlock) := ⟨by rw [hA144]; split <;> (cases (Ao143 : Option Addr) <;> rfl)⟩; clear hy144 hi0144 hsz144 HO284 hA144 hc144; have HO287 := Asd.mk hr144; clear hr144; replace q144 := eq_true q144; obtain ⟨hcz145_0, hcz145_1, hcz145_2, hfz145_0, hfz145_1, hfz145_2⟩ := b3 BK253) | ((with_reducible refine gate_callee (f := 116) rfl ?_); refine gsM (some 93) rfl rfl Try.func116 (by kernel_rfl) rfl #[.agg #[.int .i64 a0_0, .slice Ao138 t278.length co138, .slice A144 y285.length c144]] rfl ?_; (with_reducible refine (impl_copyMind.calls kj106 a0_0 _ _ t278 _ _ y285 t288 t289 t292 _ ?side1 ?side2 ?side3 ?side4 A131.out).mono ?_); (case side1 => exact cZ (Kd.R_reads' HO280.out).2.2); (case side2 => exact (Kd.R_reads' HO280.out).2.1); (case side3 => exact cZ (Kd.Q_reads' HO287.out).2.2); (case side4 => exact (Kd.Q_reads' HO287.out).2.1); rintro e w146 ⟨v290, v293, rfl, ho0, ho1, hb⟩; refine ⟨_, rfl, ?_⟩; have HO291 := Asd.mk (Kd.R_lower (Kd.R_new' ho0 (Kd.R_lt (rS HO280))) (below_size (wZ HB))); have HO294 := Asd.mk (Kd.S_lower (Kd.S_new' (Kd.S_new' ho1 (Kd.R_lt (rS HO280))) (Kd.Q_lt (by (with_reducible repeat (first | apply Kd.Q_alloc | apply Kd.Q_drewN | apply Kd.Q_drew)); exact HO287.out))) (below_size (wZ HB))); replace HO280 := Asd.mk (Kd.R_elder' (rS HO280) (Kd.R_base ho0) hb); replace HO287 := Asd.mk (Kd.Q_mono (Kd.Q_told (Kd.Q_told (Kd.Q_old (by (with_reducible repeat (first | apply Kd.Q_alloc | apply Kd.Q_drewN | apply Kd.Q_drew)); exact HO287.out) hb) (Kd.R_base ho0)) (Kd.S_base ho1)) (fun _ h_ => h_.1)); replace BK253 := bU BK253 hb; replace BK254 := bU BK254 hb; replace BK255 := bU BK255 hb; replace BK263 := bU BK263 hb; replace HB := bW HB hb; (try clear hb); (try clear hb2); (try clear hk); (try clear hi); (try clear ho0); (try clear ho1); have hnb147 := NB255_254.out; have hnc147 := NB254_255.out; obtain ⟨hcz148_0, hcz148_1, hcz148_2, hfz148_0, hfz148_1, hfz148_2⟩ := b3 BK255; obtain ⟨Ao149, co149, eo149⟩ := Kd.R_slice HO291.out; subst eo149; obtain ⟨Ao150, co150, eo150⟩ := Kd.S_slice HO294.out; subst eo150))
            refine bodyPost_ret (results_ct rfl _ _ gb255 58 #[.int .i64 t288, .slice Ao149 t289.length co149, .slice Ao150 t292.length co150] (0, 0) _ rfl (kP BK255) Try.underlying58 rfl (by kernel_rfl)) rfl ?_
            exact ⟨_, _, by first | rfl | (simp [*, errW_none, errW_some] <;> rfl), rT HO291, by (repeat apply Kd.SS); exact Kd.S_mono (Kd.S_far (p := ⟨gb255, 2, none⟩) (Kd.S_far (p := ⟨gb255, 1, none⟩) (Kd.S_far (p := ⟨gb255, 0, none⟩) (Kd.S_types HO294.out BK255.out (by decide)) (fun _ hk => hk.2) (.int .i64 t288)) (fun _ hk => hk.2) (.slice Ao149 t289.length co149)) (fun _ hk => hk.2) (.slice Ao150 t292.length co150)) (fun _ hk => hk.1.1.1), wZ HB⟩
           ·rw [if_neg c129] at H
            have c129b0 : decide (10 < (y282.length : Int)) = false := decide_eq_false c129
            have c129b1 : decide (10 < y282.length) = false := decide_eq_false (by omega)
            clear c129
            replace H := Option.bind_eq_some_iff.mp H
            obtain ⟨⟨t295, t296, t299⟩, A1510, H⟩ := H
            try dsimp only at H
            have A151 := Asd.mk A1510
            clear A1510
            simp only [Option.some.injEq, Prod.mk.injEq] at H
            obtain ⟨rfl, rfl, rfl, rfl⟩ := H
            have hnb152 := NB253_254.out
            have hnc152 := NB254_253.out
            have hnb153 := NB253_255.out
            have hnc153 := NB255_253.out
            have hnb154 := NB253_263.out
            have hnc154 := NB263_253.out
            obtain ⟨hcz155_0, hcz155_1, hcz155_2, hfz155_0, hfz155_1, hfz155_2⟩ := b3 BK253
            go_wp2_with (first | ((with_reducible refine gate_callee (f := 135) rfl ?_); refine gsM (some 71) rfl rfl Try.func135 (by kernel_rfl) rfl #[.int .i64 a0_0, .slice A0_1 l0_1.length c0_1, .int .i64 x10_106, .int .i64 t276] rfl ?_; (with_reducible refine (impl_changedBy.calls kj106 a0_0 _ _ l0_1 x10_106 t276 t278 _ ?side1 ?side2 A113.out).mono ?_); (case side1 => exact cZ (Kd.C_below HR0_1.out HB.out)); (case side2 => exact HC0_1.out); rintro e w156 ⟨v279, rfl, ho0, hb⟩; refine ⟨_, rfl, ?_⟩; replace HO_264002 := Asd.mk (Kd.S_elder' (sS HO_264002) (Kd.R_base ho0) hb); have HO280 := Asd.mk (Kd.R_lower (Kd.R_new' ho0 (Kd.R_lt (rS HO_264001))) (below_size (wZ HB))); replace HO_264001 := Asd.mk (Kd.R_elder' (rS HO_264001) (Kd.R_base ho0) hb); replace BK253 := bU BK253 hb; replace BK254 := bU BK254 hb; replace BK255 := bU BK255 hb; replace BK263 := bU BK263 hb; replace HB := bW HB hb; (try clear hb); (try clear hb2); (try clear hk); (try clear hi); (try clear ho0); obtain ⟨hcz157_0, hcz157_1, hcz157_2, hfz157_0, hfz157_1, hfz157_2⟩ := b3 BK253; obtain ⟨Ao158, co158, eo158⟩ := Kd.R_slice HO280.out; subst eo158) | ((with_reducible refine gate_callee (f := 106) rfl ?_); refine gsM (some 75) rfl rfl Try.func106 (by kernel_rfl) rfl #[.slice Ao158 t278.length co158, .slice A0_1 l0_1.length c0_1] rfl ?_; (with_reducible refine (slices_Equal_int_int.calls kj106 _ _ t278 _ _ l0_1 false _ ?side1 ?side2 ?side3 ?side4 A114.out).mono ?_); (case side1 => exact cZ (Kd.R_reads' HO280.out).2.2); (case side2 => exact (Kd.R_reads' HO280.out).2.1); (case side3 => exact cZ (Kd.C_below HR0_1.out HB.out)); (case side4 => exact HC0_1.out); rintro e w' ⟨rfl, ⟨nd, rfl⟩⟩; refine ⟨_, rfl, ?_⟩; (try (rw [drewN_self w156]; generalize hq_ : World.drewN w156 _ = w156; replace HO280 : Asd (Kd.R (Kd.int .i64) 3 w156 w.heap.size (fun k_ => some k_ ≠ (.slice Ao67 t257.length co67 : Value).ownBlock) (.slice Ao158 t278.length co158) t278) := ⟨by rw [← hq_]; exact (by (repeat apply Kd.RS); exact Kd.R_mono HO280.out (fun _ hk => hk.2))⟩; replace HO_264001 : Asd (Kd.R (Kd.int .i64) 3 w156 w.heap.size (fun k_ => some k_ ≠ (.slice Ao158 t278.length co158 : Value).ownBlock) (.slice Ao67 t257.length co67) t257) := ⟨by rw [← hq_]; exact (by (repeat apply Kd.RS); exact Kd.R_mono HO_264001.out (fun _ hk => hk.2))⟩; replace HO_264002 : Asd (Kd.S (Kd.slice 3 (Kd.int .i64)) 55 w156 w.heap.size (fun k_ => some k_ ≠ (.slice Ao158 t278.length co158 : Value).ownBlock ∧ some k_ ≠ (.slice Ao67 t257.length co67 : Value).ownBlock) (.slice Ao68 t260.length co68) t260) := ⟨by rw [← hq_]; exact (by (repeat apply Kd.SS); exact Kd.S_mono HO_264002.out (fun _ hk => ⟨hk.2, hk.1⟩))⟩; replace BK253 : Asd (w156.heap[gb253]? = some (.cells #[.int .i64 a0_0, .slice A0_1 l0_1.length c0_1, .slice A0_2 l0_2.length c0_2] 58 (0, 0))) := ⟨by rw [← hq_]; exact (kS BK253)⟩; replace BK254 : Asd (w156.heap[gb254]? = some (.cells #[.int .i64 a1_0, .string a1_1] 26 (0, 0))) := ⟨by rw [← hq_]; exact (kS BK254)⟩; replace BK255 : Asd (w156.heap[gb255]? = some (.cells #[.int .i64 0, .slice none 0 0, .slice none 0 0] 58 (0, 0))) := ⟨by rw [← hq_]; exact (kS BK255)⟩; replace BK263 : Asd (w156.heap[gb263]? = some (.cells #[.int .i64 t256, .slice Ao67 t257.length co67, .slice Ao68 t260.length co68] 58 (0, 0))) := ⟨by rw [← hq_]; exact (kS BK263)⟩; replace HB : Asd (Below w.heap.size w w156) := ⟨by rw [← hq_]; exact (wZ HB)⟩; clear hq_)); have hnb159 := NB263_254.out; have hnc159 := NB254_263.out; have hnb160 := NB263_255.out; have hnc160 := NB255_263.out; obtain ⟨hcz161_0, hcz161_1, hcz161_2, hfz161_0, hfz161_1, hfz161_2⟩ := b3 BK263) | ((with_reducible refine gate_builtin (b := .append) (xs := #[.tmp 78, .tmp 81]) rfl ?_); at_builtin; refine Kd.S_append (Kd.slice 3 (Kd.int .i64)) (w0 := w) w.heap.size rfl (.tmp 78) (.tmp 81) 56 55 (.slice none 0 0) 24 rfl Try.underlying56 info55 rfl (by decide) (by omega) (.slice Ao68 t260.length co68) t260 t257 [.slice Ao67 t257.length co67] (fun k_ => some k_ ≠ (.slice Ao158 t278.length co158 : Value).ownBlock) (fun k_ => some k_ = (.slice Ao67 t257.length co67 : Value).ownBlock) rfl rfl ?aP (fun k_ hk_ => ((Kd.R_mono (ok' := fun k_ => ((fun k_ => some k_ ≠ (.slice Ao158 t278.length co158 : Value).ownBlock)) k_ ∧ some k_ ≠ (.slice Ao68 t260.length co68 : Value).ownBlock) (Kd.R_apart' (HO_264001.out) (Kd.S_typed HO_264002.out) (by decide)) (fun k_ hk => by first | exact ⟨hk.1.2, hk.2⟩ | exact ⟨hk.1, hk.2⟩ | exact ⟨hk.1.1, hk.2⟩))).1 k_ hk_.symm) ?aF ?aO ?aB ?aS ?aL ?_; (case aP => exact Kd.M_row (Kd.R_mono (Kd.R_tight rfl (Kd.R_mono (ok' := fun k_ => ((fun k_ => some k_ ≠ (.slice Ao158 t278.length co158 : Value).ownBlock)) k_ ∧ some k_ ≠ (.slice Ao68 t260.length co68 : Value).ownBlock) (Kd.R_apart' (HO_264001.out) (Kd.S_typed HO_264002.out) (by decide)) (fun k_ hk => by first | exact ⟨hk.1.2, hk.2⟩ | exact ⟨hk.1, hk.2⟩ | exact ⟨hk.1.1, hk.2⟩))) (fun _ h_ => h_))); (case aB => exact (wZ HB)); (case aF => exact (fun k_ hk => Kd.fresh' (Kd.R_lt (rS HO280)) k_ hk)); (case aO => exact (by (repeat apply Kd.SS); exact Kd.S_mono HO_264002.out (fun k_ hk => by first | exact ⟨hk.2, fun e_ => hk.1 e_⟩ | exact ⟨hk.1, fun e_ => hk.2 e_⟩))); (case aS => exact (below_size (wZ HB))); (case aL => have := LMc128.out; omega); intro v283 w162 ho hb hg hat; rw [← Ny282.out] at ho; replace BK253 := bN BK253 hg (Kd.S_ne HO_264002.out BK253.out (by decide)); replace BK254 := bN BK254 hg (Kd.S_ne HO_264002.out BK254.out (by decide)); replace BK255 := bN BK255 hg (Kd.S_ne HO_264002.out BK255.out (by decide)); replace BK263 := bN BK263 hg (Kd.S_ne HO_264002.out BK263.out (by decide)); replace HO280 := Asd.mk (Kd.R_over' (rS HO280) (Kd.S_typed (sS HO_264002)) (by decide) hg); replace HB := Asd.mk (hb); have HO284 := Asd.mk (ho); clear HO_264002 HO_264001; clear ho hb hg hat; obtain ⟨Ao163, co163, eo163⟩ := Kd.S_slice HO284.out; subst eo163; obtain ⟨hcz164_0, hcz164_1, hcz164_2, hfz164_0, hfz164_1, hfz164_2⟩ := b3 BK253) | ((with_reducible refine gate_callee (f := 116) rfl ?_); refine gsM (some 93) rfl rfl Try.func116 (by kernel_rfl) rfl #[.agg #[.int .i64 a0_0, .slice Ao158 t278.length co158, .slice Ao163 y282.length co163]] rfl ?_; (with_reducible refine (impl_copyMind.calls kj106 a0_0 _ _ t278 _ _ y282 t295 t296 t299 _ ?side1 ?side2 ?side3 ?side4 A151.out).mono ?_); (case side1 => exact cZ (Kd.R_reads' HO280.out).2.2); (case side2 => exact (Kd.R_reads' HO280.out).2.1); (case side3 => exact cZ (Kd.S_reads' HO284.out).2.2); (case side4 => exact (Kd.S_reads' HO284.out).2.1); rintro e w165 ⟨v297, v300, rfl, ho0, ho1, hb⟩; refine ⟨_, rfl, ?_⟩; have HO298 := Asd.mk (Kd.R_lower (Kd.R_new' ho0 (Kd.R_lt (rS HO280))) (below_size (wZ HB))); have HO301 := Asd.mk (Kd.S_lower (Kd.S_new' (Kd.S_new' ho1 (Kd.R_lt (rS HO280))) (Kd.S_lt (sS HO284))) (below_size (wZ HB))); replace HO280 := Asd.mk (Kd.R_elder' (rS HO280) (Kd.R_base ho0) hb); replace HO284 := Asd.mk (Kd.S_mono (Kd.S_told (Kd.S_told (Kd.S_old (sS HO284) hb) (Kd.R_base ho0)) (Kd.S_base ho1)) (fun _ h_ => h_.1)); replace BK253 := bU BK253 hb; replace BK254 := bU BK254 hb; replace BK255 := bU BK255 hb; replace BK263 := bU BK263 hb; replace HB := bW HB hb; (try clear hb); (try clear hb2); (try clear hk); (try clear hi); (try clear ho0); (try clear ho1); have hnb166 := NB255_254.out; have hnc166 := NB254_255.out; obtain ⟨hcz167_0, hcz167_1, hcz167_2, hfz167_0, hfz167_1, hfz167_2⟩ := b3 BK255; obtain ⟨Ao168, co168, eo168⟩ := Kd.R_slice HO298.out; subst eo168; obtain ⟨Ao169, co169, eo169⟩ := Kd.S_slice HO301.out; subst eo169))
            refine bodyPost_ret (results_ct rfl _ _ gb255 58 #[.int .i64 t295, .slice Ao168 t296.length co168, .slice Ao169 t299.length co169] (0, 0) _ rfl (kP BK255) Try.underlying58 rfl (by kernel_rfl)) rfl ?_
            exact ⟨_, _, by first | rfl | (simp [*, errW_none, errW_some] <;> rfl), rT HO298, by (repeat apply Kd.SS); exact Kd.S_mono (Kd.S_far (p := ⟨gb255, 2, none⟩) (Kd.S_far (p := ⟨gb255, 1, none⟩) (Kd.S_far (p := ⟨gb255, 0, none⟩) (Kd.S_types HO301.out BK255.out (by decide)) (fun _ hk => hk.2) (.int .i64 t295)) (fun _ hk => hk.2) (.slice Ao168 t296.length co168)) (fun _ hk => hk.2) (.slice Ao169 t299.length co169)) (fun _ hk => hk.1.1.1), wZ HB⟩

end Go.Proofs.Ytihgpkohglcijaa.P
