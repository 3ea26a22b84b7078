-- Written by a program of this session (wip/hook.py), which runs the kit's printer; Lean checks it.
import Derived.Test.YtihgpkohglcijaaPx0
import Derived.Test.YtihgpkohglcijaaPx1
import Derived.Test.YtihgpkohglcijaaPx11
import Derived.Test.YtihgpkohglcijaaPx12
import Derived.Test.YtihgpkohglcijaaPx13
import Derived.Test.YtihgpkohglcijaaPx14
import Derived.Test.YtihgpkohglcijaaPx15
import Derived.Test.YtihgpkohglcijaaPx16
namespace Go.Proofs.Ytihgpkohglcijaa.P
open Go.RowKit Go.Proofs.YtihgpkohglcijaaW.PrintWords Go.Proofs.YtihgpkohglcijaaW.PrintLast Go.Proofs.YtihgpkohglcijaaW.PrintMore
attribute [local go_sem] max2_int min2_int max_two min_two max_three min_three max_four min_four   -- for this text's walks alone
set_option linter.unusedVariables false
set_option linter.unusedSimpArgs false

attribute [local go_sem high] eqA26
/-! ### spec_MindDo: function 63 -/
mutual
def spec_MindDo.j0 : Nat → Bool → Int → List Int → List (List Int) → Int → ByteArray → Int → List Int → List (List Int) → Option (Int × List Int × (List (List Int)) × Bool)
 | 0, _, _, _, _, _, _, _, _, _ => none
 | k + 1, x26, x440000, x440001, x440002, x441000, x441001, x451000, x451001, x451002 => if x26 = true then (if 0 ≤ (wrap64 ((x451002.length : Int) - 1)) then (if (wrap64 ((x451002.length : Int) - 1)) < (x451002.length : Int) then (some (x451000, rd_L5 x451002 (wrap64 ((x451002.length : Int) - 1)), x451002.take (wrap64 ((x451002.length : Int) - 1)).toNat, true)) else (none)) else (none)) else ((spec_HoldsIn.f k x440000 x441001).bind fun bt452 => (if bt452.2 = true then ((spec_l1In.f x441000 0 1).bind fun t454 => (spec_MindDo.j1 k bt452.1 (!t454) x440000 x440001 x440002 x441000 x441001 x451000 x451001 x451002)) else (spec_MindDo.j1 k bt452.1 true x440000 x440001 x440002 x441000 x441001 x451000 x451001 x451002)))
def spec_MindDo.j1 : Nat → Int → Bool → Int → List Int → List (List Int) → Int → ByteArray → Int → List Int → List (List Int) → Option (Int × List Int × (List (List Int)) × Bool)
 | 0, _, _, _, _, _, _, _, _, _, _ => none
 | k + 1, x8, x58, x440000, x440001, x440002, x441000, x441001, x451000, x451001, x451002 => if x58 = true then (some (x451000, x451001, x451002, false)) else ((spec_ChangedBy.f k x440000 x440001 x441000 x8).bind fun bt455 => (if bt455.2 = true then ((spec_SameOrder.f k x440000 bt455.1 x440001).bind fun t459 => (spec_MindDo.j2 k bt455.1 t459 x451000 x451001 x451002)) else (spec_MindDo.j2 k bt455.1 true x451000 x451001 x451002)))
def spec_MindDo.j2 : Nat → List Int → Bool → Int → List Int → List (List Int) → Option (Int × List Int × (List (List Int)) × Bool)
 | 0, _, _, _, _, _ => none
 | k + 1, x10, x80, x451000, x451001, x451002 => if x80 = true then (some (x451000, x451001, x451002, false)) else (if x451002.length < 5864062014805 then ((some (x451002 ++ [x451001] : List (List Int))).bind fun y460 => (if (y460.length : Int) > 10 then (some (x451000, x10, y460.drop (1 : Int).toNat, true)) else (some (x451000, x10, y460, true)))) else (none))
end
def spec_MindDo.f (k : Nat) (a0_0 : Int) (l0_1 : List Int) (l0_2 : List (List Int)) (a1_0 : Int) (a1_1 : ByteArray) : Option (Int × List Int × (List (List Int)) × Bool) := (spec_MindValid.f k a0_0 l0_1 l0_2).bind fun t442 => (if t442 = true then ((spec_l10Copy.f k a0_0 l0_1 l0_2).bind fun bt443 => (if (a1_0 == 2 && (a1_1.toList == ([] : List UInt8))) = true then (spec_MindDo.j0 k (decide ((l0_2.length : Int) > 0)) a0_0 l0_1 l0_2 a1_0 a1_1 bt443.1 bt443.2.1 bt443.2.2) else (spec_MindDo.j0 k false a0_0 l0_1 l0_2 a1_0 a1_1 bt443.1 bt443.2.1 bt443.2.2))) else (some (0, ([] : List Int), ([] : List (List Int)), false)))
theorem spec_MindDo.mono_l : ∀ k, (∀ y0 y1 y2 y3 y4 y5 y6 y7 y8, LeO (spec_MindDo.j0 k y0 y1 y2 y3 y4 y5 y6 y7 y8) (spec_MindDo.j0 (k + 1) y0 y1 y2 y3 y4 y5 y6 y7 y8)) ∧ (∀ y0 y1 y2 y3 y4 y5 y6 y7 y8 y9, LeO (spec_MindDo.j1 k y0 y1 y2 y3 y4 y5 y6 y7 y8 y9) (spec_MindDo.j1 (k + 1) y0 y1 y2 y3 y4 y5 y6 y7 y8 y9)) ∧ (∀ y0 y1 y2 y3 y4, LeO (spec_MindDo.j2 k y0 y1 y2 y3 y4) (spec_MindDo.j2 (k + 1) y0 y1 y2 y3 y4))
 | 0 => ⟨fun _ _ _ _ _ _ _ _ _ r h => by simp [spec_MindDo.j0] at h, fun _ _ _ _ _ _ _ _ _ _ r h => by simp [spec_MindDo.j1] at h, fun _ _ _ _ _ r h => by simp [spec_MindDo.j2] at h⟩
 | k + 1 => by
  obtain ⟨ih0, ih1, ih2⟩ := spec_MindDo.mono_l k
  refine ⟨?_, ?_, ?_⟩
  ·intro y0 y1 y2 y3 y4 y5 y6 y7 y8
   unfold spec_MindDo.j0
   repeat' first
   | (with_reducible first | exact ih0 _ _ _ _ _ _ _ _ _ | exact ih1 _ _ _ _ _ _ _ _ _ _ | exact ih2 _ _ _ _ _ | exact spec_ChangedBy.mono _ _ _ _ _ | exact spec_HoldsIn.mono _ _ _ | exact spec_MindValid.mono _ _ _ _ | exact spec_SameOrder.mono _ _ _ _ | exact spec_l10Copy.mono _ _ _ _ | exact LeO.refl _ | exact LeO.none _ | refine LeO.ite ?_ ?_ | refine LeO.bind ?_ (fun _ => ?_))
   | refine LeO.ite ?_ ?_
   | refine LeO.bind ?_ (fun _ => ?_)
  ·intro y0 y1 y2 y3 y4 y5 y6 y7 y8 y9
   unfold spec_MindDo.j1
   repeat' first
   | (with_reducible first | exact ih0 _ _ _ _ _ _ _ _ _ | exact ih1 _ _ _ _ _ _ _ _ _ _ | exact ih2 _ _ _ _ _ | exact spec_ChangedBy.mono _ _ _ _ _ | exact spec_HoldsIn.mono _ _ _ | exact spec_MindValid.mono _ _ _ _ | exact spec_SameOrder.mono _ _ _ _ | exact spec_l10Copy.mono _ _ _ _ | exact LeO.refl _ | exact LeO.none _ | refine LeO.ite ?_ ?_ | refine LeO.bind ?_ (fun _ => ?_))
   | refine LeO.ite ?_ ?_
   | refine LeO.bind ?_ (fun _ => ?_)
  ·intro y0 y1 y2 y3 y4
   unfold spec_MindDo.j2
   repeat' first
   | (with_reducible first | exact ih0 _ _ _ _ _ _ _ _ _ | exact ih1 _ _ _ _ _ _ _ _ _ _ | exact ih2 _ _ _ _ _ | exact spec_ChangedBy.mono _ _ _ _ _ | exact spec_HoldsIn.mono _ _ _ | exact spec_MindValid.mono _ _ _ _ | exact spec_SameOrder.mono _ _ _ _ | exact spec_l10Copy.mono _ _ _ _ | exact LeO.refl _ | exact LeO.none _ | refine LeO.ite ?_ ?_ | refine LeO.bind ?_ (fun _ => ?_))
   | refine LeO.ite ?_ ?_
   | refine LeO.bind ?_ (fun _ => ?_)
theorem spec_MindDo.mono : ∀ a0 a1 a2 a3 a4 k, LeO (spec_MindDo.f k a0 a1 a2 a3 a4) (spec_MindDo.f (k + 1) a0 a1 a2 a3 a4) := by
 intro a0 a1 a2 a3 a4 k
 obtain ⟨ih0, ih1, ih2⟩ := spec_MindDo.mono_l k
 unfold spec_MindDo.f
 repeat' first
   | (with_reducible first | exact ih0 _ _ _ _ _ _ _ _ _ | exact ih1 _ _ _ _ _ _ _ _ _ _ | exact ih2 _ _ _ _ _ | exact spec_ChangedBy.mono _ _ _ _ _ | exact spec_HoldsIn.mono _ _ _ | exact spec_MindValid.mono _ _ _ _ | exact spec_SameOrder.mono _ _ _ _ | exact spec_l10Copy.mono _ _ _ _ | exact LeO.refl _ | exact LeO.none _ | refine LeO.ite ?_ ?_ | refine LeO.bind ?_ (fun _ => ?_))
   | refine LeO.ite ?_ ?_
   | refine LeO.bind ?_ (fun _ => ?_)
/-- Element i taken off a row of rows, and the row cut before it. -/
theorem spec_MindDo.S_off {α : Type} {d : Kd α} {e base g n cap : Nat} {ok : Nat → Prop} {W : World} {xs : List α} (h : Kd.S d e W base ok (.slice (some ⟨g, 0, none⟩) n cap) xs) (z : α) (i : Int) (h0 : 0 ≤ i) (h1 : i < n) :
  ∃ (oki : Nat → Prop) (c : List Value), c.length = d.sz ∧ d.M W base oki (xs.getD i.toNat z) c ∧ (∀ j u, c[j]? = some u → W.cell? ⟨g, i.toNat * d.sz + j, none⟩ = some u) ∧ (∀ k, oki k → ok k ∧ k ≠ g) ∧ Kd.S d e W base (fun k => ok k ∧ ¬ oki k) (.slice (some ⟨g, 0, none⟩) i.toNat cap) (xs.take i.toNat) := by
 have hn := (Kd.S_reads' h).1
 obtain ⟨oki, c, hcl, hM, hcc, hoki, ho, f, hR⟩ := Kd.S_lend h z i h0 h1
 refine ⟨oki, c, hcl, hM, hcc, hoki, f, ?_⟩
 have hT := Kd.R_take hR (m := i.toNat) (by rw [List.length_zipIdx]; omega)
 have he : (xs.take i.toNat).zipIdx = xs.zipIdx.take i.toNat := by
  apply List.ext_getElem?
  intro j
  simp only [List.getElem?_zipIdx, List.getElem?_take, Nat.zero_add]
  split <;> simp
 rw [he]
 obtain ⟨hok0, inner, hown, hr⟩ := hT
 refine ⟨hok0, inner, hown, hr.1, fun m p hm => ?_⟩
 have hp2 : p.2 = m ∧ m < i.toNat := by
  rw [List.getElem?_take] at hm
  split at hm
  ·rename_i hlt
   rw [List.getElem?_zipIdx, Nat.zero_add] at hm
   obtain ⟨q, _, rfl⟩ := Option.map_eq_some_iff.1 hm
   exact ⟨rfl, hlt⟩
  ·cases hm
 exact (hr.2 m p hm).2 (by omega)
theorem spec_MindDo.S_offL {base n cap : Nat} {ok : Nat → Prop} {W : World} {A : Option Addr} {xs : List (List Int)} (h : Kd.S (Kd.slice 3 (Kd.int .i64)) 55 W base ok (.slice A n cap) xs) (i : Int) (h0 : 0 ≤ i) (h1 : i < n) :
  ∃ (ad : Addr) (A0 : Option Addr) (c0 : Nat), A = some ad ∧ W.cell? (ad.add i.toNat) = some (.slice A0 (rd_L5 xs i).length c0) ∧ Kd.R (Kd.int .i64) 3 W base ok (.slice A0 (rd_L5 xs i).length c0) (rd_L5 xs i) ∧ Kd.S (Kd.slice 3 (Kd.int .i64)) 55 W base (fun k => ok k ∧ some k ≠ (Value.slice A0 (rd_L5 xs i).length c0).ownBlock) (.slice A i.toNat cap) (xs.take i.toNat) := by
 have hn := (Kd.S_reads' h).1
 obtain ⟨g, cap', e, _⟩ := Kd.S_form h (by omega)
 cases e
 obtain ⟨oki, c, hcl, hM, hcc, hoki, hS⟩ := spec_MindDo.S_off h [] i h0 h1
 obtain ⟨v, rfl, hRv⟩ := hM
 obtain ⟨A0, c0, rfl⟩ := Kd.R_slice hRv
 have hcell := hcc 0 _ rfl
 refine ⟨⟨g, 0, none⟩, A0, c0, rfl, ?_, Kd.R_mono hRv (fun k hk => (hoki k hk).1), Kd.S_mono hS (fun k hk => ⟨hk.1, fun he => hk.2 (hRv.1 k he.symm)⟩)⟩
 rw [add_plain]
 have : i.toNat * (Kd.slice 3 (Kd.int .i64)).sz + 0 = 0 + i.toNat := by show i.toNat * 1 + 0 = _; omega
 rw [this] at hcell
 rw [Nat.zero_add] at hcell
 exact hcell
set_option maxHeartbeats 8000000 in
set_option maxRecDepth 100000 in
theorem spec_MindDo.calls (k : Nat) (a0_0 : Int) (A0_1 : Option Addr) (c0_1 : Nat) (l0_1 : List Int) (A0_2 : Option Addr) (c0_2 : Nat) (l0_2 : List (List Int)) (a1_0 : Int) (a1_1 : ByteArray) (r1 : Int) (r2 : List Int) (r3 : List (List Int)) (r4 : Bool) (w : World) (hr0_1 : Kd.C (Kd.int .i64) w A0_1 l0_1.length l0_1) (hc0_1 : l0_1.length ≤ c0_1) (hr0_2 : Kd.C (Kd.slice 3 (Kd.int .i64)) w A0_2 l0_2.length l0_2) (hc0_2 : l0_2.length ≤ c0_2) (h : spec_MindDo.f k a0_0 l0_1 l0_2 a1_0 a1_1 = some (r1, r2, r3, r4)) :
  Calls Try.prog 63 #[.agg #[.int .i64 a0_0, .slice A0_1 l0_1.length c0_1, .slice A0_2 l0_2.length c0_2], .agg #[.int .i64 a1_0, .string a1_1]] w fun e w' => ∃ v1_ v2_ : Value, e = .returned (.tuple #[.agg #[.int .i64 r1, v1_, v2_], .bool r4]) ∧ Kd.R (Kd.int .i64) 3 w' w.heap.size (fun _ => True) v1_ r2 ∧ Kd.Q (Kd.slice 3 (Kd.int .i64)) 55 w' w.heap.size (fun k_ => some k_ ≠ (v1_ : Value).ownBlock) v2_ r3 ∧ Below w.heap.size w w' := by
 have hu58 := Try.underlying58
 have hu26 := Try.underlying26
 have HR0_1 := Asd.mk hr0_1
 have HC0_1 := Asd.mk hc0_1
 clear hr0_1 hc0_1
 have HR0_2 := Asd.mk hr0_2
 have HC0_2 := Asd.mk hc0_2
 clear hr0_2 hc0_2
 have HB := Asd.mk (Below.refl w.heap.size w)
 have H : ((spec_MindValid.f k a0_0 l0_1 l0_2).bind fun t442 => (if t442 = true then ((spec_l10Copy.f k a0_0 l0_1 l0_2).bind fun bt443 => (if (a1_0 == 2 && (a1_1.toList == ([] : List UInt8))) = true then (spec_MindDo.j0 k (decide ((l0_2.length : Int) > 0)) a0_0 l0_1 l0_2 a1_0 a1_1 bt443.1 bt443.2.1 bt443.2.2) else (spec_MindDo.j0 k false a0_0 l0_1 l0_2 a1_0 a1_1 bt443.1 bt443.2.1 bt443.2.2))) else (some (0, ([] : List Int), ([] : List (List Int)), false)))) = some (r1, r2, r3, r4) := h
 clear h
 replace H := Option.bind_eq_some_iff.mp H
 obtain ⟨t442, A30, H⟩ := H
 try dsimp only at H
 have A3 := Asd.mk A30
 clear A30
 by_cases c4 : t442 = true
 ·subst c4
  rw [if_pos rfl] at H
  replace H := Option.bind_eq_some_iff.mp H
  obtain ⟨⟨t443, t444, t447⟩, A50, H⟩ := H
  try dsimp only at H
  have A5 := Asd.mk A50
  clear A50
  have HC6 := Asd.mk H
  clear H
  go_enter Try.func63, Try.ntmps63
  go_upto_region 4 with (first | ((with_reducible refine gate_dst (N := 2) rfl ?_); (try (refine gate_guard (by rfl) ?_; dsimp only)); refine bxE ?hg (N := 2) ?hd (cs := #[.int .i64 a0_0, .slice A0_1 l0_1.length c0_1, .slice A0_2 l0_2.length c0_2]) (t := 58) ?hr ?_; (case hd => rfl); (case hg => rfl); (case hr => first | (go_simp; done) | (go_simp; rfl)); intro gb439 hg w7 hbox hb; have BK439 := Asd.mk (hbox); have GW439 := bG HB hg; have GE439 := bG HB hg; replace HB := bW HB hb; clear hb hbox hg) | ((with_reducible refine gate_dst (N := 3) rfl ?_); (try (refine gate_guard (by rfl) ?_; dsimp only)); refine bxE ?hg (N := 3) ?hd (cs := #[.int .i64 a1_0, .string a1_1]) (t := 26) ?hr ?_; (case hd => rfl); (case hg => rfl); (case hr => first | (go_simp; done) | (go_simp; rfl)); intro gb440 hg w8 hbox hb; have BK440 := Asd.mk (hbox); have GW440 := bG HB hg; have GE440 := bG HB hg; replace HB := bW HB hb; have NB439_440 := bL BK439 hg; have NB440_439 := bM BK439 hg; replace BK439 := bU BK439 hb; clear hb hbox hg) | ((with_reducible refine gate_dst (N := 4) rfl ?_); (try (refine gate_guard (by rfl) ?_; dsimp only)); refine bxE ?hg (N := 4) ?hd (cs := #[.int .i64 0, .slice none 0 0, .slice none 0 0]) (t := 58) ?hr ?_; (case hd => rfl); (case hg => rfl); (case hr => first | (go_simp; done) | (go_simp; rfl)); intro gb441 hg w9 hbox hb; have BK441 := Asd.mk (hbox); have GW441 := bG HB hg; have GE441 := bG HB hg; replace HB := bW HB hb; have NB439_441 := bL BK439 hg; have NB441_439 := bM BK439 hg; replace BK439 := bU BK439 hb; have NB440_441 := bL BK440 hg; have NB441_440 := bM BK440 hg; replace BK440 := bU BK440 hb; clear hb hbox hg; have hnb10 := NB439_440.out; have hnc10 := NB440_439.out; have hnb11 := NB439_441.out; have hnc11 := NB441_439.out; obtain ⟨hcz12_0, hcz12_1, hcz12_2, hfz12_0, hfz12_1, hfz12_2⟩ := b3 BK439) | ((with_reducible refine gate_callee (f := 52) rfl ?_); refine gsM (some 13) rfl rfl Try.func52 (by kernel_rfl) rfl #[.agg #[.int .i64 a0_0, .slice A0_1 l0_1.length c0_1, .slice A0_2 l0_2.length c0_2]] rfl ?_; (with_reducible refine (spec_MindValid.calls k a0_0 _ _ l0_1 _ _ l0_2 true _ ?side1 ?side2 ?side3 ?side4 A3.out).mono ?_); (case side1 => exact cZ (Kd.C_below HR0_1.out HB.out)); (case side2 => exact HC0_1.out); (case side3 => exact cZ (Kd.C_below HR0_2.out HB.out)); (case side4 => exact HC0_2.out); rintro e w13 ⟨rfl, hb⟩; refine ⟨_, rfl, ?_⟩; replace BK439 := bU BK439 hb; replace BK440 := bU BK440 hb; replace BK441 := bU BK441 hb; replace HB := bW HB hb; (try clear hb); (try clear hb2); (try clear hk); (try clear hi); obtain ⟨hcz14_0, hcz14_1, hcz14_2, hfz14_0, hfz14_1, hfz14_2⟩ := b3 BK439) | ((with_reducible refine gate_callee (f := 107) rfl ?_); refine gsM (some 17) rfl rfl Try.func107 (by kernel_rfl) rfl #[.agg #[.int .i64 a0_0, .slice A0_1 l0_1.length c0_1, .slice A0_2 l0_2.length c0_2]] rfl ?_; (with_reducible refine (spec_l10Copy.calls k a0_0 _ _ l0_1 _ _ l0_2 t443 t444 t447 _ ?side1 ?side2 ?side3 ?side4 A5.out).mono ?_); (case side1 => exact cZ (Kd.C_below HR0_1.out HB.out)); (case side2 => exact HC0_1.out); (case side3 => exact cZ (Kd.C_below HR0_2.out HB.out)); (case side4 => exact HC0_2.out); rintro e w15 ⟨v445, v448, rfl, ho0, ho1, hb⟩; refine ⟨_, rfl, ?_⟩; have HO446 := Asd.mk (Kd.R_lower ho0 (below_size (wZ HB))); have HO449 := Asd.mk (Kd.S_lower ho1 (below_size (wZ HB))); replace BK439 := bU BK439 hb; replace BK440 := bU BK440 hb; replace BK441 := bU BK441 hb; replace HB := bW HB hb; (try clear hb); (try clear hb2); (try clear hk); (try clear hi); (try clear ho0); (try clear ho1)) | ((with_reducible refine gate_dst (N := 6) rfl ?_); (try (refine gate_guard (by rfl) ?_; dsimp only)); refine bxE ?hg (N := 6) ?hd (cs := #[.int .i64 0, .slice none 0 0, .slice none 0 0]) (t := 58) ?hr ?_; (case hd => rfl); (case hg => rfl); (case hr => first | (go_simp; done) | (go_simp; rfl)); intro gb450 hg w16 hbox hb; replace HO446 := bR HO446 hb; replace HO449 := bS HO449 hb; have BK450 := Asd.mk (hbox); have GW450 := bG HB hg; have GE450 := bG HB hg; replace HB := bW HB hb; have NB439_450 := bL BK439 hg; have NB450_439 := bM BK439 hg; replace BK439 := bU BK439 hb; have NB440_450 := bL BK440 hg; have NB450_440 := bM BK440 hg; replace BK440 := bU BK440 hb; have NB441_450 := bL BK441 hg; have NB450_441 := bM BK441 hg; replace BK441 := bU BK441 hb; clear hb hbox hg; have hnb17 := NB450_439.out; have hnc17 := NB439_450.out; have hnb18 := NB450_440.out; have hnc18 := NB440_450.out; have hnb19 := NB450_441.out; have hnc19 := NB441_450.out; obtain ⟨hcz20_0, hcz20_1, hcz20_2, hfz20_0, hfz20_1, hfz20_2⟩ := b3 BK450; obtain ⟨Ao21, co21, eo21⟩ := Kd.R_slice HO446.out; subst eo21; obtain ⟨Ao22, co22, eo22⟩ := Kd.S_slice HO449.out; subst eo22))
  (try simp only [Act.put, qA, qB, qC])
  go_cut [26] (fun v26 wc => ∃ (kq : Nat) (x26_5 : Bool), v26 = .bool x26_5 ∧ Asd (spec_MindDo.j0 kq x26_5 a0_0 l0_1 l0_2 a1_0 a1_1 t443 t444 t447 = some (r1, r2, r3, r4)) ∧ Asd (kq ≤ k) ∧ Asd (Kd.R (Kd.int .i64) 3 wc w.heap.size (fun _ => True) (.slice Ao21 t444.length co21) t444) ∧ Asd (Kd.S (Kd.slice 3 (Kd.int .i64)) 55 wc w.heap.size (fun k_ => some k_ ≠ ((.slice Ao21 t444.length co21) : Value).ownBlock) (.slice Ao22 t447.length co22) t447) ∧ Asd (wc.heap[gb439]? = some (.cells #[.int .i64 a0_0, (.slice A0_1 l0_1.length c0_1), (.slice A0_2 l0_2.length c0_2)] 58 (0, 0))) ∧ Asd (wc.heap[gb440]? = some (.cells #[.int .i64 a1_0, .string a1_1] 26 (0, 0))) ∧ Asd (wc.heap[gb441]? = some (.cells #[.int .i64 0, (.slice none 0 0), (.slice none 0 0)] 58 (0, 0))) ∧ Asd (wc.heap[gb450]? = some (.cells #[.int .i64 t443, (.slice Ao21 t444.length co21), (.slice Ao22 t447.length co22)] 58 (0, 0))) ∧ Asd (Below w.heap.size w wc))
  case first =>
   have H := HC6.out
   clear HC6
   by_cases c23 : (a1_0 == 2 && (a1_1.toList == ([] : List UInt8))) = true
   ·rw [if_pos c23] at H
    have c23b0 : (a1_0 == 2 && (a1_1.toList == ([] : List UInt8))) = true := c23
    try have c23b7 : (a1_0 == 2 && a1_1.toList.isEmpty) = true := by have h_ := c23b0; (repeat rw [Hof.isEmpty_beq]); exact h_
    (try (have c23b1 : decide (a1_0 = 2 && (a1_1.toList == ([] : List UInt8))) = true := by simpa using c23))
    (try (have c23b2 : (a1_0 == 2 && (a1_1.toList == ([] : List UInt8))) = true := by simpa using c23))
    clear c23
    (first | rw [c23b0] | (simp only [i64_w, i32_w]; rw [c23b0]) | skip)
    have H' := Asd.mk H
    clear H
    have hnb24 := NB440_439.out
    have hnc24 := NB439_440.out
    have hnb25 := NB440_441.out
    have hnc25 := NB441_440.out
    have hnb26 := NB440_450.out
    have hnc26 := NB450_440.out
    obtain ⟨hcz27_0, hcz27_1, hfz27_0, hfz27_1⟩ := b2 BK440
    have hnb28 := NB439_441.out
    have hnc28 := NB441_439.out
    have hnb29 := NB439_450.out
    have hnc29 := NB450_439.out
    obtain ⟨hcz30_0, hcz30_1, hcz30_2, hfz30_0, hfz30_1, hfz30_2⟩ := b3 BK439
    go_wp2
    go_meet
    case rel => exact ⟨_, (decide ((l0_2.length : Int) > 0)), (by first | rfl | (simp; done) | (simp [*]; done)), H', ⟨by first | omega | exact Nat.le_refl _⟩, ⟨rT HO446⟩, ⟨sT HO449⟩, ⟨kS BK439⟩, ⟨kS BK440⟩, ⟨kS BK441⟩, ⟨kP BK450⟩, ⟨wZ HB⟩⟩
   ·rw [if_neg c23] at H
    have c23b0 : (a1_0 == 2 && (a1_1.toList == ([] : List UInt8))) = false := by simpa using c23
    try have c23b7 : (a1_0 == 2 && a1_1.toList.isEmpty) = false := by have h_ := c23b0; (repeat rw [Hof.isEmpty_beq]); exact h_
    (try (have c23b1 : decide (a1_0 = 2 && (a1_1.toList == ([] : List UInt8))) = false := by simpa using c23))
    (try (have c23b2 : (a1_0 == 2 && (a1_1.toList == ([] : List UInt8))) = false := by simpa using c23))
    (try (have c23b3 : ¬ (a1_0 = 2 && (a1_1.toList == ([] : List UInt8))) := by simpa using c23))
    clear c23
    (first | rw [c23b0] | (simp only [i64_w, i32_w]; rw [c23b0]) | skip)
    have H' := Asd.mk H
    clear H
    have hnb31 := NB440_439.out
    have hnc31 := NB439_440.out
    have hnb32 := NB440_441.out
    have hnc32 := NB441_440.out
    have hnb33 := NB440_450.out
    have hnc33 := NB450_440.out
    obtain ⟨hcz34_0, hcz34_1, hfz34_0, hfz34_1⟩ := b2 BK440
    go_wp2
    go_meet
    case rel => exact ⟨_, (false), (by first | rfl | (simp; done) | (simp [*]; done)), H', ⟨by first | omega | exact Nat.le_refl _⟩, ⟨rT HO446⟩, ⟨sT HO449⟩, ⟨kS BK439⟩, ⟨kS BK440⟩, ⟨kS BK441⟩, ⟨kP BK450⟩, ⟨wZ HB⟩⟩
  case rest =>
   clear HC6
   obtain ⟨kq, x26_5, rfl, HA, HJ5, HO_451001, HO_451002, BK439, BK440, BK441, BK450, HB⟩ := hcut
   cases kq with
   | zero => exact absurd HA.out (by simp [spec_MindDo.j0])
   | succ kj5 =>
    have H := HA.out
    clear HA
    simp only [spec_MindDo.j0] at H
    by_cases c35 : x26_5 = true
    ·subst c35
     rw [if_pos rfl] at H
     obtain ⟨ji36, hji36⟩ : ∃ j_ : Int, (wrap64 ((t447.length : Int) - 1)) = j_ := ⟨_, rfl⟩
     replace H : (if 0 ≤ (ji36) then (if (ji36) < (t447.length : Int) then (some (t443, rd_L5 t447 (ji36), t447.take (ji36).toNat, true)) else (none)) else (none)) = some (r1, r2, r3, r4) := by first | (rw [hji36] at H; exact H) | (simp only [hji36] at H ⊢; exact H)
     have hji36w : (IntKind.i64.wrap ((t447.length : Int) - 1)) = ji36 := (i64_w _).trans hji36
     by_cases c37 : 0 ≤ (ji36); rotate_left; (rw [if_neg c37] at H; exact absurd H (by simp))
     rw [if_pos c37] at H
     have c37b0 : decide (0 ≤ (ji36)) = true := decide_eq_true c37
     clear c37
     by_cases c38 : (ji36) < (t447.length : Int); rotate_left; (rw [if_neg c38] at H; exact absurd H (by simp))
     rw [if_pos c38] at H
     have c38b0 : decide ((ji36) < (t447.length : Int)) = true := decide_eq_true c38
     clear c38
     simp only [Option.some.injEq, Prod.mk.injEq] at H
     obtain ⟨rfl, rfl, rfl, rfl⟩ := H
     have p40 : 0 ≤ (ji36 : Int) := of_decide_eq_true c37b0
     have q40 : ji36 < (t447.length : Int) := of_decide_eq_true c38b0
     have k40 : ji36 ≤ (t447.length : Int) := Int.le_of_lt q40
     obtain ⟨ad40, A40, c40, e40, hx40, hR40, hS40⟩ := spec_MindDo.S_offL HO_451002.out ji36 p40 q40
     cases e40
     have HR40 := Asd.mk hR40
     have HS40 := Asd.mk hS40
     clear hR40 hS40
     obtain ⟨i0q, hi0q, _, hszq, _⟩ := info_parts info55
     have hcutq := cut_to (P := Try.prog) 56 55 .i64 Try.underlying56 hi0q (some ad40) t447.length co22 ji36 p40 k40 (Kd.S_reads' HO_451002.out).2.1
     replace p40 := eq_true p40
     replace q40 := eq_true q40
     have hnb55 := NB450_439.out
     have hnc55 := NB439_450.out
     have hnb56 := NB450_440.out
     have hnc56 := NB440_450.out
     have hnb57 := NB450_441.out
     have hnc57 := NB441_450.out
     obtain ⟨hcz58_0, hcz58_1, hcz58_2, hfz58_0, hfz58_1, hfz58_2⟩ := b3 BK450
     have hnb59 := NB441_439.out
     have hnc59 := NB439_441.out
     have hnb60 := NB441_440.out
     have hnc60 := NB440_441.out
     obtain ⟨hcz61_0, hcz61_1, hcz61_2, hfz61_0, hfz61_1, hfz61_2⟩ := b3 BK441
     go_wp2
     refine bodyPost_ret (results_ct rfl _ _ gb441 58 #[.int .i64 t443, .slice A40 (rd_L5 t447 ji36).length c40, .slice (some ad40) ji36.toNat co22] (0, 0) _ rfl (kP BK441) Try.underlying58 rfl (by kernel_rfl)) rfl ?_
     exact ⟨_, _, by first | rfl | (simp [*, errW_none, errW_some] <;> rfl), rT HR40, by refine Kd.Q_of_R (Kd.S_R (d := Kd.slice 3 (Kd.int .i64)) ?_); (repeat apply Kd.SS); exact Kd.S_mono (Kd.S_far (p := ⟨gb441, 2, none⟩) (Kd.S_far (p := ⟨gb441, 1, none⟩) (Kd.S_far (p := ⟨gb441, 0, none⟩) (Kd.S_far (p := ⟨gb450, 2, none⟩) (Kd.S_far (p := ⟨gb450, 1, none⟩) (Kd.S_types (Kd.S_types HS40.out BK450.out (by decide)) BK441.out (by decide)) (fun _ hk => hk.1.2) (.slice A40 (rd_L5 t447 ji36).length c40)) (fun _ hk => hk.1.2) (.slice (some ad40) ji36.toNat co22)) (fun _ hk => hk.2) (.int .i64 t443)) (fun _ hk => hk.2) (.slice A40 (rd_L5 t447 ji36).length c40)) (fun _ hk => hk.2) (.slice (some ad40) ji36.toNat co22)) (fun _ hk => hk.1.1.2), wZ HB⟩
    ·replace c35 := Bool.eq_false_iff.mpr c35
     subst c35
     rw [if_neg (show ¬ (false = true) by decide)] at H
     replace H := Option.bind_eq_some_iff.mp H
     obtain ⟨⟨t452, t453⟩, A390, H⟩ := H
     try dsimp only at H
     have A39 := Asd.mk A390
     clear A390
     have HC40 := Asd.mk H
     clear H
     have hnb41 := NB439_440.out
     have hnc41 := NB440_439.out
     have hnb42 := NB439_441.out
     have hnc42 := NB441_439.out
     have hnb43 := NB439_450.out
     have hnc43 := NB450_439.out
     obtain ⟨hcz44_0, hcz44_1, hcz44_2, hfz44_0, hfz44_1, hfz44_2⟩ := b3 BK439
     have hnb45 := NB440_441.out
     have hnc45 := NB441_440.out
     have hnb46 := NB440_450.out
     have hnc46 := NB450_440.out
     obtain ⟨hcz47_0, hcz47_1, hfz47_0, hfz47_1⟩ := b2 BK440
     go_upto_region 10 with (first | ((with_reducible refine gate_callee (f := 83) rfl ?_); refine gsM (some 48) rfl rfl Try.func83 (by kernel_rfl) rfl #[.int .i64 a0_0, .string a1_1] rfl ?_; (with_reducible refine (spec_HoldsIn.calls kj5 a0_0 a1_1 t452 t453 _ A39.out).mono ?_); rintro e w' ⟨rfl, ⟨nd, rfl⟩⟩; refine ⟨_, rfl, ?_⟩))
     (try simp only [Act.put, qA, qB, qC])
     go_cut [58] (fun v58 wc => ∃ (kq : Nat) (x58_39 : Bool), v58 = .bool x58_39 ∧ Asd (spec_MindDo.j1 kq t452 x58_39 a0_0 l0_1 l0_2 a1_0 a1_1 t443 t444 t447 = some (r1, r2, r3, r4)) ∧ Asd (kq ≤ kj5) ∧ Asd (Kd.R (Kd.int .i64) 3 wc w.heap.size (fun _ => True) (.slice Ao21 t444.length co21) t444) ∧ Asd (Kd.S (Kd.slice 3 (Kd.int .i64)) 55 wc w.heap.size (fun k_ => some k_ ≠ ((.slice Ao21 t444.length co21) : Value).ownBlock) (.slice Ao22 t447.length co22) t447) ∧ Asd (wc.heap[gb439]? = some (.cells #[.int .i64 a0_0, (.slice A0_1 l0_1.length c0_1), (.slice A0_2 l0_2.length c0_2)] 58 (0, 0))) ∧ Asd (wc.heap[gb440]? = some (.cells #[.int .i64 a1_0, .string a1_1] 26 (0, 0))) ∧ Asd (wc.heap[gb441]? = some (.cells #[.int .i64 0, (.slice none 0 0), (.slice none 0 0)] 58 (0, 0))) ∧ Asd (wc.heap[gb450]? = some (.cells #[.int .i64 t443, (.slice Ao21 t444.length co21), (.slice Ao22 t447.length co22)] 58 (0, 0))) ∧ Asd (Below w.heap.size w wc))
     case first =>
      have H := HC40.out
      clear HC40
      by_cases c48 : t453 = true
      ·subst c48
       rw [if_pos rfl] at H
       replace H := Option.bind_eq_some_iff.mp H
       obtain ⟨t454, A490, H⟩ := H
       try dsimp only at H
       have A49 := Asd.mk A490
       clear A490
       have H' := Asd.mk H
       clear H
       have hnb50 := NB440_439.out
       have hnc50 := NB439_440.out
       have hnb51 := NB440_441.out
       have hnc51 := NB441_440.out
       have hnb52 := NB440_450.out
       have hnc52 := NB450_440.out
       obtain ⟨hcz53_0, hcz53_1, hfz53_0, hfz53_1⟩ := b2 BK440
       go_wp2_with (first | (go_at_call 72; (with_reducible refine (spec_l1In.calls a1_0 0 1 t454 _ A49.out).mono ?_); rintro e w' ⟨rfl, ⟨nd, rfl⟩⟩))
       go_meet
       case rel => exact ⟨_, (!t454), (by first | rfl | (simp; done) | (simp [*]; done)), H', ⟨by have := HJ5.out; first | omega | exact Nat.le_refl _⟩, ⟨by (repeat apply Kd.RS); exact HO_451001.out⟩, ⟨by (repeat apply Kd.SS); exact HO_451002.out⟩, ⟨kS BK439⟩, ⟨kS BK440⟩, ⟨kS BK441⟩, ⟨kS BK450⟩, ⟨wZ HB⟩⟩
      ·replace c48 := Bool.eq_false_iff.mpr c48
       subst c48
       rw [if_neg (show ¬ (false = true) by decide)] at H
       have H' := Asd.mk H
       clear H
       go_wp2
       go_meet
       case rel => exact ⟨_, (true), (by first | rfl | (simp; done) | (simp [*]; done)), H', ⟨by have := HJ5.out; first | omega | exact Nat.le_refl _⟩, ⟨by (repeat apply Kd.RS); exact HO_451001.out⟩, ⟨by (repeat apply Kd.SS); exact HO_451002.out⟩, ⟨kS BK439⟩, ⟨kS BK440⟩, ⟨kS BK441⟩, ⟨kS BK450⟩, ⟨wZ HB⟩⟩
     case rest =>
      clear HC40
      obtain ⟨kq, x58_39, rfl, HA, HJ39, HO_451001, HO_451002, BK439, BK440, BK441, BK450, HB⟩ := hcut
      cases kq with
      | zero => exact absurd HA.out (by simp [spec_MindDo.j1])
      | succ kj39 =>
       have H := HA.out
       clear HA
       simp only [spec_MindDo.j1] at H
       by_cases c54 : x58_39 = true
       ·subst c54
        rw [if_pos rfl] at H
        simp only [Option.some.injEq, Prod.mk.injEq] at H
        obtain ⟨rfl, rfl, rfl, rfl⟩ := H
        have hnb55 := NB450_439.out
        have hnc55 := NB439_450.out
        have hnb56 := NB450_440.out
        have hnc56 := NB440_450.out
        have hnb57 := NB450_441.out
        have hnc57 := NB441_450.out
        obtain ⟨hcz58_0, hcz58_1, hcz58_2, hfz58_0, hfz58_1, hfz58_2⟩ := b3 BK450
        have hnb59 := NB441_439.out
        have hnc59 := NB439_441.out
        have hnb60 := NB441_440.out
        have hnc60 := NB440_441.out
        obtain ⟨hcz61_0, hcz61_1, hcz61_2, hfz61_0, hfz61_1, hfz61_2⟩ := b3 BK441
        go_wp2
        refine bodyPost_ret (results_ct rfl _ _ gb441 58 #[.int .i64 t443, .slice Ao21 t444.length co21, .slice Ao22 t447.length co22] (0, 0) _ rfl (kP BK441) Try.underlying58 rfl (by kernel_rfl)) rfl ?_
        exact ⟨_, _, by first | rfl | (simp [*, errW_none, errW_some] <;> rfl), rT HO_451001, by refine Kd.Q_of_R (Kd.S_R (d := Kd.slice 3 (Kd.int .i64)) ?_); (repeat apply Kd.SS); exact sT HO_451002, wZ HB⟩
       ·replace c54 := Bool.eq_false_iff.mpr c54
        subst c54
        rw [if_neg (show ¬ (false = true) by decide)] at H
        replace H := Option.bind_eq_some_iff.mp H
        obtain ⟨⟨t455, t456⟩, A620, H⟩ := H
        try dsimp only at H
        have A62 := Asd.mk A620
        clear A620
        have HC63 := Asd.mk H
        clear H
        have hnb64 := NB439_440.out
        have hnc64 := NB440_439.out
        have hnb65 := NB439_441.out
        have hnc65 := NB441_439.out
        have hnb66 := NB439_450.out
        have hnc66 := NB450_439.out
        obtain ⟨hcz67_0, hcz67_1, hcz67_2, hfz67_0, hfz67_1, hfz67_2⟩ := b3 BK439
        have hnb68 := NB440_441.out
        have hnc68 := NB441_440.out
        have hnb69 := NB440_450.out
        have hnc69 := NB450_440.out
        obtain ⟨hcz70_0, hcz70_1, hfz70_0, hfz70_1⟩ := b2 BK440
        go_upto_region 13 with (first | ((with_reducible refine gate_callee (f := 108) rfl ?_); refine gsM (some 68) rfl rfl Try.func108 (by kernel_rfl) rfl #[.int .i64 a0_0, .slice A0_1 l0_1.length c0_1, .int .i64 a1_0, .int .i64 t452] rfl ?_; (with_reducible refine (spec_ChangedBy.calls kj39 a0_0 _ _ l0_1 a1_0 t452 t455 t456 _ ?side1 ?side2 A62.out).mono ?_); (case side1 => exact cZ (Kd.C_below HR0_1.out HB.out)); (case side2 => exact HC0_1.out); rintro e w71 ⟨v457, rfl, ho0, hb⟩; refine ⟨_, rfl, ?_⟩; replace HO_451002 := Asd.mk (Kd.S_elder' (sS HO_451002) (Kd.R_base ho0) hb); have HO458 := Asd.mk (Kd.R_lower (Kd.R_new' ho0 (Kd.R_lt (rS HO_451001))) (below_size (wZ HB))); replace HO_451001 := Asd.mk (Kd.R_elder' (rS HO_451001) (Kd.R_base ho0) hb); replace BK439 := bU BK439 hb; replace BK440 := bU BK440 hb; replace BK441 := bU BK441 hb; replace BK450 := bU BK450 hb; replace HB := bW HB hb; (try clear hb); (try clear hb2); (try clear hk); (try clear hi); (try clear ho0)))
        (try simp only [Act.put, qA, qB, qC])
        go_cut [80] (fun v80 wc => ∃ (kq : Nat) (x80_62 : Bool), v80 = .bool x80_62 ∧ Asd (spec_MindDo.j2 kq t455 x80_62 t443 t444 t447 = some (r1, r2, r3, r4)) ∧ Asd (kq ≤ kj39) ∧ Asd (Kd.R (Kd.int .i64) 3 wc w.heap.size (fun k_ => some k_ ≠ ((.slice Ao21 t444.length co21) : Value).ownBlock) v457 t455) ∧ Asd (Kd.R (Kd.int .i64) 3 wc w.heap.size (fun k_ => some k_ ≠ (v457 : Value).ownBlock) (.slice Ao21 t444.length co21) t444) ∧ Asd (Kd.S (Kd.slice 3 (Kd.int .i64)) 55 wc w.heap.size (fun k_ => some k_ ≠ (v457 : Value).ownBlock ∧ some k_ ≠ ((.slice Ao21 t444.length co21) : Value).ownBlock) (.slice Ao22 t447.length co22) t447) ∧ Asd (wc.heap[gb439]? = some (.cells #[.int .i64 a0_0, (.slice A0_1 l0_1.length c0_1), (.slice A0_2 l0_2.length c0_2)] 58 (0, 0))) ∧ Asd (wc.heap[gb440]? = some (.cells #[.int .i64 a1_0, .string a1_1] 26 (0, 0))) ∧ Asd (wc.heap[gb441]? = some (.cells #[.int .i64 0, (.slice none 0 0), (.slice none 0 0)] 58 (0, 0))) ∧ Asd (wc.heap[gb450]? = some (.cells #[.int .i64 t443, (.slice Ao21 t444.length co21), (.slice Ao22 t447.length co22)] 58 (0, 0))) ∧ Asd (Below w.heap.size w wc))
        case first =>
         have H := HC63.out
         clear HC63
         by_cases c72 : t456 = true
         ·subst c72
          rw [if_pos rfl] at H
          replace H := Option.bind_eq_some_iff.mp H
          obtain ⟨t459, A730, H⟩ := H
          try dsimp only at H
          have A73 := Asd.mk A730
          clear A730
          have H' := Asd.mk H
          clear H
          have hnb74 := NB439_440.out
          have hnc74 := NB440_439.out
          have hnb75 := NB439_441.out
          have hnc75 := NB441_439.out
          have hnb76 := NB439_450.out
          have hnc76 := NB450_439.out
          obtain ⟨hcz77_0, hcz77_1, hcz77_2, hfz77_0, hfz77_1, hfz77_2⟩ := b3 BK439
          obtain ⟨Ao78, co78, eo78⟩ := Kd.R_slice HO458.out
          subst eo78
          go_wp2_with (first | (go_at_call 109; (with_reducible refine (spec_SameOrder.calls kj39 a0_0 _ _ t455 _ _ l0_1 t459 _ ?side1 ?side2 ?side3 ?side4 A73.out).mono ?_); (case side1 => exact cZ (Kd.R_reads' HO458.out).2.2); (case side2 => exact (Kd.R_reads' HO458.out).2.1); (case side3 => exact cZ (Kd.C_below HR0_1.out HB.out)); (case side4 => exact HC0_1.out); rintro e w79 ⟨rfl, hb⟩; replace HO_451001 := bR HO_451001 hb; replace HO_451002 := bS HO_451002 hb; replace HO458 := bR HO458 hb; replace BK439 := bU BK439 hb; replace BK440 := bU BK440 hb; replace BK441 := bU BK441 hb; replace BK450 := bU BK450 hb; replace HB := bW HB hb; (try clear hb); (try clear hb2); (try clear hk); (try clear hi)))
          go_meet
          case rel => exact ⟨_, (t459), (by first | rfl | (simp; done) | (simp [*]; done)), H', ⟨by have := HJ5.out; have := HJ39.out; first | omega | exact Nat.le_refl _⟩, ⟨by (repeat apply Kd.RS); exact Kd.R_mono HO458.out (fun _ hk => hk.2)⟩, ⟨by (repeat apply Kd.RS); exact Kd.R_mono HO_451001.out (fun _ hk => hk.2)⟩, ⟨by (repeat apply Kd.SS); exact Kd.S_mono HO_451002.out (fun _ hk => ⟨hk.2, hk.1⟩)⟩, ⟨kS BK439⟩, ⟨kS BK440⟩, ⟨kS BK441⟩, ⟨kS BK450⟩, ⟨wZ HB⟩⟩
         ·replace c72 := Bool.eq_false_iff.mpr c72
          subst c72
          rw [if_neg (show ¬ (false = true) by decide)] at H
          have H' := Asd.mk H
          clear H
          go_wp2
          go_meet
          case rel => exact ⟨_, (true), (by first | rfl | (simp; done) | (simp [*]; done)), H', ⟨by have := HJ5.out; have := HJ39.out; first | omega | exact Nat.le_refl _⟩, ⟨by (repeat apply Kd.RS); exact Kd.R_mono HO458.out (fun _ hk => hk.2)⟩, ⟨by (repeat apply Kd.RS); exact Kd.R_mono HO_451001.out (fun _ hk => hk.2)⟩, ⟨by (repeat apply Kd.SS); exact Kd.S_mono HO_451002.out (fun _ hk => ⟨hk.2, hk.1⟩)⟩, ⟨kS BK439⟩, ⟨kS BK440⟩, ⟨kS BK441⟩, ⟨kS BK450⟩, ⟨wZ HB⟩⟩
        case rest =>
         clear HC63
         obtain ⟨kq, x80_62, rfl, HA, HJ62, HO_10, HO_451001, HO_451002, BK439, BK440, BK441, BK450, HB⟩ := hcut
         cases kq with
         | zero => exact absurd HA.out (by simp [spec_MindDo.j2])
         | succ kj62 =>
          have H := HA.out
          clear HA
          simp only [spec_MindDo.j2] at H
          by_cases c80 : x80_62 = true
          ·subst c80
           rw [if_pos rfl] at H
           simp only [Option.some.injEq, Prod.mk.injEq] at H
           obtain ⟨rfl, rfl, rfl, rfl⟩ := H
           have hnb81 := NB450_439.out
           have hnc81 := NB439_450.out
           have hnb82 := NB450_440.out
           have hnc82 := NB440_450.out
           have hnb83 := NB450_441.out
           have hnc83 := NB441_450.out
           obtain ⟨hcz84_0, hcz84_1, hcz84_2, hfz84_0, hfz84_1, hfz84_2⟩ := b3 BK450
           have hnb85 := NB441_439.out
           have hnc85 := NB439_441.out
           have hnb86 := NB441_440.out
           have hnc86 := NB440_441.out
           obtain ⟨hcz87_0, hcz87_1, hcz87_2, hfz87_0, hfz87_1, hfz87_2⟩ := b3 BK441
           go_wp2
           refine bodyPost_ret (results_ct rfl _ _ gb441 58 #[.int .i64 t443, .slice Ao21 t444.length co21, .slice Ao22 t447.length co22] (0, 0) _ rfl (kP BK441) Try.underlying58 rfl (by kernel_rfl)) rfl ?_
           exact ⟨_, _, by first | rfl | (simp [*, errW_none, errW_some] <;> rfl), rT HO_451001, by refine Kd.Q_of_R (Kd.S_R (d := Kd.slice 3 (Kd.int .i64)) ?_); (repeat apply Kd.SS); exact Kd.S_mono (Kd.S_far (p := ⟨gb441, 2, none⟩) (Kd.S_far (p := ⟨gb441, 1, none⟩) (Kd.S_far (p := ⟨gb441, 0, none⟩) (Kd.S_types HO_451002.out BK441.out (by decide)) (fun _ hk => hk.2) (.int .i64 t443)) (fun _ hk => hk.2) (.slice Ao21 t444.length co21)) (fun _ hk => hk.2) (.slice Ao22 t447.length co22)) (fun _ hk => hk.1.2), wZ HB⟩
          ·replace c80 := Bool.eq_false_iff.mpr c80
           subst c80
           rw [if_neg (show ¬ (false = true) by decide)] at H
           by_cases c88 : t447.length < 5864062014805; rotate_left; (rw [if_neg c88] at H; exact absurd H (by simp))
           rw [if_pos c88] at H
           have LMc88 := Asd.mk c88
           clear c88
           obtain ⟨y460, hy460⟩ : ∃ y_ : List (List Int), y_ = (t447 ++ [t444]) := ⟨_, rfl⟩
           replace H : (if (y460.length : Int) > 10 then (some (t443, t455, y460.drop (1 : Int).toNat, true)) else (some (t443, t455, y460, true))) = some (r1, r2, r3, r4) := by first | (rw [hy460]; with_reducible exact H) | (have H2_ := (Option.bind_some _ _).symm.trans H; rw [hy460]; with_reducible exact H2_) | (have H2_ := (Option.bind_some _ _).symm.trans H; with_reducible exact H2_) | with_reducible exact H | (rw [hy460]; exact H) | exact H
           have Ny460 := Asd.mk hy460
           clear hy460
           by_cases c89 : (y460.length : Int) > 10
           ·rw [if_pos c89] at H
            have c89q : decide ((1 : Int) ≤ ((y460.length : Int) : Int)) = true := decide_eq_true (by omega)
            have c89b0 : decide (10 < (y460.length : Int)) = true := decide_eq_true c89
            have c89b1 : decide (10 < y460.length) = true := decide_eq_true (by omega)
            clear c89
            obtain ⟨y405, hy405⟩ : ∃ y_ : List (List Int), y_ = (y460.drop (1 : Int).toNat) := ⟨_, rfl⟩
            rw [← hy405] at H
            have Ny405 := Asd.mk hy405
            clear hy405
            simp only [Option.some.injEq, Prod.mk.injEq] at H
            obtain ⟨rfl, rfl, rfl, rfl⟩ := H
            have hnb90 := NB450_439.out
            have hnc90 := NB439_450.out
            have hnb91 := NB450_440.out
            have hnc91 := NB440_450.out
            have hnb92 := NB450_441.out
            have hnc92 := NB441_450.out
            obtain ⟨hcz93_0, hcz93_1, hcz93_2, hfz93_0, hfz93_1, hfz93_2⟩ := b3 BK450
            go_wp2_with (first | ((with_reducible refine gate_builtin (b := .append) (xs := #[.tmp 83, .tmp 86]) rfl ?_); (try (refine gate_guard (by rfl) ?_; dsimp only)); at_builtin; refine Kd.S_append (Kd.slice 3 (Kd.int .i64)) (w0 := w) w.heap.size rfl (.tmp 83) (.tmp 86) 56 55 (.slice none 0 0) 24 rfl Try.underlying56 info55 rfl (by decide) (by omega) (.slice Ao22 t447.length co22) t447 t444 [.slice Ao21 t444.length co21] (fun k_ => some k_ ≠ (v457 : Value).ownBlock) (fun k_ => some k_ = (.slice Ao21 t444.length co21 : Value).ownBlock) rfl rfl ?aP (fun k_ hk_ => ((Kd.R_mono (ok' := fun k_ => ((fun k_ => some k_ ≠ (v457 : Value).ownBlock)) k_ ∧ some k_ ≠ (.slice Ao22 t447.length co22 : Value).ownBlock) (Kd.R_apart' (HO_451001.out) (Kd.S_typed HO_451002.out) (by decide)) (fun k_ hk => ⟨hk.1, hk.2⟩))).1 k_ hk_.symm) ?aF ?aO ?aB ?aS ?aL ?_; (case aP => exact Kd.M_row (Kd.R_mono (Kd.R_tight rfl (Kd.R_mono (ok' := fun k_ => ((fun k_ => some k_ ≠ (v457 : Value).ownBlock)) k_ ∧ some k_ ≠ (.slice Ao22 t447.length co22 : Value).ownBlock) (Kd.R_apart' (HO_451001.out) (Kd.S_typed HO_451002.out) (by decide)) (fun k_ hk => ⟨hk.1, hk.2⟩))) (fun _ h_ => h_))); (case aB => exact (wZ HB)); (case aF => exact (fun k_ hk => Kd.fresh' (Kd.R_lt (rS HO_10)) k_ hk)); (case aO => exact (by (repeat apply Kd.SS); exact Kd.S_mono HO_451002.out (fun k_ hk => ⟨hk.1, fun e_ => hk.2 e_⟩))); (case aS => exact (below_size (wZ HB))); (case aL => have := LMc88.out; omega); intro v461 w94 ho hb hg hat; rw [← Ny460.out] at ho; replace HO_10 := Asd.mk (Kd.R_over' (rS HO_10) (Kd.S_typed (sS HO_451002)) (by decide) hg); replace BK439 := bN BK439 hg (Kd.S_ne HO_451002.out BK439.out (by decide)); replace BK440 := bN BK440 hg (Kd.S_ne HO_451002.out BK440.out (by decide)); replace BK441 := bN BK441 hg (Kd.S_ne HO_451002.out BK441.out (by decide)); replace BK450 := bN BK450 hg (Kd.S_ne HO_451002.out BK450.out (by decide)); replace HB := Asd.mk (hb); have HO462 := Asd.mk (ho); clear HO_451002 HO_451001; clear ho hb hg hat; obtain ⟨Ao95, co95, eo95⟩ := Kd.S_slice HO462.out; subst eo95; have q144 : (1 : Int) ≤ ((y460.length : Int) : Int) := odt; obtain ⟨i0144, hi0144, _, hsz144, _⟩ := info_parts info55; have hcut144 := cut_from (P := Try.prog) 56 55 .i64 Try.underlying56 hi0144 1 hsz144 Ao95 y460.length co95 1 (by omega) q144; have hr144 := Kd.Q_drop (k := (1 : Int).toNat) (Kd.Q_of_R (Kd.S_R HO462.out)) (by omega); obtain ⟨A144, hA144⟩ : ∃ A1, A1 = (if co95 = (1 : Int).toNat then Ao95 else (Ao95 : Option Addr).map (·.add ((1 : Int).toNat * 1))) := ⟨_, rfl⟩; obtain ⟨c144, hc144⟩ : ∃ c1, c1 = co95 - (1 : Int).toNat := ⟨_, rfl⟩; have hy144 : y405.length = y460.length - (1 : Int).toNat := (by rw [Ny405.out, List.length_drop]); rw [← Ny405.out] at hr144; rw [← hy144, ← hA144, ← hc144] at hcut144; have HO407 : Asd (Kd.Q (Kd.slice 3 (Kd.int .i64)) 55 _ w.heap.size _ (.slice A144 y405.length c144) y405) := ⟨by rw [hA144, hc144, hy144]; exact hr144⟩; clear hy144 hi0144 hsz144 hA144 hc144 hr144; replace q144 := eq_true q144; obtain ⟨hcz96_0, hcz96_1, hcz96_2, hfz96_0, hfz96_1, hfz96_2⟩ := b3 BK450; obtain ⟨Ao97, co97, eo97⟩ := Kd.R_slice HO_10.out; subst eo97; have hnb98 := NB441_439.out; have hnc98 := NB439_441.out; have hnb99 := NB441_440.out; have hnc99 := NB440_441.out; obtain ⟨hcz100_0, hcz100_1, hcz100_2, hfz100_0, hfz100_1, hfz100_2⟩ := b3 BK441))
            refine bodyPost_ret (results_ct rfl _ _ gb441 58 #[.int .i64 t443, .slice Ao97 t455.length co97, .slice A144 y405.length c144] (0, 0) _ rfl (kP BK441) Try.underlying58 rfl (by kernel_rfl)) rfl ?_
            exact ⟨_, _, by first | rfl | (simp [*, errW_none, errW_some] <;> rfl), rT HO_10, by (with_reducible repeat (first | apply Kd.Q_alloc | apply Kd.Q_drewN | apply Kd.Q_drew)); exact Kd.Q_mono (Kd.Q_far (p := ⟨gb441, 2, none⟩) (Kd.Q_far (p := ⟨gb441, 1, none⟩) (Kd.Q_far (p := ⟨gb441, 0, none⟩) (Kd.Q_far (p := ⟨gb450, 1, none⟩) (Kd.Q_far (p := ⟨gb450, 2, none⟩) (Kd.Q_far (p := ⟨gb450, 2, none⟩) (Kd.Q_types (Kd.Q_types HO407.out BK450.out (by decide)) BK441.out (by decide)) (fun _ hk => hk.1.2) (.slice Ao95 y460.length co95)) (fun _ hk => hk.1.2) (.slice A144 y405.length c144)) (fun _ hk => hk.1.2) (.slice Ao97 t455.length co97)) (fun _ hk => hk.2) (.int .i64 t443)) (fun _ hk => hk.2) (.slice Ao97 t455.length co97)) (fun _ hk => hk.2) (.slice A144 y405.length c144)) (fun _ hk => hk.1.1), wZ HB⟩
           ·rw [if_neg c89] at H
            have c89b0 : decide (10 < (y460.length : Int)) = false := decide_eq_false c89
            have c89b1 : decide (10 < y460.length) = false := decide_eq_false (by omega)
            clear c89
            simp only [Option.some.injEq, Prod.mk.injEq] at H
            obtain ⟨rfl, rfl, rfl, rfl⟩ := H
            have hnb90 := NB450_439.out
            have hnc90 := NB439_450.out
            have hnb91 := NB450_440.out
            have hnc91 := NB440_450.out
            have hnb92 := NB450_441.out
            have hnc92 := NB441_450.out
            obtain ⟨hcz93_0, hcz93_1, hcz93_2, hfz93_0, hfz93_1, hfz93_2⟩ := b3 BK450
            go_wp2_with (first | ((with_reducible refine gate_builtin (b := .append) (xs := #[.tmp 83, .tmp 86]) rfl ?_); (try (refine gate_guard (by rfl) ?_; dsimp only)); at_builtin; refine Kd.S_append (Kd.slice 3 (Kd.int .i64)) (w0 := w) w.heap.size rfl (.tmp 83) (.tmp 86) 56 55 (.slice none 0 0) 24 rfl Try.underlying56 info55 rfl (by decide) (by omega) (.slice Ao22 t447.length co22) t447 t444 [.slice Ao21 t444.length co21] (fun k_ => some k_ ≠ (v457 : Value).ownBlock) (fun k_ => some k_ = (.slice Ao21 t444.length co21 : Value).ownBlock) rfl rfl ?aP (fun k_ hk_ => ((Kd.R_mono (ok' := fun k_ => ((fun k_ => some k_ ≠ (v457 : Value).ownBlock)) k_ ∧ some k_ ≠ (.slice Ao22 t447.length co22 : Value).ownBlock) (Kd.R_apart' (HO_451001.out) (Kd.S_typed HO_451002.out) (by decide)) (fun k_ hk => ⟨hk.1, hk.2⟩))).1 k_ hk_.symm) ?aF ?aO ?aB ?aS ?aL ?_; (case aP => exact Kd.M_row (Kd.R_mono (Kd.R_tight rfl (Kd.R_mono (ok' := fun k_ => ((fun k_ => some k_ ≠ (v457 : Value).ownBlock)) k_ ∧ some k_ ≠ (.slice Ao22 t447.length co22 : Value).ownBlock) (Kd.R_apart' (HO_451001.out) (Kd.S_typed HO_451002.out) (by decide)) (fun k_ hk => ⟨hk.1, hk.2⟩))) (fun _ h_ => h_))); (case aB => exact (wZ HB)); (case aF => exact (fun k_ hk => Kd.fresh' (Kd.R_lt (rS HO_10)) k_ hk)); (case aO => exact (by (repeat apply Kd.SS); exact Kd.S_mono HO_451002.out (fun k_ hk => ⟨hk.1, fun e_ => hk.2 e_⟩))); (case aS => exact (below_size (wZ HB))); (case aL => have := LMc88.out; omega); intro v461 w94 ho hb hg hat; rw [← Ny460.out] at ho; replace HO_10 := Asd.mk (Kd.R_over' (rS HO_10) (Kd.S_typed (sS HO_451002)) (by decide) hg); replace BK439 := bN BK439 hg (Kd.S_ne HO_451002.out BK439.out (by decide)); replace BK440 := bN BK440 hg (Kd.S_ne HO_451002.out BK440.out (by decide)); replace BK441 := bN BK441 hg (Kd.S_ne HO_451002.out BK441.out (by decide)); replace BK450 := bN BK450 hg (Kd.S_ne HO_451002.out BK450.out (by decide)); replace HB := Asd.mk (hb); have HO462 := Asd.mk (ho); clear HO_451002 HO_451001; clear ho hb hg hat; obtain ⟨Ao95, co95, eo95⟩ := Kd.S_slice HO462.out; subst eo95; obtain ⟨hcz96_0, hcz96_1, hcz96_2, hfz96_0, hfz96_1, hfz96_2⟩ := b3 BK450; obtain ⟨Ao97, co97, eo97⟩ := Kd.R_slice HO_10.out; subst eo97; have hnb98 := NB441_439.out; have hnc98 := NB439_441.out; have hnb99 := NB441_440.out; have hnc99 := NB440_441.out; obtain ⟨hcz100_0, hcz100_1, hcz100_2, hfz100_0, hfz100_1, hfz100_2⟩ := b3 BK441))
            refine bodyPost_ret (results_ct rfl _ _ gb441 58 #[.int .i64 t443, .slice Ao97 t455.length co97, .slice Ao95 y460.length co95] (0, 0) _ rfl (kP BK441) Try.underlying58 rfl (by kernel_rfl)) rfl ?_
            exact ⟨_, _, by first | rfl | (simp [*, errW_none, errW_some] <;> rfl), rT HO_10, by refine Kd.Q_of_R (Kd.S_R (d := Kd.slice 3 (Kd.int .i64)) ?_); (repeat apply Kd.SS); exact Kd.S_mono (Kd.S_far (p := ⟨gb441, 2, none⟩) (Kd.S_far (p := ⟨gb441, 1, none⟩) (Kd.S_far (p := ⟨gb441, 0, none⟩) (Kd.S_far (p := ⟨gb450, 1, none⟩) (Kd.S_far (p := ⟨gb450, 2, none⟩) (Kd.S_types (Kd.S_types HO462.out BK450.out (by decide)) BK441.out (by decide)) (fun _ hk => hk.1.2) (.slice Ao95 y460.length co95)) (fun _ hk => hk.1.2) (.slice Ao97 t455.length co97)) (fun _ hk => hk.2) (.int .i64 t443)) (fun _ hk => hk.2) (.slice Ao97 t455.length co97)) (fun _ hk => hk.2) (.slice Ao95 y460.length co95)) (fun _ hk => hk.1.1), wZ HB⟩
 ·replace c4 := Bool.eq_false_iff.mpr c4
  subst c4
  rw [if_neg (show ¬ (false = true) by decide)] at H
  simp only [Option.some.injEq, Prod.mk.injEq] at H
  obtain ⟨rfl, rfl, rfl, rfl⟩ := H
  go_enter Try.func63, Try.ntmps63
  go_wp2_with (first | ((with_reducible refine gate_dst (N := 2) rfl ?_); (try (refine gate_guard (by rfl) ?_; dsimp only)); refine bxE ?hg (N := 2) ?hd (cs := #[.int .i64 a0_0, .slice A0_1 l0_1.length c0_1, .slice A0_2 l0_2.length c0_2]) (t := 58) ?hr ?_; (case hd => rfl); (case hg => rfl); (case hr => first | (go_simp; done) | (go_simp; rfl)); intro gb439 hg w101 hbox hb; have BK439 := Asd.mk (hbox); have GW439 := bG HB hg; have GE439 := bG HB hg; replace HB := bW HB hb; clear hb hbox hg) | ((with_reducible refine gate_dst (N := 3) rfl ?_); (try (refine gate_guard (by rfl) ?_; dsimp only)); refine bxE ?hg (N := 3) ?hd (cs := #[.int .i64 a1_0, .string a1_1]) (t := 26) ?hr ?_; (case hd => rfl); (case hg => rfl); (case hr => first | (go_simp; done) | (go_simp; rfl)); intro gb440 hg w102 hbox hb; have BK440 := Asd.mk (hbox); have GW440 := bG HB hg; have GE440 := bG HB hg; replace HB := bW HB hb; have NB439_440 := bL BK439 hg; have NB440_439 := bM BK439 hg; replace BK439 := bU BK439 hb; clear hb hbox hg) | ((with_reducible refine gate_dst (N := 4) rfl ?_); (try (refine gate_guard (by rfl) ?_; dsimp only)); refine bxE ?hg (N := 4) ?hd (cs := #[.int .i64 0, .slice none 0 0, .slice none 0 0]) (t := 58) ?hr ?_; (case hd => rfl); (case hg => rfl); (case hr => first | (go_simp; done) | (go_simp; rfl)); intro gb441 hg w103 hbox hb; have BK441 := Asd.mk (hbox); have GW441 := bG HB hg; have GE441 := bG HB hg; replace HB := bW HB hb; have NB439_441 := bL BK439 hg; have NB441_439 := bM BK439 hg; replace BK439 := bU BK439 hb; have NB440_441 := bL BK440 hg; have NB441_440 := bM BK440 hg; replace BK440 := bU BK440 hb; clear hb hbox hg; have hnb104 := NB439_440.out; have hnc104 := NB440_439.out; have hnb105 := NB439_441.out; have hnc105 := NB441_439.out; obtain ⟨hcz106_0, hcz106_1, hcz106_2, hfz106_0, hfz106_1, hfz106_2⟩ := b3 BK439) | ((with_reducible refine gate_callee (f := 52) rfl ?_); refine gsM (some 13) rfl rfl Try.func52 (by kernel_rfl) rfl #[.agg #[.int .i64 a0_0, .slice A0_1 l0_1.length c0_1, .slice A0_2 l0_2.length c0_2]] rfl ?_; (with_reducible refine (spec_MindValid.calls k a0_0 _ _ l0_1 _ _ l0_2 false _ ?side1 ?side2 ?side3 ?side4 A3.out).mono ?_); (case side1 => exact cZ (Kd.C_below HR0_1.out HB.out)); (case side2 => exact HC0_1.out); (case side3 => exact cZ (Kd.C_below HR0_2.out HB.out)); (case side4 => exact HC0_2.out); rintro e w107 ⟨rfl, hb⟩; refine ⟨_, rfl, ?_⟩; replace BK439 := bU BK439 hb; replace BK440 := bU BK440 hb; replace BK441 := bU BK441 hb; replace HB := bW HB hb; (try clear hb); (try clear hb2); (try clear hk); (try clear hi); have hnb108 := NB441_440.out; have hnc108 := NB440_441.out; obtain ⟨hcz109_0, hcz109_1, hcz109_2, hfz109_0, hfz109_1, hfz109_2⟩ := b3 BK441))
  refine bodyPost_ret (results_ct rfl _ _ gb441 58 #[.int .i64 0, .slice none 0 0, .slice none 0 0] (0, 0) _ rfl (kP BK441) Try.underlying58 rfl (by kernel_rfl)) rfl ?_
  exact ⟨_, _, by first | rfl | (simp [*, errW_none, errW_some] <;> rfl), by first | exact Kd.R_nil _ _ _ _ _ | exact Kd.N_nil _ _ _ _ _ | exact Kd.V_nil _ _ _ _ _ | exact Kd.Q_nil _ _ _ _ _ | exact Kd.S_nil _ _ _ _ _, by first | exact Kd.S_nil _ _ _ _ _ | exact Kd.N_nil _ _ _ _ _ | exact Kd.V_nil _ _ _ _ _ | exact Kd.Q_nil _ _ _ _ _ | exact Kd.R_nil _ _ _ _ _, wZ HB⟩

end Go.Proofs.Ytihgpkohglcijaa.P
