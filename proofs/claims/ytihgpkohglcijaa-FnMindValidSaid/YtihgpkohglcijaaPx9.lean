-- Written by a program of this session (wip/hook.py), which runs the kit's printer; Lean checks it.
import Derived.Test.YtihgpkohglcijaaPx0
import Derived.Test.YtihgpkohglcijaaPx1
import Derived.Test.YtihgpkohglcijaaPx2
import Derived.Test.YtihgpkohglcijaaPx5
import Derived.Test.YtihgpkohglcijaaPx6
import Derived.Test.YtihgpkohglcijaaPx7
import Derived.Test.YtihgpkohglcijaaPx8
namespace Go.Proofs.Ytihgpkohglcijaa.P
open Go.RowKit Go.Proofs.YtihgpkohglcijaaW.PrintWords Go.Proofs.YtihgpkohglcijaaW.PrintLast Go.Proofs.YtihgpkohglcijaaW.PrintMore
attribute [local go_sem] max2_int min2_int max_two min_two max_three min_three max_four min_four   -- for this text's walks alone
set_option linter.unusedVariables false
set_option linter.unusedSimpArgs false

attribute [local go_sem high] eqA26
/-! ### spec_MindDo: function 63 -/
mutual
def spec_MindDo.j0 : Nat → Bool → Int → List Int → List (List Int) → Int → ByteArray → Int → List Int → List (List Int) → Option (Int × List Int × (List (List Int)) × Bool)
 | 0, _, _, _, _, _, _, _, _, _ => none
 | k + 1, x26, x275000, x275001, x275002, x276000, x276001, x286000, x286001, x286002 => if x26 = true then (if 0 ≤ (wrap64 ((x286002.length : Int) - 1)) then (if (wrap64 ((x286002.length : Int) - 1)) < (x286002.length : Int) then (some (x286000, rd_L1 x286002 (wrap64 ((x286002.length : Int) - 1)), x286002.take (wrap64 ((x286002.length : Int) - 1)).toNat, true)) else (none)) else (none)) else ((spec_HoldsIn.f k x275000 x276001).bind fun bt287 => (if bt287.2 = true then ((spec_l1In.f x276000 0 1).bind fun t289 => (spec_MindDo.j1 k bt287.1 (!t289) x275000 x275001 x275002 x276000 x276001 x286000 x286001 x286002)) else (spec_MindDo.j1 k bt287.1 true x275000 x275001 x275002 x276000 x276001 x286000 x286001 x286002)))
def spec_MindDo.j1 : Nat → Int → Bool → Int → List Int → List (List Int) → Int → ByteArray → Int → List Int → List (List Int) → Option (Int × List Int × (List (List Int)) × Bool)
 | 0, _, _, _, _, _, _, _, _, _, _ => none
 | k + 1, x8, x58, x275000, x275001, x275002, x276000, x276001, x286000, x286001, x286002 => if x58 = true then (some (x286000, x286001, x286002, false)) else ((spec_ChangedBy.f k x275000 x275001 x276000 x8).bind fun bt290 => (if bt290.2 = true then ((spec_SameOrder.f k x275000 bt290.1 x275001).bind fun t294 => (spec_MindDo.j2 k bt290.1 t294 x286000 x286001 x286002)) else (spec_MindDo.j2 k bt290.1 true x286000 x286001 x286002)))
def spec_MindDo.j2 : Nat → List Int → Bool → Int → List Int → List (List Int) → Option (Int × List Int × (List (List Int)) × Bool)
 | 0, _, _, _, _, _ => none
 | k + 1, x10, x80, x286000, x286001, x286002 => if x80 = true then (some (x286000, x286001, x286002, false)) else (if x286002.length < 5864062014805 then ((some (x286002 ++ [x286001] : List (List Int))).bind fun y295 => (if (y295.length : Int) > 10 then (none) else (some (x286000, x10, y295, true)))) else (none))
end
def spec_MindDo.f (k : Nat) (a0_0 : Int) (l0_1 : List Int) (l0_2 : List (List Int)) (a1_0 : Int) (a1_1 : ByteArray) : Option (Int × List Int × (List (List Int)) × Bool) := (spec_MindValid.f k a0_0 l0_1 l0_2).bind fun t277 => (if t277 = true then ((spec_l10Copy.f k a0_0 l0_1 l0_2).bind fun bt278 => (if (a1_0 == 2 && (a1_1.toList == ([] : List UInt8))) = true then (spec_MindDo.j0 k (decide ((l0_2.length : Int) > 0)) a0_0 l0_1 l0_2 a1_0 a1_1 bt278.1 bt278.2.1 bt278.2.2) else (spec_MindDo.j0 k false a0_0 l0_1 l0_2 a1_0 a1_1 bt278.1 bt278.2.1 bt278.2.2))) else (some (0, ([] : List Int), ([] : List (List Int)), false)))
theorem spec_MindDo.mono_l : ∀ k, (∀ y0 y1 y2 y3 y4 y5 y6 y7 y8, LeO (spec_MindDo.j0 k y0 y1 y2 y3 y4 y5 y6 y7 y8) (spec_MindDo.j0 (k + 1) y0 y1 y2 y3 y4 y5 y6 y7 y8)) ∧ (∀ y0 y1 y2 y3 y4 y5 y6 y7 y8 y9, LeO (spec_MindDo.j1 k y0 y1 y2 y3 y4 y5 y6 y7 y8 y9) (spec_MindDo.j1 (k + 1) y0 y1 y2 y3 y4 y5 y6 y7 y8 y9)) ∧ (∀ y0 y1 y2 y3 y4, LeO (spec_MindDo.j2 k y0 y1 y2 y3 y4) (spec_MindDo.j2 (k + 1) y0 y1 y2 y3 y4))
 | 0 => ⟨fun _ _ _ _ _ _ _ _ _ r h => by simp [spec_MindDo.j0] at h, fun _ _ _ _ _ _ _ _ _ _ r h => by simp [spec_MindDo.j1] at h, fun _ _ _ _ _ r h => by simp [spec_MindDo.j2] at h⟩
 | k + 1 => by
  obtain ⟨ih0, ih1, ih2⟩ := spec_MindDo.mono_l k
  refine ⟨?_, ?_, ?_⟩
  ·intro y0 y1 y2 y3 y4 y5 y6 y7 y8
   unfold spec_MindDo.j0
   repeat' first
   | (with_reducible exact ih0 _ _ _ _ _ _ _ _ _)
   | (with_reducible exact ih1 _ _ _ _ _ _ _ _ _ _)
   | (with_reducible exact ih2 _ _ _ _ _)
   | (with_reducible exact spec_ChangedBy.mono _ _ _ _ _)
   | (with_reducible exact spec_HoldsIn.mono _ _ _)
   | (with_reducible exact spec_MindValid.mono _ _ _ _)
   | (with_reducible exact spec_SameOrder.mono _ _ _ _)
   | (with_reducible exact spec_l10Copy.mono _ _ _ _)
   | (with_reducible exact LeO.refl _)
   | (with_reducible exact LeO.none _)
   | (with_reducible refine LeO.ite ?_ ?_)
   | (with_reducible refine LeO.bind ?_ (fun _ => ?_))
   | refine LeO.ite ?_ ?_
   | refine LeO.bind ?_ (fun _ => ?_)
  ·intro y0 y1 y2 y3 y4 y5 y6 y7 y8 y9
   unfold spec_MindDo.j1
   repeat' first
   | (with_reducible exact ih0 _ _ _ _ _ _ _ _ _)
   | (with_reducible exact ih1 _ _ _ _ _ _ _ _ _ _)
   | (with_reducible exact ih2 _ _ _ _ _)
   | (with_reducible exact spec_ChangedBy.mono _ _ _ _ _)
   | (with_reducible exact spec_HoldsIn.mono _ _ _)
   | (with_reducible exact spec_MindValid.mono _ _ _ _)
   | (with_reducible exact spec_SameOrder.mono _ _ _ _)
   | (with_reducible exact spec_l10Copy.mono _ _ _ _)
   | (with_reducible exact LeO.refl _)
   | (with_reducible exact LeO.none _)
   | (with_reducible refine LeO.ite ?_ ?_)
   | (with_reducible refine LeO.bind ?_ (fun _ => ?_))
   | refine LeO.ite ?_ ?_
   | refine LeO.bind ?_ (fun _ => ?_)
  ·intro y0 y1 y2 y3 y4
   unfold spec_MindDo.j2
   repeat' first
   | (with_reducible exact ih0 _ _ _ _ _ _ _ _ _)
   | (with_reducible exact ih1 _ _ _ _ _ _ _ _ _ _)
   | (with_reducible exact ih2 _ _ _ _ _)
   | (with_reducible exact spec_ChangedBy.mono _ _ _ _ _)
   | (with_reducible exact spec_HoldsIn.mono _ _ _)
   | (with_reducible exact spec_MindValid.mono _ _ _ _)
   | (with_reducible exact spec_SameOrder.mono _ _ _ _)
   | (with_reducible exact spec_l10Copy.mono _ _ _ _)
   | (with_reducible exact LeO.refl _)
   | (with_reducible exact LeO.none _)
   | (with_reducible refine LeO.ite ?_ ?_)
   | (with_reducible refine LeO.bind ?_ (fun _ => ?_))
   | refine LeO.ite ?_ ?_
   | refine LeO.bind ?_ (fun _ => ?_)
theorem spec_MindDo.mono : ∀ a0 a1 a2 a3 a4 k, LeO (spec_MindDo.f k a0 a1 a2 a3 a4) (spec_MindDo.f (k + 1) a0 a1 a2 a3 a4) := by
 intro a0 a1 a2 a3 a4 k
 obtain ⟨ih0, ih1, ih2⟩ := spec_MindDo.mono_l k
 unfold spec_MindDo.f
 repeat' first
   | (with_reducible exact ih0 _ _ _ _ _ _ _ _ _)
   | (with_reducible exact ih1 _ _ _ _ _ _ _ _ _ _)
   | (with_reducible exact ih2 _ _ _ _ _)
   | (with_reducible exact spec_ChangedBy.mono _ _ _ _ _)
   | (with_reducible exact spec_HoldsIn.mono _ _ _)
   | (with_reducible exact spec_MindValid.mono _ _ _ _)
   | (with_reducible exact spec_SameOrder.mono _ _ _ _)
   | (with_reducible exact spec_l10Copy.mono _ _ _ _)
   | (with_reducible exact LeO.refl _)
   | (with_reducible exact LeO.none _)
   | (with_reducible refine LeO.ite ?_ ?_)
   | (with_reducible refine LeO.bind ?_ (fun _ => ?_))
   | refine LeO.ite ?_ ?_
   | refine LeO.bind ?_ (fun _ => ?_)
/-- Element i taken off a row of rows, and the row cut before it. -/
theorem spec_MindDo.S_off {α : Type} {d : Kd α} {e base g n cap : Nat} {ok : Nat → Prop} {W : World} {xs : List α} (h : Kd.S d e W base ok (.slice (some ⟨g, 0, none⟩) n cap) xs) (z : α) (i : Int) (h0 : 0 ≤ i) (h1 : i < n) :
  ∃ (oki : Nat → Prop) (c : List Value), c.length = d.sz ∧ d.M W base oki (xs.getD i.toNat z) c ∧ (∀ j u, c[j]? = some u → W.cell? ⟨g, i.toNat * d.sz + j, none⟩ = some u) ∧ (∀ k, oki k → ok k ∧ k ≠ g) ∧ Kd.S d e W base (fun k => ok k ∧ ¬ oki k) (.slice (some ⟨g, 0, none⟩) i.toNat cap) (xs.take i.toNat) := by
 have hn := (Kd.S_reads' h).1
 obtain ⟨oki, c, hcl, hM, hcc, hoki, ho, f, hR⟩ := Kd.S_lend h z i h0 h1
 refine ⟨oki, c, hcl, hM, hcc, hoki, f, ?_⟩
 have hT := Kd.R_take hR (m := i.toNat) (by rw [List.length_zipIdx]; omega)
 have he : (xs.take i.toNat).zipIdx = xs.zipIdx.take i.toNat := by
  apply List.ext_getElem?
  intro j
  simp only [List.getElem?_zipIdx, List.getElem?_take, Nat.zero_add]
  split <;> simp
 rw [he]
 obtain ⟨hok0, inner, hown, hr⟩ := hT
 refine ⟨hok0, inner, hown, hr.1, fun m p hm => ?_⟩
 have hp2 : p.2 = m ∧ m < i.toNat := by
  rw [List.getElem?_take] at hm
  split at hm
  ·rename_i hlt
   rw [List.getElem?_zipIdx, Nat.zero_add] at hm
   obtain ⟨q, _, rfl⟩ := Option.map_eq_some_iff.1 hm
   exact ⟨rfl, hlt⟩
  ·cases hm
 exact (hr.2 m p hm).2 (by omega)
theorem spec_MindDo.S_offL {base n cap : Nat} {ok : Nat → Prop} {W : World} {A : Option Addr} {xs : List (List Int)} (h : Kd.S (Kd.slice 3 (Kd.int .i64)) 55 W base ok (.slice A n cap) xs) (i : Int) (h0 : 0 ≤ i) (h1 : i < n) :
  ∃ (ad : Addr) (A0 : Option Addr) (c0 : Nat), A = some ad ∧ W.cell? (ad.add i.toNat) = some (.slice A0 (rd_L1 xs i).length c0) ∧ Kd.R (Kd.int .i64) 3 W base ok (.slice A0 (rd_L1 xs i).length c0) (rd_L1 xs i) ∧ Kd.S (Kd.slice 3 (Kd.int .i64)) 55 W base (fun k => ok k ∧ some k ≠ (Value.slice A0 (rd_L1 xs i).length c0).ownBlock) (.slice A i.toNat cap) (xs.take i.toNat) := by
 have hn := (Kd.S_reads' h).1
 obtain ⟨g, cap', e, _⟩ := Kd.S_form h (by omega)
 cases e
 obtain ⟨oki, c, hcl, hM, hcc, hoki, hS⟩ := spec_MindDo.S_off h [] i h0 h1
 obtain ⟨v, rfl, hRv⟩ := hM
 obtain ⟨A0, c0, rfl⟩ := Kd.R_slice hRv
 have hcell := hcc 0 _ rfl
 refine ⟨⟨g, 0, none⟩, A0, c0, rfl, ?_, Kd.R_mono hRv (fun k hk => (hoki k hk).1), Kd.S_mono hS (fun k hk => ⟨hk.1, fun he => hk.2 (hRv.1 k he.symm)⟩)⟩
 rw [add_plain]
 have : i.toNat * (Kd.slice 3 (Kd.int .i64)).sz + 0 = 0 + i.toNat := by show i.toNat * 1 + 0 = _; omega
 rw [this] at hcell
 rw [Nat.zero_add] at hcell
 exact hcell
set_option maxHeartbeats 8000000 in
set_option maxRecDepth 100000 in
theorem spec_MindDo.calls (k : Nat) (a0_0 : Int) (A0_1 : Option Addr) (c0_1 : Nat) (l0_1 : List Int) (A0_2 : Option Addr) (c0_2 : Nat) (l0_2 : List (List Int)) (a1_0 : Int) (a1_1 : ByteArray) (r1 : Int) (r2 : List Int) (r3 : List (List Int)) (r4 : Bool) (w : World) (hr0_1 : Kd.C (Kd.int .i64) w A0_1 l0_1.length l0_1) (hc0_1 : l0_1.length ≤ c0_1) (hr0_2 : Kd.C (Kd.slice 3 (Kd.int .i64)) w A0_2 l0_2.length l0_2) (hc0_2 : l0_2.length ≤ c0_2) (h : spec_MindDo.f k a0_0 l0_1 l0_2 a1_0 a1_1 = some (r1, r2, r3, r4)) :
  Calls Try.prog 63 #[.agg #[.int .i64 a0_0, .slice A0_1 l0_1.length c0_1, .slice A0_2 l0_2.length c0_2], .agg #[.int .i64 a1_0, .string a1_1]] w fun e w' => ∃ v1_ v2_ : Value, e = .returned (.tuple #[.agg #[.int .i64 r1, v1_, v2_], .bool r4]) ∧ Kd.R (Kd.int .i64) 3 w' w.heap.size (fun _ => True) v1_ r2 ∧ Kd.S (Kd.slice 3 (Kd.int .i64)) 55 w' w.heap.size (fun k_ => some k_ ≠ (v1_ : Value).ownBlock) v2_ r3 ∧ Below w.heap.size w w' := by
 have hu58 := Try.underlying58
 have hu26 := Try.underlying26
 have HR0_1 := Asd.mk hr0_1
 have HC0_1 := Asd.mk hc0_1
 clear hr0_1 hc0_1
 have HR0_2 := Asd.mk hr0_2
 have HC0_2 := Asd.mk hc0_2
 clear hr0_2 hc0_2
 have HB := Asd.mk (Below.refl w.heap.size w)
 have H : ((spec_MindValid.f k a0_0 l0_1 l0_2).bind fun t277 => (if t277 = true then ((spec_l10Copy.f k a0_0 l0_1 l0_2).bind fun bt278 => (if (a1_0 == 2 && (a1_1.toList == ([] : List UInt8))) = true then (spec_MindDo.j0 k (decide ((l0_2.length : Int) > 0)) a0_0 l0_1 l0_2 a1_0 a1_1 bt278.1 bt278.2.1 bt278.2.2) else (spec_MindDo.j0 k false a0_0 l0_1 l0_2 a1_0 a1_1 bt278.1 bt278.2.1 bt278.2.2))) else (some (0, ([] : List Int), ([] : List (List Int)), false)))) = some (r1, r2, r3, r4) := h
 clear h
 replace H := Option.bind_eq_some_iff.mp H
 obtain ⟨t277, A30, H⟩ := H
 try dsimp only at H
 have A3 := Asd.mk A30
 clear A30
 by_cases c4 : t277 = true
 ·subst c4
  rw [if_pos rfl] at H
  replace H := Option.bind_eq_some_iff.mp H
  obtain ⟨⟨t278, t279, t282⟩, A50, H⟩ := H
  try dsimp only at H
  have A5 := Asd.mk A50
  clear A50
  have HC6 := Asd.mk H
  clear H
  go_enter Try.func63, Try.ntmps63
  go_upto_region 4 with (first | ((with_reducible refine gate_dst (N := 2) rfl ?_); (try (refine gate_guard (by rfl) ?_; dsimp only)); refine bxE ?hg (N := 2) ?hd (cs := #[.int .i64 a0_0, .slice A0_1 l0_1.length c0_1, .slice A0_2 l0_2.length c0_2]) (t := 58) ?hr ?_; (case hd => rfl); (case hg => rfl); (case hr => first | (go_simp; done) | (go_simp; rfl)); intro gb274 hg w7 hbox hb; have n0_ := Asd.mk (bwP (by repeat (with_reducible first | exact HB.out | apply bwX)) hb); have n1_ := Asd.mk (hbox); have n2_ := Asd.mk ((by rw [hg]; exact (below_size (by repeat (with_reducible first | exact HB.out | apply bwX))) : w.heap.size ≤ gb274)); have n3_ := Asd.mk ((by rw [hg]; exact (below_size (by repeat (with_reducible first | exact HB.out | apply bwX))) : w.heap.size ≤ gb274)); clear HB; have HB := n0_; have BK274 := n1_; have GW274 := n2_; have GE274 := n3_; clear n0_ n1_ n2_ n3_; clear hb hbox hg) | ((with_reducible refine gate_dst (N := 3) rfl ?_); (try (refine gate_guard (by rfl) ?_; dsimp only)); refine bxE ?hg (N := 3) ?hd (cs := #[.int .i64 a1_0, .string a1_1]) (t := 26) ?hr ?_; (case hd => rfl); (case hg => rfl); (case hr => first | (go_simp; done) | (go_simp; rfl)); intro gb275 hg w8 hbox hb; have n0_ := Asd.mk (bkB (g := gb274) (o := .cells #[.int .i64 a0_0, .slice A0_1 l0_1.length c0_1, .slice A0_2 l0_2.length c0_2] 58 (0, 0)) (by (repeat apply bkS); exact BK274.out) hb); have n1_ := Asd.mk (bwP (by repeat (with_reducible first | exact HB.out | apply bwX | refine bwS ?_ GE274.out)) hb); have n2_ := Asd.mk (hbox); have n3_ := Asd.mk ((by rw [hg]; exact (below_size (by repeat (with_reducible first | exact HB.out | apply bwX | refine bwS ?_ GE274.out))) : w.heap.size ≤ gb275)); have n4_ := Asd.mk ((by rw [hg]; exact (below_size (by repeat (with_reducible first | exact HB.out | apply bwX | refine bwS ?_ GE274.out))) : w.heap.size ≤ gb275)); have n5_ := Asd.mk ((by rw [hg]; exact Nat.ne_of_lt (bkL (g := gb274) (o := .cells #[.int .i64 a0_0, .slice A0_1 l0_1.length c0_1, .slice A0_2 l0_2.length c0_2] 58 (0, 0)) (by (repeat apply bkS); exact BK274.out)) : gb274 ≠ gb275)); have n6_ := Asd.mk ((by rw [hg]; exact Nat.ne_of_gt (bkL (g := gb274) (o := .cells #[.int .i64 a0_0, .slice A0_1 l0_1.length c0_1, .slice A0_2 l0_2.length c0_2] 58 (0, 0)) (by (repeat apply bkS); exact BK274.out)) : gb275 ≠ gb274)); clear BK274; clear HB; have BK274 := n0_; have HB := n1_; have BK275 := n2_; have GW275 := n3_; have GE275 := n4_; have NB274_275 := n5_; have NB275_274 := n6_; clear n0_ n1_ n2_ n3_ n4_ n5_ n6_; clear hb hbox hg) | ((with_reducible refine gate_dst (N := 4) rfl ?_); (try (refine gate_guard (by rfl) ?_; dsimp only)); refine bxE ?hg (N := 4) ?hd (cs := #[.int .i64 0, .slice none 0 0, .slice none 0 0]) (t := 58) ?hr ?_; (case hd => rfl); (case hg => rfl); (case hr => first | (go_simp; done) | (go_simp; rfl)); intro gb276 hg w9 hbox hb; have n0_ := Asd.mk (bkB (g := gb274) (o := .cells #[.int .i64 a0_0, .slice A0_1 l0_1.length c0_1, .slice A0_2 l0_2.length c0_2] 58 (0, 0)) (by (repeat apply bkS); exact BK274.out) hb); have n1_ := Asd.mk (bkB (g := gb275) (o := .cells #[.int .i64 a1_0, .string a1_1] 26 (0, 0)) (by (repeat apply bkS); exact BK275.out) hb); have n2_ := Asd.mk (bwP (by repeat (with_reducible first | exact HB.out | apply bwX | refine bwS ?_ GE274.out | refine bwS ?_ GE275.out)) hb); have n3_ := Asd.mk (hbox); have n4_ := Asd.mk ((by rw [hg]; exact (below_size (by repeat (with_reducible first | exact HB.out | apply bwX | refine bwS ?_ GE274.out | refine bwS ?_ GE275.out))) : w.heap.size ≤ gb276)); have n5_ := Asd.mk ((by rw [hg]; exact (below_size (by repeat (with_reducible first | exact HB.out | apply bwX | refine bwS ?_ GE274.out | refine bwS ?_ GE275.out))) : w.heap.size ≤ gb276)); have n6_ := Asd.mk ((by rw [hg]; exact Nat.ne_of_lt (bkL (g := gb274) (o := .cells #[.int .i64 a0_0, .slice A0_1 l0_1.length c0_1, .slice A0_2 l0_2.length c0_2] 58 (0, 0)) (by (repeat apply bkS); exact BK274.out)) : gb274 ≠ gb276)); have n7_ := Asd.mk ((by rw [hg]; exact Nat.ne_of_gt (bkL (g := gb274) (o := .cells #[.int .i64 a0_0, .slice A0_1 l0_1.length c0_1, .slice A0_2 l0_2.length c0_2] 58 (0, 0)) (by (repeat apply bkS); exact BK274.out)) : gb276 ≠ gb274)); have n8_ := Asd.mk ((by rw [hg]; exact Nat.ne_of_lt (bkL (g := gb275) (o := .cells #[.int .i64 a1_0, .string a1_1] 26 (0, 0)) (by (repeat apply bkS); exact BK275.out)) : gb275 ≠ gb276)); have n9_ := Asd.mk ((by rw [hg]; exact Nat.ne_of_gt (bkL (g := gb275) (o := .cells #[.int .i64 a1_0, .string a1_1] 26 (0, 0)) (by (repeat apply bkS); exact BK275.out)) : gb276 ≠ gb275)); clear BK274; clear BK275; clear HB; have BK274 := n0_; have BK275 := n1_; have HB := n2_; have BK276 := n3_; have GW276 := n4_; have GE276 := n5_; have NB274_276 := n6_; have NB276_274 := n7_; have NB275_276 := n8_; have NB276_275 := n9_; clear n0_ n1_ n2_ n3_ n4_ n5_ n6_ n7_ n8_ n9_; clear hb hbox hg; have hnb10 := NB274_275.out; have hnc10 := NB275_274.out; have hnb11 := NB274_276.out; have hnc11 := NB276_274.out; have hcz12_0 : w9.cell? ⟨gb274, 0, none⟩ = some (.int .i64 a0_0) := (bkC BK274.out 0).trans rfl; have hcz12_1 : w9.cell? ⟨gb274, 1, none⟩ = some (.slice A0_1 l0_1.length c0_1) := (bkC BK274.out 1).trans rfl; have hcz12_2 : w9.cell? ⟨gb274, 2, none⟩ = some (.slice A0_2 l0_2.length c0_2) := (bkC BK274.out 2).trans rfl; have hfz12_0 := bkF BK274.out 0; have hfz12_1 := bkF BK274.out 1; have hfz12_2 := bkF BK274.out 2) | ((with_reducible refine gate_callee (f := 52) rfl ?_); refine gsM (some 13) rfl rfl Try.func52 (by kernel_rfl) rfl #[.agg #[.int .i64 a0_0, .slice A0_1 l0_1.length c0_1, .slice A0_2 l0_2.length c0_2]] rfl ?_; (with_reducible refine (spec_MindValid.calls k a0_0 _ _ l0_1 _ _ l0_2 true _ ?side1 ?side2 ?side3 ?side4 A3.out).mono ?_); (case side1 => repeat (first | exact (Kd.C_below HR0_1.out HB.out) | (with_reducible refine Kd.C_alloc ?_ _) | (with_reducible refine Kd.C_drewN ?_ _) | (with_reducible refine Kd.C_drew ?_))); (case side2 => exact HC0_1.out); (case side3 => repeat (first | exact (Kd.C_below HR0_2.out HB.out) | (with_reducible refine Kd.C_alloc ?_ _) | (with_reducible refine Kd.C_drewN ?_ _) | (with_reducible refine Kd.C_drew ?_))); (case side4 => exact HC0_2.out); rintro e w13 ⟨rfl, hb⟩; refine ⟨_, rfl, ?_⟩; have n0_ := Asd.mk (bkB (g := gb274) (o := .cells #[.int .i64 a0_0, .slice A0_1 l0_1.length c0_1, .slice A0_2 l0_2.length c0_2] 58 (0, 0)) (by (repeat apply bkS); exact BK274.out) hb); have n1_ := Asd.mk (bkB (g := gb275) (o := .cells #[.int .i64 a1_0, .string a1_1] 26 (0, 0)) (by (repeat apply bkS); exact BK275.out) hb); have n2_ := Asd.mk (bkB (g := gb276) (o := .cells #[.int .i64 0, .slice none 0 0, .slice none 0 0] 58 (0, 0)) (by (repeat apply bkS); exact BK276.out) hb); have n3_ := Asd.mk (bwP (by repeat (with_reducible first | exact HB.out | apply bwX | refine bwS ?_ GE274.out | refine bwS ?_ GE275.out | refine bwS ?_ GE276.out)) hb); clear BK274; clear BK275; clear BK276; clear HB; have BK274 := n0_; have BK275 := n1_; have BK276 := n2_; have HB := n3_; clear n0_ n1_ n2_ n3_; (try clear hb); (try clear hb2); (try clear hk); (try clear hi); have hcz14_0 : w13.cell? ⟨gb274, 0, none⟩ = some (.int .i64 a0_0) := (bkC BK274.out 0).trans rfl; have hcz14_1 : w13.cell? ⟨gb274, 1, none⟩ = some (.slice A0_1 l0_1.length c0_1) := (bkC BK274.out 1).trans rfl; have hcz14_2 : w13.cell? ⟨gb274, 2, none⟩ = some (.slice A0_2 l0_2.length c0_2) := (bkC BK274.out 2).trans rfl; have hfz14_0 := bkF BK274.out 0; have hfz14_1 := bkF BK274.out 1; have hfz14_2 := bkF BK274.out 2) | ((with_reducible refine gate_callee (f := 107) rfl ?_); refine gsM (some 17) rfl rfl Try.func107 (by kernel_rfl) rfl #[.agg #[.int .i64 a0_0, .slice A0_1 l0_1.length c0_1, .slice A0_2 l0_2.length c0_2]] rfl ?_; (with_reducible refine (spec_l10Copy.calls k a0_0 _ _ l0_1 _ _ l0_2 t278 t279 t282 _ ?side1 ?side2 ?side3 ?side4 A5.out).mono ?_); (case side1 => repeat (first | exact (Kd.C_below HR0_1.out HB.out) | (with_reducible refine Kd.C_alloc ?_ _) | (with_reducible refine Kd.C_drewN ?_ _) | (with_reducible refine Kd.C_drew ?_))); (case side2 => exact HC0_1.out); (case side3 => repeat (first | exact (Kd.C_below HR0_2.out HB.out) | (with_reducible refine Kd.C_alloc ?_ _) | (with_reducible refine Kd.C_drewN ?_ _) | (with_reducible refine Kd.C_drew ?_))); (case side4 => exact HC0_2.out); rintro e w15 ⟨v280, v283, rfl, ho0, ho1, hb⟩; refine ⟨_, rfl, ?_⟩; have n0_ := Asd.mk (Kd.R_lower ho0 (below_size (by repeat (with_reducible first | exact HB.out | apply bwX | refine bwS ?_ GE274.out | refine bwS ?_ GE275.out | refine bwS ?_ GE276.out)))); have n1_ := Asd.mk (Kd.S_lower ho1 (below_size (by repeat (with_reducible first | exact HB.out | apply bwX | refine bwS ?_ GE274.out | refine bwS ?_ GE275.out | refine bwS ?_ GE276.out)))); have n2_ := Asd.mk (bkB (g := gb274) (o := .cells #[.int .i64 a0_0, .slice A0_1 l0_1.length c0_1, .slice A0_2 l0_2.length c0_2] 58 (0, 0)) (by (repeat apply bkS); exact BK274.out) hb); have n3_ := Asd.mk (bkB (g := gb275) (o := .cells #[.int .i64 a1_0, .string a1_1] 26 (0, 0)) (by (repeat apply bkS); exact BK275.out) hb); have n4_ := Asd.mk (bkB (g := gb276) (o := .cells #[.int .i64 0, .slice none 0 0, .slice none 0 0] 58 (0, 0)) (by (repeat apply bkS); exact BK276.out) hb); have n5_ := Asd.mk (bwP (by repeat (with_reducible first | exact HB.out | apply bwX | refine bwS ?_ GE274.out | refine bwS ?_ GE275.out | refine bwS ?_ GE276.out)) hb); clear BK274; clear BK275; clear BK276; clear HB; have HO281 := n0_; have HO284 := n1_; have BK274 := n2_; have BK275 := n3_; have BK276 := n4_; have HB := n5_; clear n0_ n1_ n2_ n3_ n4_ n5_; (try clear hb); (try clear hb2); (try clear hk); (try clear hi); (try clear ho0); (try clear ho1)) | ((with_reducible refine gate_dst (N := 6) rfl ?_); (try (refine gate_guard (by rfl) ?_; dsimp only)); refine bxE ?hg (N := 6) ?hd (cs := #[.int .i64 0, .slice none 0 0, .slice none 0 0]) (t := 58) ?hr ?_; (case hd => rfl); (case hg => rfl); (case hr => first | (go_simp; done) | (go_simp; rfl)); intro gb285 hg w16 hbox hb; have n0_ := Asd.mk (Kd.R_below (by (repeat apply Kd.RS); exact HO281.out) hb); have n1_ := Asd.mk (Kd.S_below (by (repeat apply Kd.SS); exact HO284.out) hb); have n2_ := Asd.mk (bkB (g := gb274) (o := .cells #[.int .i64 a0_0, .slice A0_1 l0_1.length c0_1, .slice A0_2 l0_2.length c0_2] 58 (0, 0)) (by (repeat apply bkS); exact BK274.out) hb); have n3_ := Asd.mk (bkB (g := gb275) (o := .cells #[.int .i64 a1_0, .string a1_1] 26 (0, 0)) (by (repeat apply bkS); exact BK275.out) hb); have n4_ := Asd.mk (bkB (g := gb276) (o := .cells #[.int .i64 0, .slice none 0 0, .slice none 0 0] 58 (0, 0)) (by (repeat apply bkS); exact BK276.out) hb); have n5_ := Asd.mk (bwP (by repeat (with_reducible first | exact HB.out | apply bwX | refine bwS ?_ GE274.out | refine bwS ?_ GE275.out | refine bwS ?_ GE276.out)) hb); have n6_ := Asd.mk (hbox); have n7_ := Asd.mk ((by rw [hg]; exact (below_size (by repeat (with_reducible first | exact HB.out | apply bwX | refine bwS ?_ GE274.out | refine bwS ?_ GE275.out | refine bwS ?_ GE276.out))) : w.heap.size ≤ gb285)); have n8_ := Asd.mk ((by rw [hg]; exact (below_size (by repeat (with_reducible first | exact HB.out | apply bwX | refine bwS ?_ GE274.out | refine bwS ?_ GE275.out | refine bwS ?_ GE276.out))) : w.heap.size ≤ gb285)); have n9_ := Asd.mk ((by rw [hg]; exact Nat.ne_of_lt (bkL (g := gb274) (o := .cells #[.int .i64 a0_0, .slice A0_1 l0_1.length c0_1, .slice A0_2 l0_2.length c0_2] 58 (0, 0)) (by (repeat apply bkS); exact BK274.out)) : gb274 ≠ gb285)); have n10_ := Asd.mk ((by rw [hg]; exact Nat.ne_of_gt (bkL (g := gb274) (o := .cells #[.int .i64 a0_0, .slice A0_1 l0_1.length c0_1, .slice A0_2 l0_2.length c0_2] 58 (0, 0)) (by (repeat apply bkS); exact BK274.out)) : gb285 ≠ gb274)); have n11_ := Asd.mk ((by rw [hg]; exact Nat.ne_of_lt (bkL (g := gb275) (o := .cells #[.int .i64 a1_0, .string a1_1] 26 (0, 0)) (by (repeat apply bkS); exact BK275.out)) : gb275 ≠ gb285)); have n12_ := Asd.mk ((by rw [hg]; exact Nat.ne_of_gt (bkL (g := gb275) (o := .cells #[.int .i64 a1_0, .string a1_1] 26 (0, 0)) (by (repeat apply bkS); exact BK275.out)) : gb285 ≠ gb275)); have n13_ := Asd.mk ((by rw [hg]; exact Nat.ne_of_lt (bkL (g := gb276) (o := .cells #[.int .i64 0, .slice none 0 0, .slice none 0 0] 58 (0, 0)) (by (repeat apply bkS); exact BK276.out)) : gb276 ≠ gb285)); have n14_ := Asd.mk ((by rw [hg]; exact Nat.ne_of_gt (bkL (g := gb276) (o := .cells #[.int .i64 0, .slice none 0 0, .slice none 0 0] 58 (0, 0)) (by (repeat apply bkS); exact BK276.out)) : gb285 ≠ gb276)); clear HO281; clear HO284; clear BK274; clear BK275; clear BK276; clear HB; have HO281 := n0_; have HO284 := n1_; have BK274 := n2_; have BK275 := n3_; have BK276 := n4_; have HB := n5_; have BK285 := n6_; have GW285 := n7_; have GE285 := n8_; have NB274_285 := n9_; have NB285_274 := n10_; have NB275_285 := n11_; have NB285_275 := n12_; have NB276_285 := n13_; have NB285_276 := n14_; clear n0_ n1_ n2_ n3_ n4_ n5_ n6_ n7_ n8_ n9_ n10_ n11_ n12_ n13_ n14_; clear hb hbox hg; have hnb17 := NB285_274.out; have hnc17 := NB274_285.out; have hnb18 := NB285_275.out; have hnc18 := NB275_285.out; have hnb19 := NB285_276.out; have hnc19 := NB276_285.out; have hcz20_0 : w16.cell? ⟨gb285, 0, none⟩ = some (.int .i64 0) := (bkC BK285.out 0).trans rfl; have hcz20_1 : w16.cell? ⟨gb285, 1, none⟩ = some (.slice none 0 0) := (bkC BK285.out 1).trans rfl; have hcz20_2 : w16.cell? ⟨gb285, 2, none⟩ = some (.slice none 0 0) := (bkC BK285.out 2).trans rfl; have hfz20_0 := bkF BK285.out 0; have hfz20_1 := bkF BK285.out 1; have hfz20_2 := bkF BK285.out 2; obtain ⟨Ao21, co21, eo21⟩ := Kd.R_slice HO281.out; subst eo21; obtain ⟨Ao22, co22, eo22⟩ := Kd.S_slice HO284.out; subst eo22))
  (try simp only [Act.put, qA, qB, qC])
  go_cut [26] (fun v26 wc => ∃ (kq : Nat) (x26_5 : Bool), v26 = .bool x26_5 ∧ Asd (spec_MindDo.j0 kq x26_5 a0_0 l0_1 l0_2 a1_0 a1_1 t278 t279 t282 = some (r1, r2, r3, r4)) ∧ Asd (kq ≤ k) ∧ Asd (Kd.R (Kd.int .i64) 3 wc w.heap.size (fun _ => True) (.slice Ao21 t279.length co21) t279) ∧ Asd (Kd.S (Kd.slice 3 (Kd.int .i64)) 55 wc w.heap.size (fun k_ => some k_ ≠ ((.slice Ao21 t279.length co21) : Value).ownBlock) (.slice Ao22 t282.length co22) t282) ∧ Asd (wc.heap[gb274]? = some (.cells #[.int .i64 a0_0, (.slice A0_1 l0_1.length c0_1), (.slice A0_2 l0_2.length c0_2)] 58 (0, 0))) ∧ Asd (wc.heap[gb275]? = some (.cells #[.int .i64 a1_0, .string a1_1] 26 (0, 0))) ∧ Asd (wc.heap[gb276]? = some (.cells #[.int .i64 0, (.slice none 0 0), (.slice none 0 0)] 58 (0, 0))) ∧ Asd (wc.heap[gb285]? = some (.cells #[.int .i64 t278, (.slice Ao21 t279.length co21), (.slice Ao22 t282.length co22)] 58 (0, 0))) ∧ Asd (Below w.heap.size w wc))
  case first =>
   have H := HC6.out
   clear HC6
   by_cases c23 : (a1_0 == 2 && (a1_1.toList == ([] : List UInt8))) = true
   ·rw [if_pos c23] at H
    have c23b0 : (a1_0 == 2 && (a1_1.toList == ([] : List UInt8))) = true := c23
    try have c23b7 : (a1_0 == 2 && a1_1.toList.isEmpty) = true := by have h_ := c23b0; (repeat rw [Hof.isEmpty_beq]); exact h_
    (try (have c23b1 : decide (a1_0 = 2 && (a1_1.toList == ([] : List UInt8))) = true := by simpa using c23))
    (try (have c23b2 : (a1_0 == 2 && (a1_1.toList == ([] : List UInt8))) = true := by simpa using c23))
    clear c23
    (first | rw [c23b0] | (simp only [i64_w, i32_w]; rw [c23b0]) | skip)
    have H' := Asd.mk H
    clear H
    have hnb24 := NB275_274.out
    have hnc24 := NB274_275.out
    have hnb25 := NB275_276.out
    have hnc25 := NB276_275.out
    have hnb26 := NB275_285.out
    have hnc26 := NB285_275.out
    have hcz27_0 : w16.cell? ⟨gb275, 0, none⟩ = some (.int .i64 a1_0) := (bkC BK275.out 0).trans rfl
    have hcz27_1 : w16.cell? ⟨gb275, 1, none⟩ = some (.string a1_1) := (bkC BK275.out 1).trans rfl
    have hfz27_0 := bkF BK275.out 0
    have hfz27_1 := bkF BK275.out 1
    have hnb28 := NB274_276.out
    have hnc28 := NB276_274.out
    have hnb29 := NB274_285.out
    have hnc29 := NB285_274.out
    have hcz30_0 : w16.cell? ⟨gb274, 0, none⟩ = some (.int .i64 a0_0) := (bkC BK274.out 0).trans rfl
    have hcz30_1 : w16.cell? ⟨gb274, 1, none⟩ = some (.slice A0_1 l0_1.length c0_1) := (bkC BK274.out 1).trans rfl
    have hcz30_2 : w16.cell? ⟨gb274, 2, none⟩ = some (.slice A0_2 l0_2.length c0_2) := (bkC BK274.out 2).trans rfl
    have hfz30_0 := bkF BK274.out 0
    have hfz30_1 := bkF BK274.out 1
    have hfz30_2 := bkF BK274.out 2
    go_wp2
    go_meet
    case rel => exact ⟨_, (decide ((l0_2.length : Int) > 0)), (by first | rfl | (simp; done) | (simp [*]; done)), H', ⟨by first | omega | exact Nat.le_refl _⟩, ⟨by (repeat apply Kd.RS); exact Kd.R_mono (Kd.R_far (p := ⟨gb285, 2, none⟩) (Kd.R_far (p := ⟨gb285, 1, none⟩) (Kd.R_far (p := ⟨gb285, 0, none⟩) (Kd.R_types HO281.out BK285.out (by decide)) (fun _ hk => hk.2) (.int .i64 t278)) (fun _ hk => hk.2) (.slice Ao21 t279.length co21)) (fun _ hk => hk.2) (.slice Ao22 t282.length co22)) (fun _ hk => trivial)⟩, ⟨by (repeat apply Kd.SS); exact Kd.S_mono (Kd.S_far (p := ⟨gb285, 2, none⟩) (Kd.S_far (p := ⟨gb285, 1, none⟩) (Kd.S_far (p := ⟨gb285, 0, none⟩) (Kd.S_types HO284.out BK285.out (by decide)) (fun _ hk => hk.2) (.int .i64 t278)) (fun _ hk => hk.2) (.slice Ao21 t279.length co21)) (fun _ hk => hk.2) (.slice Ao22 t282.length co22)) (fun _ hk => hk.1)⟩, ⟨by (repeat apply bkS); refine bkR ?_ NB274_285.out _; (repeat apply bkS); refine bkR ?_ NB274_285.out _; (repeat apply bkS); refine bkR ?_ NB274_285.out _; (repeat apply bkS); exact BK274.out⟩, ⟨by (repeat apply bkS); refine bkR ?_ NB275_285.out _; (repeat apply bkS); refine bkR ?_ NB275_285.out _; (repeat apply bkS); refine bkR ?_ NB275_285.out _; (repeat apply bkS); exact BK275.out⟩, ⟨by (repeat apply bkS); refine bkR ?_ NB276_285.out _; (repeat apply bkS); refine bkR ?_ NB276_285.out _; (repeat apply bkS); refine bkR ?_ NB276_285.out _; (repeat apply bkS); exact BK276.out⟩, ⟨by (repeat apply bkS); refine bkP (cs := #[.int .i64 t278, .slice Ao21 t279.length co21, .slice none 0 0]) ?_ 2 _ rfl; (repeat apply bkS); refine bkP (cs := #[.int .i64 t278, .slice none 0 0, .slice none 0 0]) ?_ 1 _ rfl; (repeat apply bkS); refine bkP (cs := #[.int .i64 0, .slice none 0 0, .slice none 0 0]) ?_ 0 _ rfl; (repeat apply bkS); exact BK285.out⟩, ⟨by repeat (with_reducible first | exact HB.out | apply bwX | refine bwS ?_ GE274.out | refine bwS ?_ GE275.out | refine bwS ?_ GE276.out | refine bwS ?_ GE285.out)⟩⟩
   ·rw [if_neg c23] at H
    have c23b0 : (a1_0 == 2 && (a1_1.toList == ([] : List UInt8))) = false := by simpa using c23
    try have c23b7 : (a1_0 == 2 && a1_1.toList.isEmpty) = false := by have h_ := c23b0; (repeat rw [Hof.isEmpty_beq]); exact h_
    (try (have c23b1 : decide (a1_0 = 2 && (a1_1.toList == ([] : List UInt8))) = false := by simpa using c23))
    (try (have c23b2 : (a1_0 == 2 && (a1_1.toList == ([] : List UInt8))) = false := by simpa using c23))
    (try (have c23b3 : ¬ (a1_0 = 2 && (a1_1.toList == ([] : List UInt8))) := by simpa using c23))
    clear c23
    (first | rw [c23b0] | (simp only [i64_w, i32_w]; rw [c23b0]) | skip)
    have H' := Asd.mk H
    clear H
    have hnb31 := NB275_274.out
    have hnc31 := NB274_275.out
    have hnb32 := NB275_276.out
    have hnc32 := NB276_275.out
    have hnb33 := NB275_285.out
    have hnc33 := NB285_275.out
    have hcz34_0 : w16.cell? ⟨gb275, 0, none⟩ = some (.int .i64 a1_0) := (bkC BK275.out 0).trans rfl
    have hcz34_1 : w16.cell? ⟨gb275, 1, none⟩ = some (.string a1_1) := (bkC BK275.out 1).trans rfl
    have hfz34_0 := bkF BK275.out 0
    have hfz34_1 := bkF BK275.out 1
    go_wp2
    go_meet
    case rel => exact ⟨_, (false), (by first | rfl | (simp; done) | (simp [*]; done)), H', ⟨by first | omega | exact Nat.le_refl _⟩, ⟨by (repeat apply Kd.RS); exact Kd.R_mono (Kd.R_far (p := ⟨gb285, 2, none⟩) (Kd.R_far (p := ⟨gb285, 1, none⟩) (Kd.R_far (p := ⟨gb285, 0, none⟩) (Kd.R_types HO281.out BK285.out (by decide)) (fun _ hk => hk.2) (.int .i64 t278)) (fun _ hk => hk.2) (.slice Ao21 t279.length co21)) (fun _ hk => hk.2) (.slice Ao22 t282.length co22)) (fun _ hk => trivial)⟩, ⟨by (repeat apply Kd.SS); exact Kd.S_mono (Kd.S_far (p := ⟨gb285, 2, none⟩) (Kd.S_far (p := ⟨gb285, 1, none⟩) (Kd.S_far (p := ⟨gb285, 0, none⟩) (Kd.S_types HO284.out BK285.out (by decide)) (fun _ hk => hk.2) (.int .i64 t278)) (fun _ hk => hk.2) (.slice Ao21 t279.length co21)) (fun _ hk => hk.2) (.slice Ao22 t282.length co22)) (fun _ hk => hk.1)⟩, ⟨by (repeat apply bkS); refine bkR ?_ NB274_285.out _; (repeat apply bkS); refine bkR ?_ NB274_285.out _; (repeat apply bkS); refine bkR ?_ NB274_285.out _; (repeat apply bkS); exact BK274.out⟩, ⟨by (repeat apply bkS); refine bkR ?_ NB275_285.out _; (repeat apply bkS); refine bkR ?_ NB275_285.out _; (repeat apply bkS); refine bkR ?_ NB275_285.out _; (repeat apply bkS); exact BK275.out⟩, ⟨by (repeat apply bkS); refine bkR ?_ NB276_285.out _; (repeat apply bkS); refine bkR ?_ NB276_285.out _; (repeat apply bkS); refine bkR ?_ NB276_285.out _; (repeat apply bkS); exact BK276.out⟩, ⟨by (repeat apply bkS); refine bkP (cs := #[.int .i64 t278, .slice Ao21 t279.length co21, .slice none 0 0]) ?_ 2 _ rfl; (repeat apply bkS); refine bkP (cs := #[.int .i64 t278, .slice none 0 0, .slice none 0 0]) ?_ 1 _ rfl; (repeat apply bkS); refine bkP (cs := #[.int .i64 0, .slice none 0 0, .slice none 0 0]) ?_ 0 _ rfl; (repeat apply bkS); exact BK285.out⟩, ⟨by repeat (with_reducible first | exact HB.out | apply bwX | refine bwS ?_ GE274.out | refine bwS ?_ GE275.out | refine bwS ?_ GE276.out | refine bwS ?_ GE285.out)⟩⟩
  case rest =>
   clear HC6
   obtain ⟨kq, x26_5, rfl, HA, HJ5, HO_286001, HO_286002, BK274, BK275, BK276, BK285, HB⟩ := hcut
   cases kq with
   | zero => exact absurd HA.out (by simp [spec_MindDo.j0])
   | succ kj5 =>
    have H := HA.out
    clear HA
    simp only [spec_MindDo.j0] at H
    by_cases c35 : x26_5 = true
    ·subst c35
     rw [if_pos rfl] at H
     obtain ⟨ji36, hji36⟩ : ∃ j_ : Int, (wrap64 ((t282.length : Int) - 1)) = j_ := ⟨_, rfl⟩
     replace H : (if 0 ≤ (ji36) then (if (ji36) < (t282.length : Int) then (some (t278, rd_L1 t282 (ji36), t282.take (ji36).toNat, true)) else (none)) else (none)) = some (r1, r2, r3, r4) := by first | (rw [hji36] at H; exact H) | (simp only [hji36] at H ⊢; exact H)
     have hji36w : (IntKind.i64.wrap ((t282.length : Int) - 1)) = ji36 := (i64_w _).trans hji36
     by_cases c37 : 0 ≤ (ji36); rotate_left; (rw [if_neg c37] at H; exact absurd H (by simp))
     rw [if_pos c37] at H
     have c37b0 : decide (0 ≤ (ji36)) = true := decide_eq_true c37
     clear c37
     by_cases c38 : (ji36) < (t282.length : Int); rotate_left; (rw [if_neg c38] at H; exact absurd H (by simp))
     rw [if_pos c38] at H
     have c38b0 : decide ((ji36) < (t282.length : Int)) = true := decide_eq_true c38
     clear c38
     simp only [Option.some.injEq, Prod.mk.injEq] at H
     obtain ⟨rfl, rfl, rfl, rfl⟩ := H
     have p40 : 0 ≤ (ji36 : Int) := of_decide_eq_true c37b0
     have q40 : ji36 < (t282.length : Int) := of_decide_eq_true c38b0
     have k40 : ji36 ≤ (t282.length : Int) := Int.le_of_lt q40
     obtain ⟨ad40, A40, c40, e40, hx40, hR40, hS40⟩ := spec_MindDo.S_offL HO_286002.out ji36 p40 q40
     cases e40
     have HR40 := Asd.mk hR40
     have HS40 := Asd.mk hS40
     clear hR40 hS40
     obtain ⟨i0q, hi0q, _, hszq, _⟩ := info_parts info55
     have hcutq := cut_to (P := Try.prog) 56 55 .i64 Try.underlying56 hi0q (some ad40) t282.length co22 ji36 p40 k40 (Kd.S_reads' HO_286002.out).2.1
     replace p40 := eq_true p40
     replace q40 := eq_true q40
     have hnb55 := NB285_274.out
     have hnc55 := NB274_285.out
     have hnb56 := NB285_275.out
     have hnc56 := NB275_285.out
     have hnb57 := NB285_276.out
     have hnc57 := NB276_285.out
     have hcz58_0 : wc.cell? ⟨gb285, 0, none⟩ = some (.int .i64 t278) := (bkC BK285.out 0).trans rfl
     have hcz58_1 : wc.cell? ⟨gb285, 1, none⟩ = some (.slice Ao21 t279.length co21) := (bkC BK285.out 1).trans rfl
     have hcz58_2 : wc.cell? ⟨gb285, 2, none⟩ = some (.slice (some ad40) t282.length co22) := (bkC BK285.out 2).trans rfl
     have hfz58_0 := bkF BK285.out 0
     have hfz58_1 := bkF BK285.out 1
     have hfz58_2 := bkF BK285.out 2
     have hnb59 := NB276_274.out
     have hnc59 := NB274_276.out
     have hnb60 := NB276_275.out
     have hnc60 := NB275_276.out
     have hcz61_0 : wc.cell? ⟨gb276, 0, none⟩ = some (.int .i64 0) := (bkC BK276.out 0).trans rfl
     have hcz61_1 : wc.cell? ⟨gb276, 1, none⟩ = some (.slice none 0 0) := (bkC BK276.out 1).trans rfl
     have hcz61_2 : wc.cell? ⟨gb276, 2, none⟩ = some (.slice none 0 0) := (bkC BK276.out 2).trans rfl
     have hfz61_0 := bkF BK276.out 0
     have hfz61_1 := bkF BK276.out 1
     have hfz61_2 := bkF BK276.out 2
     go_wp2
     refine bodyPost_ret (results_ct rfl _ _ gb276 58 #[.int .i64 t278, .slice A40 (rd_L1 t282 ji36).length c40, .slice (some ad40) ji36.toNat co22] (0, 0) _ rfl (by (repeat apply bkS); refine bkP (cs := #[.int .i64 t278, .slice A40 (rd_L1 t282 ji36).length c40, .slice none 0 0]) ?_ 2 _ rfl; (repeat apply bkS); refine bkP (cs := #[.int .i64 t278, .slice none 0 0, .slice none 0 0]) ?_ 1 _ rfl; (repeat apply bkS); refine bkP (cs := #[.int .i64 0, .slice none 0 0, .slice none 0 0]) ?_ 0 _ rfl; (repeat apply bkS); refine bkR ?_ NB276_285.out _; (repeat apply bkS); refine bkR ?_ NB276_285.out _; (repeat apply bkS); exact BK276.out) Try.underlying58 rfl (by kernel_rfl)) rfl ?_
     exact ⟨_, _, by first | rfl | (simp [*, errW_none, errW_some] <;> rfl), by (repeat apply Kd.RS); exact Kd.R_mono (Kd.R_far (p := ⟨gb276, 2, none⟩) (Kd.R_far (p := ⟨gb276, 1, none⟩) (Kd.R_far (p := ⟨gb276, 0, none⟩) (Kd.R_far (p := ⟨gb285, 2, none⟩) (Kd.R_far (p := ⟨gb285, 1, none⟩) (Kd.R_types (Kd.R_types HR40.out BK285.out (by decide)) BK276.out (by decide)) (fun _ hk => hk.1.2) (.slice A40 (rd_L1 t282 ji36).length c40)) (fun _ hk => hk.1.2) (.slice (some ad40) ji36.toNat co22)) (fun _ hk => hk.2) (.int .i64 t278)) (fun _ hk => hk.2) (.slice A40 (rd_L1 t282 ji36).length c40)) (fun _ hk => hk.2) (.slice (some ad40) ji36.toNat co22)) (fun _ hk => trivial), by (repeat apply Kd.SS); exact Kd.S_mono (Kd.S_far (p := ⟨gb276, 2, none⟩) (Kd.S_far (p := ⟨gb276, 1, none⟩) (Kd.S_far (p := ⟨gb276, 0, none⟩) (Kd.S_far (p := ⟨gb285, 2, none⟩) (Kd.S_far (p := ⟨gb285, 1, none⟩) (Kd.S_types (Kd.S_types HS40.out BK285.out (by decide)) BK276.out (by decide)) (fun _ hk => hk.1.2) (.slice A40 (rd_L1 t282 ji36).length c40)) (fun _ hk => hk.1.2) (.slice (some ad40) ji36.toNat co22)) (fun _ hk => hk.2) (.int .i64 t278)) (fun _ hk => hk.2) (.slice A40 (rd_L1 t282 ji36).length c40)) (fun _ hk => hk.2) (.slice (some ad40) ji36.toNat co22)) (fun _ hk => hk.1.1.2), by repeat (with_reducible first | exact HB.out | apply bwX | refine bwS ?_ GE276.out | refine bwS ?_ GE285.out)⟩
    ·replace c35 := Bool.eq_false_iff.mpr c35
     subst c35
     rw [if_neg (show ¬ (false = true) by decide)] at H
     replace H := Option.bind_eq_some_iff.mp H
     obtain ⟨⟨t287, t288⟩, A390, H⟩ := H
     try dsimp only at H
     have A39 := Asd.mk A390
     clear A390
     have HC40 := Asd.mk H
     clear H
     have hnb41 := NB274_275.out
     have hnc41 := NB275_274.out
     have hnb42 := NB274_276.out
     have hnc42 := NB276_274.out
     have hnb43 := NB274_285.out
     have hnc43 := NB285_274.out
     have hcz44_0 : wc.cell? ⟨gb274, 0, none⟩ = some (.int .i64 a0_0) := (bkC BK274.out 0).trans rfl
     have hcz44_1 : wc.cell? ⟨gb274, 1, none⟩ = some (.slice A0_1 l0_1.length c0_1) := (bkC BK274.out 1).trans rfl
     have hcz44_2 : wc.cell? ⟨gb274, 2, none⟩ = some (.slice A0_2 l0_2.length c0_2) := (bkC BK274.out 2).trans rfl
     have hfz44_0 := bkF BK274.out 0
     have hfz44_1 := bkF BK274.out 1
     have hfz44_2 := bkF BK274.out 2
     have hnb45 := NB275_276.out
     have hnc45 := NB276_275.out
     have hnb46 := NB275_285.out
     have hnc46 := NB285_275.out
     have hcz47_0 : wc.cell? ⟨gb275, 0, none⟩ = some (.int .i64 a1_0) := (bkC BK275.out 0).trans rfl
     have hcz47_1 : wc.cell? ⟨gb275, 1, none⟩ = some (.string a1_1) := (bkC BK275.out 1).trans rfl
     have hfz47_0 := bkF BK275.out 0
     have hfz47_1 := bkF BK275.out 1
     go_upto_region 10 with (first | ((with_reducible refine gate_callee (f := 83) rfl ?_); refine gsM (some 48) rfl rfl Try.func83 (by kernel_rfl) rfl #[.int .i64 a0_0, .string a1_1] rfl ?_; (with_reducible refine (spec_HoldsIn.calls kj5 a0_0 a1_1 t287 t288 _ A39.out).mono ?_); rintro e w' ⟨rfl, ⟨nd, rfl⟩⟩; refine ⟨_, rfl, ?_⟩))
     (try simp only [Act.put, qA, qB, qC])
     go_cut [58] (fun v58 wc => ∃ (kq : Nat) (x58_39 : Bool), v58 = .bool x58_39 ∧ Asd (spec_MindDo.j1 kq t287 x58_39 a0_0 l0_1 l0_2 a1_0 a1_1 t278 t279 t282 = some (r1, r2, r3, r4)) ∧ Asd (kq ≤ kj5) ∧ Asd (Kd.R (Kd.int .i64) 3 wc w.heap.size (fun _ => True) (.slice Ao21 t279.length co21) t279) ∧ Asd (Kd.S (Kd.slice 3 (Kd.int .i64)) 55 wc w.heap.size (fun k_ => some k_ ≠ ((.slice Ao21 t279.length co21) : Value).ownBlock) (.slice Ao22 t282.length co22) t282) ∧ Asd (wc.heap[gb274]? = some (.cells #[.int .i64 a0_0, (.slice A0_1 l0_1.length c0_1), (.slice A0_2 l0_2.length c0_2)] 58 (0, 0))) ∧ Asd (wc.heap[gb275]? = some (.cells #[.int .i64 a1_0, .string a1_1] 26 (0, 0))) ∧ Asd (wc.heap[gb276]? = some (.cells #[.int .i64 0, (.slice none 0 0), (.slice none 0 0)] 58 (0, 0))) ∧ Asd (wc.heap[gb285]? = some (.cells #[.int .i64 t278, (.slice Ao21 t279.length co21), (.slice Ao22 t282.length co22)] 58 (0, 0))) ∧ Asd (Below w.heap.size w wc))
     case first =>
      have H := HC40.out
      clear HC40
      by_cases c48 : t288 = true
      ·subst c48
       rw [if_pos rfl] at H
       replace H := Option.bind_eq_some_iff.mp H
       obtain ⟨t289, A490, H⟩ := H
       try dsimp only at H
       have A49 := Asd.mk A490
       clear A490
       have H' := Asd.mk H
       clear H
       have hnb50 := NB275_274.out
       have hnc50 := NB274_275.out
       have hnb51 := NB275_276.out
       have hnc51 := NB276_275.out
       have hnb52 := NB275_285.out
       have hnc52 := NB285_275.out
       have hcz53_0 : wc.cell? ⟨gb275, 0, none⟩ = some (.int .i64 a1_0) := (bkC BK275.out 0).trans rfl
       have hcz53_1 : wc.cell? ⟨gb275, 1, none⟩ = some (.string a1_1) := (bkC BK275.out 1).trans rfl
       have hfz53_0 := bkF BK275.out 0
       have hfz53_1 := bkF BK275.out 1
       go_wp2_with (first | (go_at_call 72; (with_reducible refine (spec_l1In.calls a1_0 0 1 t289 _ A49.out).mono ?_); rintro e w' ⟨rfl, ⟨nd, rfl⟩⟩))
       go_meet
       case rel => exact ⟨_, (!t289), (by first | rfl | (simp; done) | (simp [*]; done)), H', ⟨by have := HJ5.out; first | omega | exact Nat.le_refl _⟩, ⟨by (repeat apply Kd.RS); exact HO_286001.out⟩, ⟨by (repeat apply Kd.SS); exact HO_286002.out⟩, ⟨by (repeat apply bkS); exact BK274.out⟩, ⟨by (repeat apply bkS); exact BK275.out⟩, ⟨by (repeat apply bkS); exact BK276.out⟩, ⟨by (repeat apply bkS); exact BK285.out⟩, ⟨by repeat (with_reducible first | exact HB.out | apply bwX | refine bwS ?_ GE274.out | refine bwS ?_ GE275.out | refine bwS ?_ GE276.out | refine bwS ?_ GE285.out)⟩⟩
      ·replace c48 := Bool.eq_false_iff.mpr c48
       subst c48
       rw [if_neg (show ¬ (false = true) by decide)] at H
       have H' := Asd.mk H
       clear H
       go_wp2
       go_meet
       case rel => exact ⟨_, (true), (by first | rfl | (simp; done) | (simp [*]; done)), H', ⟨by have := HJ5.out; first | omega | exact Nat.le_refl _⟩, ⟨by (repeat apply Kd.RS); exact HO_286001.out⟩, ⟨by (repeat apply Kd.SS); exact HO_286002.out⟩, ⟨by (repeat apply bkS); exact BK274.out⟩, ⟨by (repeat apply bkS); exact BK275.out⟩, ⟨by (repeat apply bkS); exact BK276.out⟩, ⟨by (repeat apply bkS); exact BK285.out⟩, ⟨by repeat (with_reducible first | exact HB.out | apply bwX | refine bwS ?_ GE274.out | refine bwS ?_ GE275.out | refine bwS ?_ GE276.out | refine bwS ?_ GE285.out)⟩⟩
     case rest =>
      clear HC40
      obtain ⟨kq, x58_39, rfl, HA, HJ39, HO_286001, HO_286002, BK274, BK275, BK276, BK285, HB⟩ := hcut
      cases kq with
      | zero => exact absurd HA.out (by simp [spec_MindDo.j1])
      | succ kj39 =>
       have H := HA.out
       clear HA
       simp only [spec_MindDo.j1] at H
       by_cases c54 : x58_39 = true
       ·subst c54
        rw [if_pos rfl] at H
        simp only [Option.some.injEq, Prod.mk.injEq] at H
        obtain ⟨rfl, rfl, rfl, rfl⟩ := H
        have hnb55 := NB285_274.out
        have hnc55 := NB274_285.out
        have hnb56 := NB285_275.out
        have hnc56 := NB275_285.out
        have hnb57 := NB285_276.out
        have hnc57 := NB276_285.out
        have hcz58_0 : wc.cell? ⟨gb285, 0, none⟩ = some (.int .i64 t278) := (bkC BK285.out 0).trans rfl
        have hcz58_1 : wc.cell? ⟨gb285, 1, none⟩ = some (.slice Ao21 t279.length co21) := (bkC BK285.out 1).trans rfl
        have hcz58_2 : wc.cell? ⟨gb285, 2, none⟩ = some (.slice Ao22 t282.length co22) := (bkC BK285.out 2).trans rfl
        have hfz58_0 := bkF BK285.out 0
        have hfz58_1 := bkF BK285.out 1
        have hfz58_2 := bkF BK285.out 2
        have hnb59 := NB276_274.out
        have hnc59 := NB274_276.out
        have hnb60 := NB276_275.out
        have hnc60 := NB275_276.out
        have hcz61_0 : wc.cell? ⟨gb276, 0, none⟩ = some (.int .i64 0) := (bkC BK276.out 0).trans rfl
        have hcz61_1 : wc.cell? ⟨gb276, 1, none⟩ = some (.slice none 0 0) := (bkC BK276.out 1).trans rfl
        have hcz61_2 : wc.cell? ⟨gb276, 2, none⟩ = some (.slice none 0 0) := (bkC BK276.out 2).trans rfl
        have hfz61_0 := bkF BK276.out 0
        have hfz61_1 := bkF BK276.out 1
        have hfz61_2 := bkF BK276.out 2
        go_wp2
        refine bodyPost_ret (results_ct rfl _ _ gb276 58 #[.int .i64 t278, .slice Ao21 t279.length co21, .slice Ao22 t282.length co22] (0, 0) _ rfl (by (repeat apply bkS); refine bkP (cs := #[.int .i64 t278, .slice Ao21 t279.length co21, .slice none 0 0]) ?_ 2 _ rfl; (repeat apply bkS); refine bkP (cs := #[.int .i64 t278, .slice none 0 0, .slice none 0 0]) ?_ 1 _ rfl; (repeat apply bkS); refine bkP (cs := #[.int .i64 0, .slice none 0 0, .slice none 0 0]) ?_ 0 _ rfl; (repeat apply bkS); exact BK276.out) Try.underlying58 rfl (by kernel_rfl)) rfl ?_
        exact ⟨_, _, by first | rfl | (simp [*, errW_none, errW_some] <;> rfl), by (repeat apply Kd.RS); exact Kd.R_mono (Kd.R_far (p := ⟨gb276, 2, none⟩) (Kd.R_far (p := ⟨gb276, 1, none⟩) (Kd.R_far (p := ⟨gb276, 0, none⟩) (Kd.R_types HO_286001.out BK276.out (by decide)) (fun _ hk => hk.2) (.int .i64 t278)) (fun _ hk => hk.2) (.slice Ao21 t279.length co21)) (fun _ hk => hk.2) (.slice Ao22 t282.length co22)) (fun _ hk => trivial), by (repeat apply Kd.SS); exact Kd.S_mono (Kd.S_far (p := ⟨gb276, 2, none⟩) (Kd.S_far (p := ⟨gb276, 1, none⟩) (Kd.S_far (p := ⟨gb276, 0, none⟩) (Kd.S_types HO_286002.out BK276.out (by decide)) (fun _ hk => hk.2) (.int .i64 t278)) (fun _ hk => hk.2) (.slice Ao21 t279.length co21)) (fun _ hk => hk.2) (.slice Ao22 t282.length co22)) (fun _ hk => hk.1), by repeat (with_reducible first | exact HB.out | apply bwX | refine bwS ?_ GE274.out | refine bwS ?_ GE275.out | refine bwS ?_ GE276.out | refine bwS ?_ GE285.out)⟩
       ·replace c54 := Bool.eq_false_iff.mpr c54
        subst c54
        rw [if_neg (show ¬ (false = true) by decide)] at H
        replace H := Option.bind_eq_some_iff.mp H
        obtain ⟨⟨t290, t291⟩, A620, H⟩ := H
        try dsimp only at H
        have A62 := Asd.mk A620
        clear A620
        have HC63 := Asd.mk H
        clear H
        have hnb64 := NB274_275.out
        have hnc64 := NB275_274.out
        have hnb65 := NB274_276.out
        have hnc65 := NB276_274.out
        have hnb66 := NB274_285.out
        have hnc66 := NB285_274.out
        have hcz67_0 : wc.cell? ⟨gb274, 0, none⟩ = some (.int .i64 a0_0) := (bkC BK274.out 0).trans rfl
        have hcz67_1 : wc.cell? ⟨gb274, 1, none⟩ = some (.slice A0_1 l0_1.length c0_1) := (bkC BK274.out 1).trans rfl
        have hcz67_2 : wc.cell? ⟨gb274, 2, none⟩ = some (.slice A0_2 l0_2.length c0_2) := (bkC BK274.out 2).trans rfl
        have hfz67_0 := bkF BK274.out 0
        have hfz67_1 := bkF BK274.out 1
        have hfz67_2 := bkF BK274.out 2
        have hnb68 := NB275_276.out
        have hnc68 := NB276_275.out
        have hnb69 := NB275_285.out
        have hnc69 := NB285_275.out
        have hcz70_0 : wc.cell? ⟨gb275, 0, none⟩ = some (.int .i64 a1_0) := (bkC BK275.out 0).trans rfl
        have hcz70_1 : wc.cell? ⟨gb275, 1, none⟩ = some (.string a1_1) := (bkC BK275.out 1).trans rfl
        have hfz70_0 := bkF BK275.out 0
        have hfz70_1 := bkF BK275.out 1
        go_upto_region 13 with (first | ((with_reducible refine gate_callee (f := 108) rfl ?_); refine gsM (some 68) rfl rfl Try.func108 (by kernel_rfl) rfl #[.int .i64 a0_0, .slice A0_1 l0_1.length c0_1, .int .i64 a1_0, .int .i64 t287] rfl ?_; (with_reducible refine (spec_ChangedBy.calls kj39 a0_0 _ _ l0_1 a1_0 t287 t290 t291 _ ?side1 ?side2 A62.out).mono ?_); (case side1 => repeat (first | exact (Kd.C_below HR0_1.out HB.out) | (with_reducible refine Kd.C_alloc ?_ _) | (with_reducible refine Kd.C_drewN ?_ _) | (with_reducible refine Kd.C_drew ?_))); (case side2 => exact HC0_1.out); rintro e w71 ⟨v292, rfl, ho0, hb⟩; refine ⟨_, rfl, ?_⟩; have n0_ := Asd.mk (Kd.R_elder' (by (repeat apply Kd.RS); exact HO_286001.out) (Kd.R_base ho0) hb); have n1_ := Asd.mk (Kd.S_elder' (by (repeat apply Kd.SS); exact HO_286002.out) (Kd.R_base ho0) hb); have n2_ := Asd.mk (Kd.R_lower (Kd.R_new' ho0 (Kd.R_lt (by (repeat apply Kd.RS); exact HO_286001.out))) (below_size (by repeat (with_reducible first | exact HB.out | apply bwX | refine bwS ?_ GE274.out | refine bwS ?_ GE275.out | refine bwS ?_ GE276.out | refine bwS ?_ GE285.out)))); have n3_ := Asd.mk (bkB (g := gb274) (o := .cells #[.int .i64 a0_0, .slice A0_1 l0_1.length c0_1, .slice A0_2 l0_2.length c0_2] 58 (0, 0)) (by (repeat apply bkS); exact BK274.out) hb); have n4_ := Asd.mk (bkB (g := gb275) (o := .cells #[.int .i64 a1_0, .string a1_1] 26 (0, 0)) (by (repeat apply bkS); exact BK275.out) hb); have n5_ := Asd.mk (bkB (g := gb276) (o := .cells #[.int .i64 0, .slice none 0 0, .slice none 0 0] 58 (0, 0)) (by (repeat apply bkS); exact BK276.out) hb); have n6_ := Asd.mk (bkB (g := gb285) (o := .cells #[.int .i64 t278, .slice Ao21 t279.length co21, .slice Ao22 t282.length co22] 58 (0, 0)) (by (repeat apply bkS); exact BK285.out) hb); have n7_ := Asd.mk (bwP (by repeat (with_reducible first | exact HB.out | apply bwX | refine bwS ?_ GE274.out | refine bwS ?_ GE275.out | refine bwS ?_ GE276.out | refine bwS ?_ GE285.out)) hb); clear HO_286001; clear HO_286002; clear BK274; clear BK275; clear BK276; clear BK285; clear HB; have HO_286001 := n0_; have HO_286002 := n1_; have HO293 := n2_; have BK274 := n3_; have BK275 := n4_; have BK276 := n5_; have BK285 := n6_; have HB := n7_; clear n0_ n1_ n2_ n3_ n4_ n5_ n6_ n7_; (try clear hb); (try clear hb2); (try clear hk); (try clear hi); (try clear ho0)))
        (try simp only [Act.put, qA, qB, qC])
        go_cut [80] (fun v80 wc => ∃ (kq : Nat) (x80_62 : Bool), v80 = .bool x80_62 ∧ Asd (spec_MindDo.j2 kq t290 x80_62 t278 t279 t282 = some (r1, r2, r3, r4)) ∧ Asd (kq ≤ kj39) ∧ Asd (Kd.R (Kd.int .i64) 3 wc w.heap.size (fun k_ => some k_ ≠ ((.slice Ao21 t279.length co21) : Value).ownBlock) v292 t290) ∧ Asd (Kd.R (Kd.int .i64) 3 wc w.heap.size (fun k_ => some k_ ≠ (v292 : Value).ownBlock) (.slice Ao21 t279.length co21) t279) ∧ Asd (Kd.S (Kd.slice 3 (Kd.int .i64)) 55 wc w.heap.size (fun k_ => some k_ ≠ (v292 : Value).ownBlock ∧ some k_ ≠ ((.slice Ao21 t279.length co21) : Value).ownBlock) (.slice Ao22 t282.length co22) t282) ∧ Asd (wc.heap[gb274]? = some (.cells #[.int .i64 a0_0, (.slice A0_1 l0_1.length c0_1), (.slice A0_2 l0_2.length c0_2)] 58 (0, 0))) ∧ Asd (wc.heap[gb275]? = some (.cells #[.int .i64 a1_0, .string a1_1] 26 (0, 0))) ∧ Asd (wc.heap[gb276]? = some (.cells #[.int .i64 0, (.slice none 0 0), (.slice none 0 0)] 58 (0, 0))) ∧ Asd (wc.heap[gb285]? = some (.cells #[.int .i64 t278, (.slice Ao21 t279.length co21), (.slice Ao22 t282.length co22)] 58 (0, 0))) ∧ Asd (Below w.heap.size w wc))
        case first =>
         have H := HC63.out
         clear HC63
         by_cases c72 : t291 = true
         ·subst c72
          rw [if_pos rfl] at H
          replace H := Option.bind_eq_some_iff.mp H
          obtain ⟨t294, A730, H⟩ := H
          try dsimp only at H
          have A73 := Asd.mk A730
          clear A730
          have H' := Asd.mk H
          clear H
          have hnb74 := NB274_275.out
          have hnc74 := NB275_274.out
          have hnb75 := NB274_276.out
          have hnc75 := NB276_274.out
          have hnb76 := NB274_285.out
          have hnc76 := NB285_274.out
          have hcz77_0 : w71.cell? ⟨gb274, 0, none⟩ = some (.int .i64 a0_0) := (bkC BK274.out 0).trans rfl
          have hcz77_1 : w71.cell? ⟨gb274, 1, none⟩ = some (.slice A0_1 l0_1.length c0_1) := (bkC BK274.out 1).trans rfl
          have hcz77_2 : w71.cell? ⟨gb274, 2, none⟩ = some (.slice A0_2 l0_2.length c0_2) := (bkC BK274.out 2).trans rfl
          have hfz77_0 := bkF BK274.out 0
          have hfz77_1 := bkF BK274.out 1
          have hfz77_2 := bkF BK274.out 2
          obtain ⟨Ao78, co78, eo78⟩ := Kd.R_slice HO293.out
          subst eo78
          go_wp2_with (first | (go_at_call 109; (with_reducible refine (spec_SameOrder.calls kj39 a0_0 _ _ t290 _ _ l0_1 t294 _ ?side1 ?side2 ?side3 ?side4 A73.out).mono ?_); (case side1 => repeat (first | exact (Kd.R_reads' HO293.out).2.2 | (with_reducible refine Kd.C_alloc ?_ _) | (with_reducible refine Kd.C_drewN ?_ _) | (with_reducible refine Kd.C_drew ?_))); (case side2 => exact (Kd.R_reads' HO293.out).2.1); (case side3 => repeat (first | exact (Kd.C_below HR0_1.out HB.out) | (with_reducible refine Kd.C_alloc ?_ _) | (with_reducible refine Kd.C_drewN ?_ _) | (with_reducible refine Kd.C_drew ?_))); (case side4 => exact HC0_1.out); rintro e w79 ⟨rfl, hb⟩; have n0_ := Asd.mk (Kd.R_below (by (repeat apply Kd.RS); exact HO_286001.out) hb); have n1_ := Asd.mk (Kd.S_below (by (repeat apply Kd.SS); exact HO_286002.out) hb); have n2_ := Asd.mk (Kd.R_below (by (repeat apply Kd.RS); exact HO293.out) hb); have n3_ := Asd.mk (bkB (g := gb274) (o := .cells #[.int .i64 a0_0, .slice A0_1 l0_1.length c0_1, .slice A0_2 l0_2.length c0_2] 58 (0, 0)) (by (repeat apply bkS); exact BK274.out) hb); have n4_ := Asd.mk (bkB (g := gb275) (o := .cells #[.int .i64 a1_0, .string a1_1] 26 (0, 0)) (by (repeat apply bkS); exact BK275.out) hb); have n5_ := Asd.mk (bkB (g := gb276) (o := .cells #[.int .i64 0, .slice none 0 0, .slice none 0 0] 58 (0, 0)) (by (repeat apply bkS); exact BK276.out) hb); have n6_ := Asd.mk (bkB (g := gb285) (o := .cells #[.int .i64 t278, .slice Ao21 t279.length co21, .slice Ao22 t282.length co22] 58 (0, 0)) (by (repeat apply bkS); exact BK285.out) hb); have n7_ := Asd.mk (bwP (by repeat (with_reducible first | exact HB.out | apply bwX | refine bwS ?_ GE274.out | refine bwS ?_ GE275.out | refine bwS ?_ GE276.out | refine bwS ?_ GE285.out)) hb); clear HO_286001; clear HO_286002; clear HO293; clear BK274; clear BK275; clear BK276; clear BK285; clear HB; have HO_286001 := n0_; have HO_286002 := n1_; have HO293 := n2_; have BK274 := n3_; have BK275 := n4_; have BK276 := n5_; have BK285 := n6_; have HB := n7_; clear n0_ n1_ n2_ n3_ n4_ n5_ n6_ n7_; (try clear hb); (try clear hb2); (try clear hk); (try clear hi)))
          go_meet
          case rel => exact ⟨_, (t294), (by first | rfl | (simp; done) | (simp [*]; done)), H', ⟨by have := HJ5.out; have := HJ39.out; first | omega | exact Nat.le_refl _⟩, ⟨by (repeat apply Kd.RS); exact Kd.R_mono HO293.out (fun _ hk => hk.2)⟩, ⟨by (repeat apply Kd.RS); exact Kd.R_mono HO_286001.out (fun _ hk => hk.2)⟩, ⟨by (repeat apply Kd.SS); exact Kd.S_mono HO_286002.out (fun _ hk => ⟨hk.2, hk.1⟩)⟩, ⟨by (repeat apply bkS); exact BK274.out⟩, ⟨by (repeat apply bkS); exact BK275.out⟩, ⟨by (repeat apply bkS); exact BK276.out⟩, ⟨by (repeat apply bkS); exact BK285.out⟩, ⟨by repeat (with_reducible first | exact HB.out | apply bwX | refine bwS ?_ GE274.out | refine bwS ?_ GE275.out | refine bwS ?_ GE276.out | refine bwS ?_ GE285.out)⟩⟩
         ·replace c72 := Bool.eq_false_iff.mpr c72
          subst c72
          rw [if_neg (show ¬ (false = true) by decide)] at H
          have H' := Asd.mk H
          clear H
          go_wp2
          go_meet
          case rel => exact ⟨_, (true), (by first | rfl | (simp; done) | (simp [*]; done)), H', ⟨by have := HJ5.out; have := HJ39.out; first | omega | exact Nat.le_refl _⟩, ⟨by (repeat apply Kd.RS); exact Kd.R_mono HO293.out (fun _ hk => hk.2)⟩, ⟨by (repeat apply Kd.RS); exact Kd.R_mono HO_286001.out (fun _ hk => hk.2)⟩, ⟨by (repeat apply Kd.SS); exact Kd.S_mono HO_286002.out (fun _ hk => ⟨hk.2, hk.1⟩)⟩, ⟨by (repeat apply bkS); exact BK274.out⟩, ⟨by (repeat apply bkS); exact BK275.out⟩, ⟨by (repeat apply bkS); exact BK276.out⟩, ⟨by (repeat apply bkS); exact BK285.out⟩, ⟨by repeat (with_reducible first | exact HB.out | apply bwX | refine bwS ?_ GE274.out | refine bwS ?_ GE275.out | refine bwS ?_ GE276.out | refine bwS ?_ GE285.out)⟩⟩
        case rest =>
         clear HC63
         obtain ⟨kq, x80_62, rfl, HA, HJ62, HO_10, HO_286001, HO_286002, BK274, BK275, BK276, BK285, HB⟩ := hcut
         cases kq with
         | zero => exact absurd HA.out (by simp [spec_MindDo.j2])
         | succ kj62 =>
          have H := HA.out
          clear HA
          simp only [spec_MindDo.j2] at H
          by_cases c80 : x80_62 = true
          ·subst c80
           rw [if_pos rfl] at H
           simp only [Option.some.injEq, Prod.mk.injEq] at H
           obtain ⟨rfl, rfl, rfl, rfl⟩ := H
           have hnb81 := NB285_274.out
           have hnc81 := NB274_285.out
           have hnb82 := NB285_275.out
           have hnc82 := NB275_285.out
           have hnb83 := NB285_276.out
           have hnc83 := NB276_285.out
           have hcz84_0 : wc.cell? ⟨gb285, 0, none⟩ = some (.int .i64 t278) := (bkC BK285.out 0).trans rfl
           have hcz84_1 : wc.cell? ⟨gb285, 1, none⟩ = some (.slice Ao21 t279.length co21) := (bkC BK285.out 1).trans rfl
           have hcz84_2 : wc.cell? ⟨gb285, 2, none⟩ = some (.slice Ao22 t282.length co22) := (bkC BK285.out 2).trans rfl
           have hfz84_0 := bkF BK285.out 0
           have hfz84_1 := bkF BK285.out 1
           have hfz84_2 := bkF BK285.out 2
           have hnb85 := NB276_274.out
           have hnc85 := NB274_276.out
           have hnb86 := NB276_275.out
           have hnc86 := NB275_276.out
           have hcz87_0 : wc.cell? ⟨gb276, 0, none⟩ = some (.int .i64 0) := (bkC BK276.out 0).trans rfl
           have hcz87_1 : wc.cell? ⟨gb276, 1, none⟩ = some (.slice none 0 0) := (bkC BK276.out 1).trans rfl
           have hcz87_2 : wc.cell? ⟨gb276, 2, none⟩ = some (.slice none 0 0) := (bkC BK276.out 2).trans rfl
           have hfz87_0 := bkF BK276.out 0
           have hfz87_1 := bkF BK276.out 1
           have hfz87_2 := bkF BK276.out 2
           go_wp2
           refine bodyPost_ret (results_ct rfl _ _ gb276 58 #[.int .i64 t278, .slice Ao21 t279.length co21, .slice Ao22 t282.length co22] (0, 0) _ rfl (by (repeat apply bkS); refine bkP (cs := #[.int .i64 t278, .slice Ao21 t279.length co21, .slice none 0 0]) ?_ 2 _ rfl; (repeat apply bkS); refine bkP (cs := #[.int .i64 t278, .slice none 0 0, .slice none 0 0]) ?_ 1 _ rfl; (repeat apply bkS); refine bkP (cs := #[.int .i64 0, .slice none 0 0, .slice none 0 0]) ?_ 0 _ rfl; (repeat apply bkS); exact BK276.out) Try.underlying58 rfl (by kernel_rfl)) rfl ?_
           exact ⟨_, _, by first | rfl | (simp [*, errW_none, errW_some] <;> rfl), by (repeat apply Kd.RS); exact Kd.R_mono (Kd.R_far (p := ⟨gb276, 2, none⟩) (Kd.R_far (p := ⟨gb276, 1, none⟩) (Kd.R_far (p := ⟨gb276, 0, none⟩) (Kd.R_types HO_286001.out BK276.out (by decide)) (fun _ hk => hk.2) (.int .i64 t278)) (fun _ hk => hk.2) (.slice Ao21 t279.length co21)) (fun _ hk => hk.2) (.slice Ao22 t282.length co22)) (fun _ hk => trivial), by (repeat apply Kd.SS); exact Kd.S_mono (Kd.S_far (p := ⟨gb276, 2, none⟩) (Kd.S_far (p := ⟨gb276, 1, none⟩) (Kd.S_far (p := ⟨gb276, 0, none⟩) (Kd.S_types HO_286002.out BK276.out (by decide)) (fun _ hk => hk.2) (.int .i64 t278)) (fun _ hk => hk.2) (.slice Ao21 t279.length co21)) (fun _ hk => hk.2) (.slice Ao22 t282.length co22)) (fun _ hk => hk.1.2), by repeat (with_reducible first | exact HB.out | apply bwX | refine bwS ?_ GE274.out | refine bwS ?_ GE275.out | refine bwS ?_ GE276.out | refine bwS ?_ GE285.out)⟩
          ·replace c80 := Bool.eq_false_iff.mpr c80
           subst c80
           rw [if_neg (show ¬ (false = true) by decide)] at H
           by_cases c88 : t282.length < 5864062014805; rotate_left; (rw [if_neg c88] at H; exact absurd H (by simp))
           rw [if_pos c88] at H
           have LMc88 := Asd.mk c88
           clear c88
           obtain ⟨y295, hy295⟩ : ∃ y_ : List (List Int), y_ = (t282 ++ [t279]) := ⟨_, rfl⟩
           replace H : (if (y295.length : Int) > 10 then (none) else (some (t278, t290, y295, true))) = some (r1, r2, r3, r4) := by first | (rw [hy295]; with_reducible exact H) | (have H2_ := (Option.bind_some _ _).symm.trans H; rw [hy295]; with_reducible exact H2_) | (have H2_ := (Option.bind_some _ _).symm.trans H; with_reducible exact H2_) | with_reducible exact H | (rw [hy295]; exact H) | exact H
           have Ny295 := Asd.mk hy295
           clear hy295
           by_cases c89 : (y295.length : Int) > 10
           ·rw [if_pos c89] at H
            have c89b0 : decide (10 < (y295.length : Int)) = true := decide_eq_true c89
            have c89b1 : decide (10 < y295.length) = true := decide_eq_true (by omega)
            clear c89
            exact absurd H (by simp)
           ·rw [if_neg c89] at H
            have c89b0 : decide (10 < (y295.length : Int)) = false := decide_eq_false c89
            have c89b1 : decide (10 < y295.length) = false := decide_eq_false (by omega)
            clear c89
            simp only [Option.some.injEq, Prod.mk.injEq] at H
            obtain ⟨rfl, rfl, rfl, rfl⟩ := H
            have hnb90 := NB285_274.out
            have hnc90 := NB274_285.out
            have hnb91 := NB285_275.out
            have hnc91 := NB275_285.out
            have hnb92 := NB285_276.out
            have hnc92 := NB276_285.out
            have hcz93_0 : wc.cell? ⟨gb285, 0, none⟩ = some (.int .i64 t278) := (bkC BK285.out 0).trans rfl
            have hcz93_1 : wc.cell? ⟨gb285, 1, none⟩ = some (.slice Ao21 t279.length co21) := (bkC BK285.out 1).trans rfl
            have hcz93_2 : wc.cell? ⟨gb285, 2, none⟩ = some (.slice Ao22 t282.length co22) := (bkC BK285.out 2).trans rfl
            have hfz93_0 := bkF BK285.out 0
            have hfz93_1 := bkF BK285.out 1
            have hfz93_2 := bkF BK285.out 2
            go_wp2_with (first | ((with_reducible refine gate_builtin (b := .append) (xs := #[.tmp 83, .tmp 86]) rfl ?_); (try (refine gate_guard (by rfl) ?_; dsimp only)); at_builtin; refine Kd.S_append (Kd.slice 3 (Kd.int .i64)) (w0 := w) w.heap.size rfl (.tmp 83) (.tmp 86) 56 55 (.slice none 0 0) 24 rfl Try.underlying56 info55 rfl (by decide) (by omega) (.slice Ao22 t282.length co22) t282 t279 [.slice Ao21 t279.length co21] (fun k_ => some k_ ≠ (v292 : Value).ownBlock) (fun k_ => some k_ = (.slice Ao21 t279.length co21 : Value).ownBlock) rfl rfl ?aP (fun k_ hk_ => ((Kd.R_mono (ok' := fun k_ => ((fun k_ => some k_ ≠ (v292 : Value).ownBlock)) k_ ∧ some k_ ≠ (.slice Ao22 t282.length co22 : Value).ownBlock) (Kd.R_apart' (HO_286001.out) (Kd.S_typed HO_286002.out) (by decide)) (fun k_ hk => ⟨hk.1, hk.2⟩))).1 k_ hk_.symm) ?aF ?aO ?aB ?aS ?aL ?_; (case aP => exact Kd.M_row (Kd.R_mono (Kd.R_tight rfl (Kd.R_mono (ok' := fun k_ => ((fun k_ => some k_ ≠ (v292 : Value).ownBlock)) k_ ∧ some k_ ≠ (.slice Ao22 t282.length co22 : Value).ownBlock) (Kd.R_apart' (HO_286001.out) (Kd.S_typed HO_286002.out) (by decide)) (fun k_ hk => ⟨hk.1, hk.2⟩))) (fun _ h_ => h_))); (case aB => exact (by repeat (with_reducible first | exact HB.out | apply bwX | refine bwS ?_ GE274.out | refine bwS ?_ GE275.out | refine bwS ?_ GE276.out | refine bwS ?_ GE285.out))); (case aF => exact (fun k_ hk => Kd.fresh' (Kd.R_lt (by (repeat apply Kd.RS); exact HO_10.out)) k_ hk)); (case aO => exact (by (repeat apply Kd.SS); exact Kd.S_mono HO_286002.out (fun k_ hk => ⟨hk.1, fun e_ => hk.2 e_⟩))); (case aS => exact (below_size (by repeat (with_reducible first | exact HB.out | apply bwX | refine bwS ?_ GE274.out | refine bwS ?_ GE275.out | refine bwS ?_ GE276.out | refine bwS ?_ GE285.out)))); (case aL => have := LMc88.out; omega); intro v296 w94 ho hb hg hat; rw [← Ny295.out] at ho; have n0_ := Asd.mk (Kd.R_over' (by (repeat apply Kd.RS); exact HO_10.out) (Kd.S_typed (by (repeat apply Kd.SS); exact HO_286002.out)) (by decide) hg); have n1_ := Asd.mk (blk_grown (g := gb274) (o := .cells #[.int .i64 a0_0, .slice A0_1 l0_1.length c0_1, .slice A0_2 l0_2.length c0_2] 58 (0, 0)) (by (repeat apply bkS); exact BK274.out) hg (Kd.S_ne HO_286002.out BK274.out (by decide))); have n2_ := Asd.mk (blk_grown (g := gb275) (o := .cells #[.int .i64 a1_0, .string a1_1] 26 (0, 0)) (by (repeat apply bkS); exact BK275.out) hg (Kd.S_ne HO_286002.out BK275.out (by decide))); have n3_ := Asd.mk (blk_grown (g := gb276) (o := .cells #[.int .i64 0, .slice none 0 0, .slice none 0 0] 58 (0, 0)) (by (repeat apply bkS); exact BK276.out) hg (Kd.S_ne HO_286002.out BK276.out (by decide))); have n4_ := Asd.mk (blk_grown (g := gb285) (o := .cells #[.int .i64 t278, .slice Ao21 t279.length co21, .slice Ao22 t282.length co22] 58 (0, 0)) (by (repeat apply bkS); exact BK285.out) hg (Kd.S_ne HO_286002.out BK285.out (by decide))); have n5_ := Asd.mk (hb); have n6_ := Asd.mk (ho); clear HO_10; clear BK274; clear BK275; clear BK276; clear BK285; clear HB; clear HO_286002; clear HO_286001; have HO_10 := n0_; have BK274 := n1_; have BK275 := n2_; have BK276 := n3_; have BK285 := n4_; have HB := n5_; have HO297 := n6_; clear n0_ n1_ n2_ n3_ n4_ n5_ n6_; clear ho hb hg hat; obtain ⟨Ao95, co95, eo95⟩ := Kd.S_slice HO297.out; subst eo95; have hcz96_0 : w94.cell? ⟨gb285, 0, none⟩ = some (.int .i64 t278) := (bkC BK285.out 0).trans rfl; have hcz96_1 : w94.cell? ⟨gb285, 1, none⟩ = some (.slice Ao21 t279.length co21) := (bkC BK285.out 1).trans rfl; have hcz96_2 : w94.cell? ⟨gb285, 2, none⟩ = some (.slice Ao22 t282.length co22) := (bkC BK285.out 2).trans rfl; have hfz96_0 := bkF BK285.out 0; have hfz96_1 := bkF BK285.out 1; have hfz96_2 := bkF BK285.out 2; obtain ⟨Ao97, co97, eo97⟩ := Kd.R_slice HO_10.out; subst eo97; have hnb98 := NB276_274.out; have hnc98 := NB274_276.out; have hnb99 := NB276_275.out; have hnc99 := NB275_276.out; have hcz100_0 : w94.cell? ⟨gb276, 0, none⟩ = some (.int .i64 0) := (bkC BK276.out 0).trans rfl; have hcz100_1 : w94.cell? ⟨gb276, 1, none⟩ = some (.slice none 0 0) := (bkC BK276.out 1).trans rfl; have hcz100_2 : w94.cell? ⟨gb276, 2, none⟩ = some (.slice none 0 0) := (bkC BK276.out 2).trans rfl; have hfz100_0 := bkF BK276.out 0; have hfz100_1 := bkF BK276.out 1; have hfz100_2 := bkF BK276.out 2))
            refine bodyPost_ret (results_ct rfl _ _ gb276 58 #[.int .i64 t278, .slice Ao97 t290.length co97, .slice Ao95 y295.length co95] (0, 0) _ rfl (by (repeat apply bkS); refine bkP (cs := #[.int .i64 t278, .slice Ao97 t290.length co97, .slice none 0 0]) ?_ 2 _ rfl; (repeat apply bkS); refine bkP (cs := #[.int .i64 t278, .slice none 0 0, .slice none 0 0]) ?_ 1 _ rfl; (repeat apply bkS); refine bkP (cs := #[.int .i64 0, .slice none 0 0, .slice none 0 0]) ?_ 0 _ rfl; (repeat apply bkS); refine bkR ?_ NB276_285.out _; (repeat apply bkS); refine bkR ?_ NB276_285.out _; (repeat apply bkS); exact BK276.out) Try.underlying58 rfl (by kernel_rfl)) rfl ?_
            exact ⟨_, _, by first | rfl | (simp [*, errW_none, errW_some] <;> rfl), by (repeat apply Kd.RS); exact Kd.R_mono (Kd.R_far (p := ⟨gb276, 2, none⟩) (Kd.R_far (p := ⟨gb276, 1, none⟩) (Kd.R_far (p := ⟨gb276, 0, none⟩) (Kd.R_far (p := ⟨gb285, 1, none⟩) (Kd.R_far (p := ⟨gb285, 2, none⟩) (Kd.R_types (Kd.R_types HO_10.out BK285.out (by decide)) BK276.out (by decide)) (fun _ hk => hk.1.2) (.slice Ao95 y295.length co95)) (fun _ hk => hk.1.2) (.slice Ao97 t290.length co97)) (fun _ hk => hk.2) (.int .i64 t278)) (fun _ hk => hk.2) (.slice Ao97 t290.length co97)) (fun _ hk => hk.2) (.slice Ao95 y295.length co95)) (fun _ hk => trivial), by (repeat apply Kd.SS); exact Kd.S_mono (Kd.S_far (p := ⟨gb276, 2, none⟩) (Kd.S_far (p := ⟨gb276, 1, none⟩) (Kd.S_far (p := ⟨gb276, 0, none⟩) (Kd.S_far (p := ⟨gb285, 1, none⟩) (Kd.S_far (p := ⟨gb285, 2, none⟩) (Kd.S_types (Kd.S_types HO297.out BK285.out (by decide)) BK276.out (by decide)) (fun _ hk => hk.1.2) (.slice Ao95 y295.length co95)) (fun _ hk => hk.1.2) (.slice Ao97 t290.length co97)) (fun _ hk => hk.2) (.int .i64 t278)) (fun _ hk => hk.2) (.slice Ao97 t290.length co97)) (fun _ hk => hk.2) (.slice Ao95 y295.length co95)) (fun _ hk => hk.1.1), by repeat (with_reducible first | exact HB.out | apply bwX | refine bwS ?_ GE274.out | refine bwS ?_ GE275.out | refine bwS ?_ GE276.out | refine bwS ?_ GE285.out)⟩
 ·replace c4 := Bool.eq_false_iff.mpr c4
  subst c4
  rw [if_neg (show ¬ (false = true) by decide)] at H
  simp only [Option.some.injEq, Prod.mk.injEq] at H
  obtain ⟨rfl, rfl, rfl, rfl⟩ := H
  go_enter Try.func63, Try.ntmps63
  go_wp2_with (first | ((with_reducible refine gate_dst (N := 2) rfl ?_); (try (refine gate_guard (by rfl) ?_; dsimp only)); refine bxE ?hg (N := 2) ?hd (cs := #[.int .i64 a0_0, .slice A0_1 l0_1.length c0_1, .slice A0_2 l0_2.length c0_2]) (t := 58) ?hr ?_; (case hd => rfl); (case hg => rfl); (case hr => first | (go_simp; done) | (go_simp; rfl)); intro gb274 hg w101 hbox hb; have n0_ := Asd.mk (bwP (by repeat (with_reducible first | exact HB.out | apply bwX)) hb); have n1_ := Asd.mk (hbox); have n2_ := Asd.mk ((by rw [hg]; exact (below_size (by repeat (with_reducible first | exact HB.out | apply bwX))) : w.heap.size ≤ gb274)); have n3_ := Asd.mk ((by rw [hg]; exact (below_size (by repeat (with_reducible first | exact HB.out | apply bwX))) : w.heap.size ≤ gb274)); clear HB; have HB := n0_; have BK274 := n1_; have GW274 := n2_; have GE274 := n3_; clear n0_ n1_ n2_ n3_; clear hb hbox hg) | ((with_reducible refine gate_dst (N := 3) rfl ?_); (try (refine gate_guard (by rfl) ?_; dsimp only)); refine bxE ?hg (N := 3) ?hd (cs := #[.int .i64 a1_0, .string a1_1]) (t := 26) ?hr ?_; (case hd => rfl); (case hg => rfl); (case hr => first | (go_simp; done) | (go_simp; rfl)); intro gb275 hg w102 hbox hb; have n0_ := Asd.mk (bkB (g := gb274) (o := .cells #[.int .i64 a0_0, .slice A0_1 l0_1.length c0_1, .slice A0_2 l0_2.length c0_2] 58 (0, 0)) (by (repeat apply bkS); exact BK274.out) hb); have n1_ := Asd.mk (bwP (by repeat (with_reducible first | exact HB.out | apply bwX | refine bwS ?_ GE274.out)) hb); have n2_ := Asd.mk (hbox); have n3_ := Asd.mk ((by rw [hg]; exact (below_size (by repeat (with_reducible first | exact HB.out | apply bwX | refine bwS ?_ GE274.out))) : w.heap.size ≤ gb275)); have n4_ := Asd.mk ((by rw [hg]; exact (below_size (by repeat (with_reducible first | exact HB.out | apply bwX | refine bwS ?_ GE274.out))) : w.heap.size ≤ gb275)); have n5_ := Asd.mk ((by rw [hg]; exact Nat.ne_of_lt (bkL (g := gb274) (o := .cells #[.int .i64 a0_0, .slice A0_1 l0_1.length c0_1, .slice A0_2 l0_2.length c0_2] 58 (0, 0)) (by (repeat apply bkS); exact BK274.out)) : gb274 ≠ gb275)); have n6_ := Asd.mk ((by rw [hg]; exact Nat.ne_of_gt (bkL (g := gb274) (o := .cells #[.int .i64 a0_0, .slice A0_1 l0_1.length c0_1, .slice A0_2 l0_2.length c0_2] 58 (0, 0)) (by (repeat apply bkS); exact BK274.out)) : gb275 ≠ gb274)); clear BK274; clear HB; have BK274 := n0_; have HB := n1_; have BK275 := n2_; have GW275 := n3_; have GE275 := n4_; have NB274_275 := n5_; have NB275_274 := n6_; clear n0_ n1_ n2_ n3_ n4_ n5_ n6_; clear hb hbox hg) | ((with_reducible refine gate_dst (N := 4) rfl ?_); (try (refine gate_guard (by rfl) ?_; dsimp only)); refine bxE ?hg (N := 4) ?hd (cs := #[.int .i64 0, .slice none 0 0, .slice none 0 0]) (t := 58) ?hr ?_; (case hd => rfl); (case hg => rfl); (case hr => first | (go_simp; done) | (go_simp; rfl)); intro gb276 hg w103 hbox hb; have n0_ := Asd.mk (bkB (g := gb274) (o := .cells #[.int .i64 a0_0, .slice A0_1 l0_1.length c0_1, .slice A0_2 l0_2.length c0_2] 58 (0, 0)) (by (repeat apply bkS); exact BK274.out) hb); have n1_ := Asd.mk (bkB (g := gb275) (o := .cells #[.int .i64 a1_0, .string a1_1] 26 (0, 0)) (by (repeat apply bkS); exact BK275.out) hb); have n2_ := Asd.mk (bwP (by repeat (with_reducible first | exact HB.out | apply bwX | refine bwS ?_ GE274.out | refine bwS ?_ GE275.out)) hb); have n3_ := Asd.mk (hbox); have n4_ := Asd.mk ((by rw [hg]; exact (below_size (by repeat (with_reducible first | exact HB.out | apply bwX | refine bwS ?_ GE274.out | refine bwS ?_ GE275.out))) : w.heap.size ≤ gb276)); have n5_ := Asd.mk ((by rw [hg]; exact (below_size (by repeat (with_reducible first | exact HB.out | apply bwX | refine bwS ?_ GE274.out | refine bwS ?_ GE275.out))) : w.heap.size ≤ gb276)); have n6_ := Asd.mk ((by rw [hg]; exact Nat.ne_of_lt (bkL (g := gb274) (o := .cells #[.int .i64 a0_0, .slice A0_1 l0_1.length c0_1, .slice A0_2 l0_2.length c0_2] 58 (0, 0)) (by (repeat apply bkS); exact BK274.out)) : gb274 ≠ gb276)); have n7_ := Asd.mk ((by rw [hg]; exact Nat.ne_of_gt (bkL (g := gb274) (o := .cells #[.int .i64 a0_0, .slice A0_1 l0_1.length c0_1, .slice A0_2 l0_2.length c0_2] 58 (0, 0)) (by (repeat apply bkS); exact BK274.out)) : gb276 ≠ gb274)); have n8_ := Asd.mk ((by rw [hg]; exact Nat.ne_of_lt (bkL (g := gb275) (o := .cells #[.int .i64 a1_0, .string a1_1] 26 (0, 0)) (by (repeat apply bkS); exact BK275.out)) : gb275 ≠ gb276)); have n9_ := Asd.mk ((by rw [hg]; exact Nat.ne_of_gt (bkL (g := gb275) (o := .cells #[.int .i64 a1_0, .string a1_1] 26 (0, 0)) (by (repeat apply bkS); exact BK275.out)) : gb276 ≠ gb275)); clear BK274; clear BK275; clear HB; have BK274 := n0_; have BK275 := n1_; have HB := n2_; have BK276 := n3_; have GW276 := n4_; have GE276 := n5_; have NB274_276 := n6_; have NB276_274 := n7_; have NB275_276 := n8_; have NB276_275 := n9_; clear n0_ n1_ n2_ n3_ n4_ n5_ n6_ n7_ n8_ n9_; clear hb hbox hg; have hnb104 := NB274_275.out; have hnc104 := NB275_274.out; have hnb105 := NB274_276.out; have hnc105 := NB276_274.out; have hcz106_0 : w103.cell? ⟨gb274, 0, none⟩ = some (.int .i64 a0_0) := (bkC BK274.out 0).trans rfl; have hcz106_1 : w103.cell? ⟨gb274, 1, none⟩ = some (.slice A0_1 l0_1.length c0_1) := (bkC BK274.out 1).trans rfl; have hcz106_2 : w103.cell? ⟨gb274, 2, none⟩ = some (.slice A0_2 l0_2.length c0_2) := (bkC BK274.out 2).trans rfl; have hfz106_0 := bkF BK274.out 0; have hfz106_1 := bkF BK274.out 1; have hfz106_2 := bkF BK274.out 2) | ((with_reducible refine gate_callee (f := 52) rfl ?_); refine gsM (some 13) rfl rfl Try.func52 (by kernel_rfl) rfl #[.agg #[.int .i64 a0_0, .slice A0_1 l0_1.length c0_1, .slice A0_2 l0_2.length c0_2]] rfl ?_; (with_reducible refine (spec_MindValid.calls k a0_0 _ _ l0_1 _ _ l0_2 false _ ?side1 ?side2 ?side3 ?side4 A3.out).mono ?_); (case side1 => repeat (first | exact (Kd.C_below HR0_1.out HB.out) | (with_reducible refine Kd.C_alloc ?_ _) | (with_reducible refine Kd.C_drewN ?_ _) | (with_reducible refine Kd.C_drew ?_))); (case side2 => exact HC0_1.out); (case side3 => repeat (first | exact (Kd.C_below HR0_2.out HB.out) | (with_reducible refine Kd.C_alloc ?_ _) | (with_reducible refine Kd.C_drewN ?_ _) | (with_reducible refine Kd.C_drew ?_))); (case side4 => exact HC0_2.out); rintro e w107 ⟨rfl, hb⟩; refine ⟨_, rfl, ?_⟩; have n0_ := Asd.mk (bkB (g := gb274) (o := .cells #[.int .i64 a0_0, .slice A0_1 l0_1.length c0_1, .slice A0_2 l0_2.length c0_2] 58 (0, 0)) (by (repeat apply bkS); exact BK274.out) hb); have n1_ := Asd.mk (bkB (g := gb275) (o := .cells #[.int .i64 a1_0, .string a1_1] 26 (0, 0)) (by (repeat apply bkS); exact BK275.out) hb); have n2_ := Asd.mk (bkB (g := gb276) (o := .cells #[.int .i64 0, .slice none 0 0, .slice none 0 0] 58 (0, 0)) (by (repeat apply bkS); exact BK276.out) hb); have n3_ := Asd.mk (bwP (by repeat (with_reducible first | exact HB.out | apply bwX | refine bwS ?_ GE274.out | refine bwS ?_ GE275.out | refine bwS ?_ GE276.out)) hb); clear BK274; clear BK275; clear BK276; clear HB; have BK274 := n0_; have BK275 := n1_; have BK276 := n2_; have HB := n3_; clear n0_ n1_ n2_ n3_; (try clear hb); (try clear hb2); (try clear hk); (try clear hi); have hnb108 := NB276_275.out; have hnc108 := NB275_276.out; have hcz109_0 : w107.cell? ⟨gb276, 0, none⟩ = some (.int .i64 0) := (bkC BK276.out 0).trans rfl; have hcz109_1 : w107.cell? ⟨gb276, 1, none⟩ = some (.slice none 0 0) := (bkC BK276.out 1).trans rfl; have hcz109_2 : w107.cell? ⟨gb276, 2, none⟩ = some (.slice none 0 0) := (bkC BK276.out 2).trans rfl; have hfz109_0 := bkF BK276.out 0; have hfz109_1 := bkF BK276.out 1; have hfz109_2 := bkF BK276.out 2))
  refine bodyPost_ret (results_ct rfl _ _ gb276 58 #[.int .i64 0, .slice none 0 0, .slice none 0 0] (0, 0) _ rfl (by (repeat apply bkS); refine bkP (cs := #[.int .i64 0, .slice none 0 0, .slice none 0 0]) ?_ 2 _ rfl; (repeat apply bkS); refine bkP (cs := #[.int .i64 0, .slice none 0 0, .slice none 0 0]) ?_ 1 _ rfl; (repeat apply bkS); refine bkP (cs := #[.int .i64 0, .slice none 0 0, .slice none 0 0]) ?_ 0 _ rfl; (repeat apply bkS); exact BK276.out) Try.underlying58 rfl (by kernel_rfl)) rfl ?_
  exact ⟨_, _, by first | rfl | (simp [*, errW_none, errW_some] <;> rfl), by first | exact Kd.R_nil _ _ _ _ _ | exact Kd.N_nil _ _ _ _ _ | exact Kd.V_nil _ _ _ _ _ | exact Kd.Q_nil _ _ _ _ _ | exact Kd.S_nil _ _ _ _ _, by first | exact Kd.S_nil _ _ _ _ _ | exact Kd.N_nil _ _ _ _ _ | exact Kd.V_nil _ _ _ _ _ | exact Kd.Q_nil _ _ _ _ _ | exact Kd.R_nil _ _ _ _ _, by repeat (with_reducible first | exact HB.out | apply bwX | refine bwS ?_ GE274.out | refine bwS ?_ GE275.out | refine bwS ?_ GE276.out)⟩

end Go.Proofs.Ytihgpkohglcijaa.P
