-- Written by a program of this session (wip/hook.py), which runs the kit's printer; Lean checks it.
import Derived.Test.YtihgpkohglcijaaPx0
import Derived.Test.YtihgpkohglcijaaPx4
import Derived.Test.YtihgpkohglcijaaPx5
namespace Go.Proofs.Ytihgpkohglcijaa.P
open Go.RowKit Go.Proofs.YtihgpkohglcijaaW.PrintWords Go.Proofs.YtihgpkohglcijaaW.PrintLast Go.Proofs.YtihgpkohglcijaaW.PrintMore
attribute [local go_sem] max2_int min2_int max_two min_two max_three min_three max_four min_four   -- for this text's walks alone
set_option linter.unusedVariables false
set_option linter.unusedSimpArgs false

/-! ### impl_isTidy: function 128 -/
def impl_isTidy.f (k : Nat) (a0 : Int) (l1 : List Int) : Option (Bool) := (impl_isRank.f k a0 l1).bind fun t211 => (if t211 = true then ((impl_tidy.f k l1).bind fun t212 => ((slices_Equal_int_int.f k t212 l1).bind fun t215 => (some t215))) else (some false))
theorem impl_isTidy.mono : ∀ a0 a1 k, LeO (impl_isTidy.f k a0 a1) (impl_isTidy.f (k + 1) a0 a1) := by
 intro a0 a1 k
 unfold impl_isTidy.f
 repeat' first
   | (with_reducible first | exact impl_isRank.mono _ _ _ | exact impl_tidy.mono _ _ | exact slices_Equal_int_int.mono _ _ _ | exact LeO.refl _ | exact LeO.none _ | refine LeO.ite ?_ ?_ | refine LeO.bind ?_ (fun _ => ?_))
   | refine LeO.ite ?_ ?_
   | refine LeO.bind ?_ (fun _ => ?_)
set_option maxHeartbeats 8000000 in
set_option maxRecDepth 100000 in
theorem impl_isTidy.calls (k : Nat) (a0 : Int) (A1 : Option Addr) (c1 : Nat) (l1 : List Int) (r : Bool) (w : World) (hr1 : Kd.C (Kd.int .i64) w A1 l1.length l1) (hc1 : l1.length ≤ c1) (h : impl_isTidy.f k a0 l1 = some r) :
  Calls Try.prog 128 #[.int .i64 a0, .slice A1 l1.length c1] w fun e w' => e = .returned (.bool r) ∧ Below w.heap.size w w' := by
 have HR1 := Asd.mk hr1
 have HC1 := Asd.mk hc1
 clear hr1 hc1
 have HB := Asd.mk (Below.refl w.heap.size w)
 have H : ((impl_isRank.f k a0 l1).bind fun t211 => (if t211 = true then ((impl_tidy.f k l1).bind fun t212 => ((slices_Equal_int_int.f k t212 l1).bind fun t215 => (some t215))) else (some false))) = some r := h
 clear h
 replace H := Option.bind_eq_some_iff.mp H
 obtain ⟨t211, A30, H⟩ := H
 try dsimp only at H
 have A3 := Asd.mk A30
 clear A30
 by_cases c4 : t211 = true
 ·subst c4
  rw [if_pos rfl] at H
  replace H := Option.bind_eq_some_iff.mp H
  obtain ⟨t212, A50, H⟩ := H
  try dsimp only at H
  have A5 := Asd.mk A50
  clear A50
  replace H := Option.bind_eq_some_iff.mp H
  obtain ⟨t215, A60, H⟩ := H
  try dsimp only at H
  have A6 := Asd.mk A60
  clear A60
  obtain rfl := Option.some.inj H
  go_enter Try.func128, Try.ntmps128
  go_wp2_with (first | ((with_reducible refine gate_callee (f := 90) rfl ?_); refine gsM (some 7) rfl rfl Try.func90 (by kernel_rfl) rfl #[.int .i64 a0, .slice A1 l1.length c1] rfl ?_; (with_reducible refine (impl_isRank.calls k a0 _ _ l1 true _ ?side1 ?side2 A3.out).mono ?_); (case side1 => exact cZ HR1.out); (case side2 => exact HC1.out); rintro e w7 ⟨rfl, hb⟩; refine ⟨_, rfl, ?_⟩; replace HB := bW HB hb; (try clear hb); (try clear hb2); (try clear hk); (try clear hi)) | (go_at_call 91; (with_reducible refine (impl_tidy.calls k _ _ l1 t212 _ ?side1 ?side2 A5.out).mono ?_); (case side1 => exact cZ (Kd.C_below HR1.out HB.out)); (case side2 => exact HC1.out); rintro e w8 ⟨v213, rfl, ho0, hb⟩; have HO214 := Asd.mk (Kd.R_lower ho0 (below_size (wZ HB))); replace HB := bW HB hb; (try clear hb); (try clear hb2); (try clear hk); (try clear hi); (try clear ho0); obtain ⟨Ao9, co9, eo9⟩ := Kd.R_slice HO214.out; subst eo9) | (go_at_call 106; (with_reducible refine (slices_Equal_int_int.calls k _ _ t212 _ _ l1 t215 _ ?side1 ?side2 ?side3 ?side4 A6.out).mono ?_); (case side1 => exact cZ (Kd.R_reads' HO214.out).2.2); (case side2 => exact (Kd.R_reads' HO214.out).2.1); (case side3 => exact cZ (Kd.C_below HR1.out HB.out)); (case side4 => exact HC1.out); rintro e w' ⟨rfl, ⟨nd, rfl⟩⟩))
  go_ret
  exact ⟨by first | rfl | (simp [*, errW_none, errW_some] <;> rfl), wZ HB⟩
 ·replace c4 := Bool.eq_false_iff.mpr c4
  subst c4
  rw [if_neg (show ¬ (false = true) by decide)] at H
  obtain rfl := Option.some.inj H
  go_enter Try.func128, Try.ntmps128
  go_wp2_with (first | ((with_reducible refine gate_callee (f := 90) rfl ?_); refine gsM (some 7) rfl rfl Try.func90 (by kernel_rfl) rfl #[.int .i64 a0, .slice A1 l1.length c1] rfl ?_; (with_reducible refine (impl_isRank.calls k a0 _ _ l1 false _ ?side1 ?side2 A3.out).mono ?_); (case side1 => exact cZ HR1.out); (case side2 => exact HC1.out); rintro e w10 ⟨rfl, hb⟩; refine ⟨_, rfl, ?_⟩; replace HB := bW HB hb; (try clear hb); (try clear hb2); (try clear hk); (try clear hi)))
  go_ret
  exact ⟨by first | rfl | (simp [*, errW_none, errW_some] <;> rfl), wZ HB⟩

/-! ### slices_IndexFunc_int_int: function 145 (by hand) -/
/-- Called at a row of numbers, in every world in which all that lay in w lies, the function value answers what p says, where p says something. -/
def GivesR (g : Nat) (lb : Array Value) (p : List Int → Option Bool) (w : World) : Prop :=
 ∀ (W : World) (A : Option Addr) (c : Nat) (l : List Int) (b : Bool), Below w.heap.size w W → Kd.C (Kd.int .i64) W A l.length l → l.length ≤ c → p l = some b →
  Calls Try.prog g (#[.slice A l.length c] ++ lb) W fun e w' => e = .returned (.bool b) ∧ Below W.heap.size W w'
theorem at_row {w : World} {A : Option Addr} {n : Nat} {xs : List (List Int)} (h : Kd.C (Kd.slice 3 (Kd.int .i64)) w A n xs) (i : Int) (h0 : 0 ≤ i) (h1 : i < n) :
  ∃ ad A0 c0, A = some ad ∧ w.cell? (ad.add i.toNat) = some (.slice A0 (xs.getD i.toNat []).length c0) ∧ (xs.getD i.toNat []).length ≤ c0 ∧ Kd.C (Kd.int .i64) w A0 (xs.getD i.toNat []).length (xs.getD i.toNat []) := by
 obtain ⟨ad, c, e, _, hK, hc0⟩ := Kd.C_get h ([] : List Int) i h0 h1
 have hc : ∀ j u, c[j]? = some u → w.cell? (ad.add (i.toNat * 1 + j)) = some u := hc0
 obtain ⟨A0, c0, rfl, l0, g0⟩ := hK
 exact ⟨ad, A0, c0, e, by have hq := hc 0 _ rfl; rwa [Nat.mul_one, Nat.add_zero] at hq, l0, g0⟩
theorem idxR_step {p : List Int → Option Bool} {l : List (List Int)} {x : Int} (h0 : 0 ≤ x) (h1 : x < (l.length : Int)) :
  Hof.idxL p (l.drop x.toNat) x = (p (l.getD x.toNat [])).bind fun b => if b = true then some x else Hof.idxL p (l.drop (x + 1).toNat) (x + 1) := by
 have hl : x.toNat < l.length := by omega
 rw [List.drop_eq_getElem_cons hl, show (x + 1).toNat = x.toNat + 1 from by omega, List.getD_eq_getElem?_getD, List.getElem?_eq_getElem hl]
 rfl
set_option maxHeartbeats 2000000 in
theorem IndexFuncR_calls (g : Nat) (lb : Array Value) (eg : ∀ args w, (callFunc g args).run Try.prog w = .ok (.enter g args) w) (p : List Int → Option Bool)
  (A : Option Addr) (c : Nat) (l : List (List Int)) (r : Int) (w : World) (hr : Kd.C (Kd.slice 3 (Kd.int .i64)) w A l.length l) (hp : GivesR g lb p w) (h : Hof.idxL p l 0 = some r) :
  Calls Try.prog 145 #[.slice A l.length c, .func (.func g) #[] lb] w fun e w' => e = .returned (.int .i64 r) ∧ Below w.heap.size w w' := by
 have HR := Asd.mk hr
 have HP := Asd.mk hp
 have HH : Asd (Hof.idxL p (l.drop (0 : Int).toNat) 0 = some r) := Asd.mk h
 have hlen : (l.length : Int) ≤ 9223372036854775807 := by have := hr.2.1; omega
 clear hr hp h
 go_enter Try.func145, Try.ntmps145
 go_wp2
 go_loopg [5, 8] l.length (fun gg _ s8 wr => ∃ x : Int, 0 ≤ x ∧ x ≤ (l.length : Int) ∧ (l.length : Int) - x ≤ gg ∧ s8 = .int .i64 x ∧ Asd (Below w.heap.size w wr) ∧ Asd (Hof.idxL p (l.drop x.toNat) x = some r))
 case atStart => exact ⟨0, by omega, by omega, by omega, rfl, ⟨Below.refl _ _⟩, HH⟩
 case round =>
  clear HH
  obtain ⟨x, hx0, hx1, hg, rfl, HB, HA⟩ := hrel
  by_cases hlt : x < (l.length : Int)
  ·obtain ⟨ad, A0, c0, e, hx, hl0, hC0⟩ := at_row HR.out x hx0 hlt
   cases e
   replace hx := (HB.out.cell (World.block_lt_of_cell? w _ hx)).trans hx
   have hC1 := Kd.C_below hC0 HB.out
   obtain ⟨b, hb, hrest⟩ := Option.bind_eq_some_iff.mp ((idxR_step hx0 hlt).symm.trans HA.out)
   clear HA
   obtain ⟨y, hy⟩ : ∃ y, y = l.getD x.toNat [] := ⟨_, rfl⟩
   rw [← hy] at hx hl0 hC1 hb
   have hcall := HP.out wr A0 c0 y b HB.out hC1 hl0 hb
   have HRest := Asd.mk hrest
   clear hrest hb HR HP hC0 hC1 hl0 hy
   cases b with
   | true =>
    go_wp2_with fail
    refine hcall.mono ?_
    rintro e w' ⟨rfl, hb'⟩
    go_wp2_with fail
    obtain rfl : x = r := by have := HRest.out; simpa using this
    go_ret
    exact ⟨rfl, below_then HB.out HB.out.size hb'⟩
   | false =>
    go_wp2_with fail
    refine hcall.mono ?_
    rintro e w' ⟨rfl, hb'⟩
    go_wp2_with fail
    go_roundg (l.length - (x + 1).toNat)
    case measure => omega
    case rel => exact ⟨x + 1, by omega, by omega, by omega, by go_num, ⟨below_then HB.out HB.out.size hb'⟩, ⟨by have := HRest.out; simpa using this⟩⟩
  ·have hxe : x = (l.length : Int) := by omega
   have e2 : (-1 : Int) = r := by
    have := HA.out
    rw [hxe, show ((l.length : Int)).toNat = l.length from by omega, List.drop_length] at this
    simpa [Hof.idxL] using this
   clear HA
   subst e2
   go_wp2
   go_ret
   exact ⟨rfl, HB.out⟩

/-! ### slices_ContainsFunc_int_int: function 129 (by hand) -/
set_option maxHeartbeats 2000000 in
theorem ContainsFuncR_calls (g : Nat) (lb : Array Value) (eg : ∀ args w, (callFunc g args).run Try.prog w = .ok (.enter g args) w) (p : List Int → Option Bool)
  (A : Option Addr) (c : Nat) (l : List (List Int)) (r : Bool) (w : World) (hr : Kd.C (Kd.slice 3 (Kd.int .i64)) w A l.length l) (hp : GivesR g lb p w) (h : Hof.contL p l = some r) :
  Calls Try.prog 129 #[.slice A l.length c, .func (.func g) #[] lb] w fun e w' => e = .returned (.bool r) ∧ Below w.heap.size w w' := by
 obtain ⟨i, hi, hr'⟩ := Option.bind_eq_some_iff.mp h
 obtain rfl := Option.some.inj hr'
 clear h
 have hcall := IndexFuncR_calls g lb eg p A c l i w hr hp hi
 clear hi hp hr hr'
 have HC := Asd.mk hcall
 clear hcall
 go_enter Try.func129, Try.ntmps129
 go_wp2_with (go_at_call 145; refine HC.out.mono ?_; rintro e w' ⟨rfl, hb'⟩)
 go_ret
 exact ⟨rfl, hb'⟩

/-! ### impl_isMind: function 101 (by hand) -/
def impl_isMind.no (k : Nat) (a0 : Int) (x : List Int) : Option Bool := (impl_isTidy.f k a0 x).bind fun b => some (!b)
def impl_isMind.f (k : Nat) (a0_0 : Int) (l0_1 : List Int) (l0_2 : List (List Int)) : Option Bool := (impl_isTidy.f k a0_0 l0_1).bind fun t => if t = true then (if (l0_2.length : Int) ≤ 10 then (Hof.contL (impl_isMind.no k a0_0) l0_2).bind fun b => some (!b) else some false) else some false
theorem idxL_mono {α : Type} {p q : α → Option Bool} (h : ∀ x, LeO (p x) (q x)) : ∀ (l : List α) (i : Int), LeO (Hof.idxL p l i) (Hof.idxL q l i)
 | [], _ => LeO.refl _
 | x :: l, i => by
  unfold Hof.idxL
  refine LeO.bind (h x) (fun b => ?_)
  split
  ·exact LeO.refl _
  ·exact idxL_mono h l (i + 1)
theorem impl_isMind.mono : ∀ a0 a1 a2 k, LeO (impl_isMind.f k a0 a1 a2) (impl_isMind.f (k + 1) a0 a1 a2) := by
 intro a0 a1 a2 k
 unfold impl_isMind.f
 refine LeO.bind (impl_isTidy.mono _ _ _) (fun t => LeO.ite (LeO.ite (LeO.bind ?_ (fun b => LeO.refl _)) (LeO.refl _)) (LeO.refl _))
 unfold Hof.contL
 refine LeO.bind (idxL_mono (fun x => ?_) _ _) (fun b => LeO.refl _)
 unfold impl_isMind.no
 exact LeO.bind (impl_isTidy.mono _ _ _) (fun b => LeO.refl _)
theorem impl_isMind.gives (k : Nat) (w : World) (B : Nat) (a0 : Int) (hB : B < w.heap.size) (hc : w.cell? ⟨B, 0, none⟩ = some (.int .i64 a0)) : GivesR 130 #[.pointer (some ⟨B, 0, none⟩)] (impl_isMind.no k a0) w := fun W A c l b hb hC hl hp => by
 have hc' := (hb.cell (p := ⟨B, 0, none⟩) hB).trans hc
 obtain ⟨t, ht, hrest⟩ := Option.bind_eq_some_iff.mp hp
 obtain rfl := Option.some.inj hrest
 have HS := Asd.mk (impl_isTidy.calls k a0 A c l t W hC hl ht)
 clear hc hb hp ht hrest hC hl
 have hu := Try.underlying58
 go_enter Try.func130, Try.ntmps130
 go_wp2_with fail
 refine HS.out.mono ?_
 rintro e w1 ⟨rfl, hb1⟩
 go_wp2
 go_ret
 exact ⟨rfl, hb1⟩
set_option maxHeartbeats 4000000 in
theorem impl_isMind.calls (k : Nat) (a0_0 : Int) (A0_1 : Option Addr) (c0_1 : Nat) (l0_1 : List Int) (A0_2 : Option Addr) (c0_2 : Nat) (l0_2 : List (List Int)) (r : Bool) (w : World) (hr0_1 : Kd.C (Kd.int .i64) w A0_1 l0_1.length l0_1) (hc0_1 : l0_1.length ≤ c0_1) (hr0_2 : Kd.C (Kd.slice 3 (Kd.int .i64)) w A0_2 l0_2.length l0_2) (hc0_2 : l0_2.length ≤ c0_2) (h : impl_isMind.f k a0_0 l0_1 l0_2 = some r) :
  Calls Try.prog 101 #[.agg #[.int .i64 a0_0, .slice A0_1 l0_1.length c0_1, .slice A0_2 l0_2.length c0_2]] w fun e w' => e = .returned (.bool r) ∧ Below w.heap.size w w' := by
 have hu := Try.underlying58
 obtain ⟨t, ht, h⟩ := Option.bind_eq_some_iff.mp h
 have HR1 := Asd.mk hr0_1
 have HR2 := Asd.mk hr0_2
 have HB := Asd.mk (Below.refl w.heap.size w)
 have HA := Asd.mk (bwA HB.out (.cells #[.int .i64 a0_0, .slice A0_1 l0_1.length c0_1, .slice A0_2 l0_2.length c0_2] 58))
 have HT := Asd.mk (fun W hR => impl_isTidy.calls k a0_0 A0_1 c0_1 l0_1 t W hR hc0_1 ht)
 clear hr0_1 hr0_2 ht hc0_1
 cases t with
 | false =>
  obtain rfl : false = r := by simpa using h
  clear h
  go_enter Try.func101, Try.ntmps101
  go_wp2_with fail
  refine (HT.out _ (Kd.C_below HR1.out HA.out)).mono ?_
  rintro e w1 ⟨rfl, hb1⟩
  have HB1 := Asd.mk (below_then HA.out HA.out.size hb1)
  clear hb1
  go_wp2
  go_ret
  exact ⟨rfl, HB1.out⟩
 | true =>
  rw [if_pos rfl] at h
  by_cases hl : (l0_2.length : Int) ≤ 10
  ·rw [if_pos hl] at h
   obtain ⟨b, hb, h⟩ := Option.bind_eq_some_iff.mp h
   obtain rfl := Option.some.inj h
   have HC := Asd.mk (fun W hR hp => ContainsFuncR_calls 130 #[.pointer (some ⟨w.heap.size, 0, none⟩)] (Hof.enters Try.func130 (by kernel_rfl) rfl) (impl_isMind.no k a0_0) A0_2 c0_2 l0_2 b W hR hp hb)
   clear h hb
   have hl' : decide ((l0_2.length : Int) ≤ 10) = true := decide_eq_true hl
   have hl2 : decide (l0_2.length ≤ 10) = true := decide_eq_true (by omega)
   clear hl
   go_enter Try.func101, Try.ntmps101
   go_wp2_with fail
   refine (HT.out _ (Kd.C_below HR1.out HA.out)).mono ?_
   rintro e w1 ⟨rfl, hb1⟩
   have k0 : w1.cell? ⟨w.heap.size, 0, none⟩ = some (.int .i64 a0_0) := (hb1.cell (p := ⟨w.heap.size, 0, none⟩) (by simp)).trans (by simp)
   have k2 : w1.cell? ⟨w.heap.size, 2, none⟩ = some (.slice A0_2 l0_2.length c0_2) := (hb1.cell (p := ⟨w.heap.size, 2, none⟩) (by simp)).trans (by simp)
   have hz : w.heap.size < w1.heap.size := Nat.lt_of_lt_of_le (by simp) hb1.size
   have HB1 := Asd.mk (below_then HA.out HA.out.size hb1)
   have HG := Asd.mk (impl_isMind.gives k w1 w.heap.size a0_0 hz k0)
   clear hb1 hz
   go_wp2_with fail
   refine (HC.out _ (Kd.C_below HR2.out HB1.out) HG.out).mono ?_
   rintro e w2 ⟨rfl, hb2⟩
   go_wp2
   go_ret
   exact ⟨rfl, below_then HB1.out HB1.out.size hb2⟩
  ·rw [if_neg hl] at h
   obtain rfl := Option.some.inj h
   clear h
   have hl' : decide ((l0_2.length : Int) ≤ 10) = false := decide_eq_false hl
   have hl2 : decide (l0_2.length ≤ 10) = false := decide_eq_false (by omega)
   clear hl
   go_enter Try.func101, Try.ntmps101
   go_wp2_with fail
   refine (HT.out _ (Kd.C_below HR1.out HA.out)).mono ?_
   rintro e w1 ⟨rfl, hb1⟩
   have k2 : w1.cell? ⟨w.heap.size, 2, none⟩ = some (.slice A0_2 l0_2.length c0_2) := (hb1.cell (p := ⟨w.heap.size, 2, none⟩) (by simp)).trans (by simp)
   have HB1 := Asd.mk (below_then HA.out HA.out.size hb1)
   clear hb1
   go_wp2
   go_ret
   exact ⟨rfl, HB1.out⟩

/-! ### impl_allWorlds: function 121 (by hand) -/
theorem impl_allWorlds.nonneg (x y : Int) : 0 ≤ shl .u64 x y := by
 unfold shl
 rw [show IntKind.u64.wrap (x * 2 ^ min y.toNat IntKind.u64.bits) = (x * 2 ^ min y.toNat IntKind.u64.bits) % 18446744073709551616 from by simp [IntKind.wrap, IntKind.bits, IntKind.signed]]
 exact Int.emod_nonneg _ (by decide)
def impl_allWorlds.f (a0 : Int) : Option (Int) := if 0 ≤ a0 then (some (wrap64 ((shl .i64 1 (shl .u64 1 a0)) - 1))) else (none)
set_option maxHeartbeats 8000000 in
set_option maxRecDepth 100000 in
theorem impl_allWorlds.calls (a0 : Int) (r : Int) (w : World) (h : impl_allWorlds.f a0 = some r) :
  Calls Try.prog 121 #[.int .i64 a0] w fun e w' => e = .returned (.int .i64 r) ∧ Drawn0 w w' := by
 have H : (if 0 ≤ a0 then (some (wrap64 ((shl .i64 1 (shl .u64 1 a0)) - 1))) else (none)) = some r := h
 clear h
 by_cases c2 : 0 ≤ a0; rotate_left; (rw [if_neg c2] at H; exact absurd H (by simp))
 rw [if_pos c2] at H
 have c2b0 := eq_true c2
 have c2b1 : decide (0 ≤ a0) = true := decide_eq_true c2
 clear c2
 obtain rfl := Option.some.inj H
 clear H
 have p := impl_allWorlds.nonneg 1 a0
 obtain ⟨ji3, hji3⟩ : ∃ j_ : Int, (shl .u64 1 a0) = j_ := ⟨_, rfl⟩
 rw [hji3] at p ⊢
 have hji3_ : (IntKind.u64.wrap (1 * 2 ^ min a0.toNat 64)) = ji3 := hji3
 have hji3u : (IntKind.u64.wrap (2 ^ min a0.toNat 64)) = ji3 := by have h_ := hji3_; rw [Int.one_mul] at h_; exact h_
 have pb0 := eq_true p
 have pb1 : decide (0 ≤ ji3) = true := decide_eq_true p
 have pb2 : decide (ji3 < 0) = false := decide_eq_false (by omega)
 have e5 : wrap64 (2 ^ min ji3.toNat 64) = shl .i64 1 ji3 := by
  unfold shl
  rw [i64_w, Int.one_mul]
  rfl
 have E5 := Asd.mk e5
 clear hji3 p e5
 go_enter Try.func121, Try.ntmps121
 go_wp2
 go_ret
 rw [← E5.out]
 exact ⟨rfl, Drawn0.refl _⟩

/-! ### impl_setThat: function 137 (by hand) -/
def impl_setThat.l (p : Int → Option Bool) : Nat → Int → Int → Option Int
 | 0, _, s => some s
 | n + 1, x, s => (p x).bind fun b => impl_setThat.l p n (x + 1) (if b = true then Go.bits .or .i64 s (shl .i64 1 x) else s)
def impl_setThat.f (p : Int → Option Bool) (things : Int) : Option Int := if 0 ≤ things then (if things ≤ 3 then impl_setThat.l p (2 ^ things.toNat) 0 0 else none) else none
set_option maxHeartbeats 4000000 in
set_option maxRecDepth 100000 in
theorem impl_setThat.calls (g : Nat) (lb : Array Value) (eg : ∀ args w, (callFunc g args).run Try.prog w = .ok (.enter g args) w) (p : Int → Option Bool)
  (things : Int) (r : Int) (w : World) (hp : Hof.GivesI g lb p w) (h : impl_setThat.f p things = some r) :
  Calls Try.prog 137 #[.int .i64 things, .func (.func g) #[] lb] w fun e w' => e = .returned (.int .i64 r) ∧ Below w.heap.size w w' := by
 have HP := Asd.mk hp
 clear hp
 have h2 : 0 ≤ things ∧ things ≤ 3 ∧ impl_setThat.l p (2 ^ things.toNat) 0 0 = some r := by
  unfold impl_setThat.f at h
  by_cases a : 0 ≤ things
  ·rw [if_pos a] at h
   by_cases b : things ≤ 3
   ·rw [if_pos b] at h
    exact ⟨a, b, h⟩
   ·rw [if_neg b] at h
    cases h
  ·rw [if_neg a] at h
   cases h
 obtain ⟨h0, h3, h⟩ := h2
 obtain ⟨t, rfl⟩ := Int.eq_ofNat_of_zero_le h0
 rw [Int.toNat_natCast] at h
 have hN : ((2 ^ t : Nat) : Int) ≤ 8 ∧ IntKind.i64.wrap (2 ^ min t 64) = ((2 ^ t : Nat) : Int) := by
  rcases (by omega : t = 0 ∨ t = 1 ∨ t = 2 ∨ t = 3) with rfl | rfl | rfl | rfl <;> exact ⟨by decide, by decide +kernel⟩
 obtain ⟨N, eN⟩ : ∃ N : Nat, N = 2 ^ t := ⟨_, rfl⟩
 rw [← eN] at hN h
 obtain ⟨hN8, hN2⟩ := hN
 have hNw : wrap64 (2 ^ min t 64) = (N : Int) := (i64_w _).symm.trans hN2
 have H' : Asd (impl_setThat.l p N 0 0 = some r) := ⟨h⟩
 have pb0 := eq_true h0
 clear h h0 h3 eN
 go_enter Try.func137, Try.ntmps137
 go_wp2
 go_loopg [5, 9] N (fun gg s5 s9 wr => ∃ (n : Nat) (x s : Int), 0 ≤ x ∧ x + n = (N : Int) ∧ n ≤ gg ∧ s5 = .int .i64 s ∧ s9 = .int .i64 x ∧ Asd (Below w.heap.size w wr) ∧ Asd (impl_setThat.l p n x s = some r))
 case atStart => exact ⟨N, 0, 0, by omega, by omega, Nat.le_refl _, rfl, rfl, ⟨Below.refl _ _⟩, H'⟩
 case round =>
  clear H'
  obtain ⟨n, x, s, hx0, hxn, hg, rfl, rfl, HB, HA⟩ := hrel
  cases n with
  | zero =>
   have hge : ¬ x < (N : Int) := by omega
   obtain rfl : s = r := by have := HA.out; simpa [impl_setThat.l] using this
   clear HA hN2 hNw
   go_wp2
   go_ret
   exact ⟨rfl, HB.out⟩
  | succ n =>
   have hlt : x < (N : Int) := by omega
   have hx8 : x ≤ 7 := by omega
   obtain ⟨b, hb, hrest⟩ := Option.bind_eq_some_iff.mp (show ((p x).bind fun b => impl_setThat.l p n (x + 1) (if b = true then Go.bits .or .i64 s (shl .i64 1 x) else s)) = some r from HA.out)
   have hcall := HP.out wr x b HB.out hb
   have HRest := Asd.mk hrest
   clear hrest hb HA HP hN2 hNw
   have px := eq_true hx0
   cases b with
   | true =>
    obtain ⟨j, hj⟩ : ∃ j : Int, shl .i64 1 x = j := ⟨_, rfl⟩
    have HR2 : Asd (impl_setThat.l p n (x + 1) (Go.bits .or .i64 s j) = some r) := ⟨by have := HRest.out; rw [if_pos rfl, hj] at this; exact this⟩
    have hj1 : IntKind.i64.wrap (2 ^ min x.toNat 64) = j := by have h_ : IntKind.i64.wrap (1 * 2 ^ min x.toNat 64) = j := hj; rw [Int.one_mul] at h_; exact h_
    have hj2 : IntKind.i64.wrap (2 ^ x.toNat) = j := by rw [← hj1, show min x.toNat 64 = x.toNat from by omega]
    have hj3 : wrap64 (2 ^ x.toNat) = j := (i64_w _).symm.trans hj2
    have hj4 : wrap64 (2 ^ min x.toNat 64) = j := (i64_w _).symm.trans hj1
    clear hj HRest
    go_wp2_with fail
    refine hcall.mono ?_
    rintro e w' ⟨rfl, hb'⟩
    go_wp2_with fail
    go_roundg n
    case measure => omega
    case rel => exact ⟨n, x + 1, _, by omega, by omega, Nat.le_refl _, (by first | rfl | (simp; done) | (simp [*]; done)), by go_num, ⟨below_then HB.out HB.out.size hb'⟩, HR2⟩
   | false =>
    have HR2 : Asd (impl_setThat.l p n (x + 1) s = some r) := ⟨by have := HRest.out; simpa using this⟩
    clear HRest
    go_wp2_with fail
    refine hcall.mono ?_
    rintro e w' ⟨rfl, hb'⟩
    go_wp2_with fail
    go_roundg n
    case measure => omega
    case rel => exact ⟨n, x + 1, _, by omega, by omega, Nat.le_refl _, (by first | rfl | (simp; done) | (simp [*]; done)), by go_num, ⟨below_then HB.out HB.out.size hb'⟩, HR2⟩

/-- A state of type 130 at block g of W; what its slices lead to came in by w0. -/
def IsS130 (w0 W : World) (g : Nat) (f0 : Int) (f1 : ByteArray) (f2 : Int) : Prop := W.heap[g]? = some (.cells #[.int .i64 f0, .string f1, .int .i64 f2] 130 (0, 0)) ∧ w0.heap.size ≤ g
theorem IsS130.grown {w0 W : World} {g : Nat} {f0 : Int} {f1 : ByteArray} {f2 : Int} {W1 : World} {row : Option Nat} (h : IsS130 w0 W g f0 f1 f2) (hw : W.grownBy W1 row) (hne : some g ≠ row) : IsS130 w0 W1 g f0 f1 f2 := by
 obtain ⟨hb, hg⟩ := h
 exact ⟨blk_grown hb hw hne, hg⟩
theorem IsS130.own_neN {w0 W : World} {g : Nat} {f0 : Int} {f1 : ByteArray} {f2 : Int} {α : Type} {d : Kd α} {e : Nat} {base : Nat} {ok : Nat → Prop} {v : Value} {xs : List α} (h : IsS130 w0 W g f0 f1 f2) (ho : Kd.N d e W base ok v xs) (ht : e ≠ 130) : some g ≠ v.ownBlock := by
 obtain ⟨hb, hg⟩ := h
 exact Kd.N_ne ho hb ht
theorem IsS130.fresh {w0 W : World} {g : Nat} {f0 : Int} {f1 : ByteArray} {f2 : Int} (h : IsS130 w0 W g f0 f1 f2) : ∀ k, W.heap.size ≤ k → k ≠ g := by
 obtain ⟨hb, hg⟩ := h
 exact Kd.freshB hb
theorem IsS130.kept {w0 W : World} {g : Nat} {f0 : Int} {f1 : ByteArray} {f2 : Int} {W1 : World} {S : Nat → Prop} (h : IsS130 w0 W g f0 f1 f2) (hk : Kept W W1 S) (hne : ¬ S g) : IsS130 w0 W1 g f0 f1 f2 := by
 obtain ⟨hb, hg⟩ := h
 exact ⟨blk_kept hb hk hne, hg⟩
theorem IsS130.below {w0 W : World} {g : Nat} {f0 : Int} {f1 : ByteArray} {f2 : Int} {W1 : World} (h : IsS130 w0 W g f0 f1 f2) (hw : Below W.heap.size W W1) : IsS130 w0 W1 g f0 f1 f2 := h.grown (grown_of_below hw none) (by simp)
theorem IsS130.bX {w0 W : World} {g : Nat} {f0 : Int} {f1 : ByteArray} {f2 : Int} {W1 : World} [s : StB W W1] (h : IsS130 w0 W g f0 f1 f2) : IsS130 w0 W1 g f0 f1 f2 := h.below s.b
theorem IsS130.alloc {w0 W : World} {g : Nat} {f0 : Int} {f1 : ByteArray} {f2 : Int} (h : IsS130 w0 W g f0 f1 f2) (o : Obj) : IsS130 w0 (W.alloc o) g f0 f1 f2 := h.below (bwA (Below.refl _ _) o)
theorem IsS130.drewN {w0 W : World} {g : Nat} {f0 : Int} {f1 : ByteArray} {f2 : Int} (h : IsS130 w0 W g f0 f1 f2) (m : Nat) : IsS130 w0 (W.drewN m) g f0 f1 f2 := h
theorem IsS130.drew {w0 W : World} {g : Nat} {f0 : Int} {f1 : ByteArray} {f2 : Int} (h : IsS130 w0 W g f0 f1 f2) : IsS130 w0 W.drew g f0 f1 f2 := h
theorem IsS130.at_ {w0 W : World} {g : Nat} {f0 : Int} {f1 : ByteArray} {f2 : Int} {w' : World} {m : Nat} (hq : W.drewN m = w') (h : IsS130 w0 W g f0 f1 f2) : IsS130 w0 w' g f0 f1 f2 := by subst hq; exact IsS130.drewN h m
theorem IsS130.apart {w0 W : World} {g : Nat} {f0 : Int} {f1 : ByteArray} {f2 : Int} {α : Type} {d : Kd α} {e : Nat} {base : Nat} {ok : Nat → Prop} {v : Value} {xs : List α} (h : IsS130 w0 W g f0 f1 f2) (ho : d.R e W base ok v xs) (ht : ∀ q, q ∈ e :: d.E → q ≠ 130) : d.R e W base (fun k => ok k ∧ k ≠ g) v xs := by
 obtain ⟨hb, hg⟩ := h
 exact Kd.R_types ho hb ht
theorem IsS130.own_ne {w0 W : World} {g : Nat} {f0 : Int} {f1 : ByteArray} {f2 : Int} {α : Type} {d : Kd α} {e : Nat} {base : Nat} {ok : Nat → Prop} {v : Value} {xs : List α} (h : IsS130 w0 W g f0 f1 f2) (ho : d.R e W base ok v xs) (ht : e ≠ 130) : some g ≠ v.ownBlock := by
 obtain ⟨hb, hg⟩ := h
 exact Kd.R_ne ho hb ht
theorem IsS130.apartQ {w0 W : World} {g : Nat} {f0 : Int} {f1 : ByteArray} {f2 : Int} {α : Type} {d : Kd α} {e : Nat} {base : Nat} {ok : Nat → Prop} {v : Value} {xs : List α} (h : IsS130 w0 W g f0 f1 f2) (ho : d.Q e W base ok v xs) (ht : ∀ q, q ∈ e :: d.E → q ≠ 130) : d.Q e W base (fun k => ok k ∧ k ≠ g) v xs := by
 obtain ⟨hb, hg⟩ := h
 exact Kd.Q_types ho hb ht
theorem IsS130.own_neQ {w0 W : World} {g : Nat} {f0 : Int} {f1 : ByteArray} {f2 : Int} {α : Type} {d : Kd α} {e : Nat} {base : Nat} {ok : Nat → Prop} {v : Value} {xs : List α} (h : IsS130 w0 W g f0 f1 f2) (ho : d.Q e W base ok v xs) (ht : e ≠ 130) : some g ≠ v.ownBlock := by
 obtain ⟨hb, hg⟩ := h
 exact Kd.Q_ne ho hb ht
theorem IsS130.apartS {w0 W : World} {g : Nat} {f0 : Int} {f1 : ByteArray} {f2 : Int} {α : Type} {d : Kd α} {e : Nat} {base : Nat} {ok : Nat → Prop} {v : Value} {xs : List α} (h : IsS130 w0 W g f0 f1 f2) (ho : d.S e W base ok v xs) (ht : ∀ q, q ∈ e :: d.E → q ≠ 130) : d.S e W base (fun k => ok k ∧ k ≠ g) v xs := by
 obtain ⟨hb, hg⟩ := h
 exact Kd.S_types ho hb ht
theorem IsS130.own_neS {w0 W : World} {g : Nat} {f0 : Int} {f1 : ByteArray} {f2 : Int} {α : Type} {d : Kd α} {e : Nat} {base : Nat} {ok : Nat → Prop} {v : Value} {xs : List α} (h : IsS130 w0 W g f0 f1 f2) (ho : d.S e W base ok v xs) (ht : e ≠ 130) : some g ≠ v.ownBlock := by
 obtain ⟨hb, hg⟩ := h
 exact Kd.S_ne ho hb ht
theorem IsS130.lt {w0 W : World} {g : Nat} {f0 : Int} {f1 : ByteArray} {f2 : Int} (h : IsS130 w0 W g f0 f1 f2) : g < W.heap.size := by
 obtain ⟨hb, hg⟩ := h
 exact bkL hb
theorem IsS130.ge {w0 W : World} {g : Nat} {f0 : Int} {f1 : ByteArray} {f2 : Int} (h : IsS130 w0 W g f0 f1 f2) : w0.heap.size ≤ g := by
 obtain ⟨hb, hg⟩ := h
 exact hg
theorem IsS130.ne_blk {w0 W : World} {g : Nat} {f0 : Int} {f1 : ByteArray} {f2 : Int} {a : Nat} {cs : Array Value} {t : TypeId} {fr : Nat × Nat} (h : IsS130 w0 W g f0 f1 f2) (hb2 : W.heap[a]? = some (.cells cs t fr)) (ht : t ≠ 130) : g ≠ a := by
 obtain ⟨hb, hg⟩ := h
 rintro rfl
 rw [hb] at hb2
 injection hb2 with hb2
 injection hb2 with _ ht2
 exact ht ht2.symm
theorem IsS130.far {w0 W : World} {g : Nat} {f0 : Int} {f1 : ByteArray} {f2 : Int} {p : Addr} (h : IsS130 w0 W g f0 f1 f2) (hne : g ≠ p.block) (u : Value) : IsS130 w0 (W.setCell p u) g f0 f1 f2 := by
 obtain ⟨hb, hg⟩ := h
 exact ⟨bkR hb hne u, hg⟩
theorem cellS130_0 {W : World} {g : Nat} {f0 : Int} {f1 : ByteArray} {f2 : Int} (h : W.heap[g]? = some (.cells #[.int .i64 f0, .string f1, .int .i64 f2] 130 (0, 0))) : W.cell? ⟨g, 0, none⟩ = some (.int .i64 f0) := (bkC h 0).trans rfl
theorem IsS130.set_0 {w0 W : World} {g : Nat} {f0 : Int} {f1 : ByteArray} {f2 : Int} (h : IsS130 w0 W g f0 f1 f2) (x : Int) : IsS130 w0 (W.setCell ⟨g, 0, none⟩ (.int .i64 x)) g x f1 f2 := by
 obtain ⟨hb, hg⟩ := h
 exact ⟨by simpa using blk_set hb 0 (.int .i64 x), hg⟩
theorem cellS130_1 {W : World} {g : Nat} {f0 : Int} {f1 : ByteArray} {f2 : Int} (h : W.heap[g]? = some (.cells #[.int .i64 f0, .string f1, .int .i64 f2] 130 (0, 0))) : W.cell? ⟨g, 1, none⟩ = some (.string f1) := (bkC h 1).trans rfl
theorem IsS130.set_1 {w0 W : World} {g : Nat} {f0 : Int} {f1 : ByteArray} {f2 : Int} (h : IsS130 w0 W g f0 f1 f2) (x : ByteArray) : IsS130 w0 (W.setCell ⟨g, 1, none⟩ (.string x)) g f0 x f2 := by
 obtain ⟨hb, hg⟩ := h
 exact ⟨by simpa using blk_set hb 1 (.string x), hg⟩
theorem cellS130_2 {W : World} {g : Nat} {f0 : Int} {f1 : ByteArray} {f2 : Int} (h : W.heap[g]? = some (.cells #[.int .i64 f0, .string f1, .int .i64 f2] 130 (0, 0))) : W.cell? ⟨g, 2, none⟩ = some (.int .i64 f2) := (bkC h 2).trans rfl
theorem IsS130.set_2 {w0 W : World} {g : Nat} {f0 : Int} {f1 : ByteArray} {f2 : Int} (h : IsS130 w0 W g f0 f1 f2) (x : Int) : IsS130 w0 (W.setCell ⟨g, 2, none⟩ (.int .i64 x)) g f0 f1 x := by
 obtain ⟨hb, hg⟩ := h
 exact ⟨by simpa using blk_set hb 2 (.int .i64 x), hg⟩
theorem IsS130.new (w0 W : World) (f0 : Int) (f1 : ByteArray) (f2 : Int) (hB : Below w0.heap.size w0 W) : IsS130 w0 (W.alloc (.cells #[.int .i64 f0, .string f1, .int .i64 f2] 130)) W.heap.size f0 f1 f2 := ⟨by simpa using heap_alloc_new W _, hB.size⟩

theorem IsS130.z {w0 W W' : World} {g : Nat} {f0 f0' : Int} {f1 f1' : ByteArray} {f2 f2' : Int} (h : Asd (IsS130 w0 W g f0 f1 f2)) (s : IsS130 w0 W g f0 f1 f2 → IsS130 w0 W' g f0' f1' f2' := by intro h; repeat (with_reducible first | exact h | apply IsS130.bX | apply IsS130.set_0 | apply IsS130.set_1 | apply IsS130.set_2 | refine IsS130.far ?_ aX _)) : IsS130 w0 W' g f0' f1' f2' := s h.out
theorem IsS130.y {w0 W W' : World} {g : Nat} {f0 : Int} {f1 : ByteArray} {f2 : Int} (h : Asd (IsS130 w0 W g f0 f1 f2)) (s : IsS130 w0 W g f0 f1 f2 → IsS130 w0 W' g f0 f1 f2 := by intro h; repeat (with_reducible first | exact h | apply IsS130.bX | refine IsS130.far ?_ aX _)) : IsS130 w0 W' g f0 f1 f2 := s h.out
/-! ### impl_sentenceReader_next: function 149 -/
def impl_sentenceReader_next.f (s0_0 : Int) (s0_1 : ByteArray) (s0_2 : Int) : Option (Int × Int × ByteArray × Int) := if s0_2 = (s0_1.size : Int) then (some (0, s0_0, s0_1, s0_2)) else (if 0 ≤ (wrap64 ((wrap64 (s0_2 + 1)) - 1)) then (if (wrap64 ((wrap64 (s0_2 + 1)) - 1)) < (s0_1.size : Int) then (some (bt s0_1 (wrap64 ((wrap64 (s0_2 + 1)) - 1)), s0_0, s0_1, wrap64 (s0_2 + 1))) else (none)) else (none))
set_option maxHeartbeats 8000000 in
set_option maxRecDepth 100000 in
theorem impl_sentenceReader_next.calls (g : Nat) (s0_0 : Int) (s0_1 : ByteArray) (s0_2 : Int) (r1 : Int) (r2 : Int) (r3 : ByteArray) (r4 : Int) (w0 w : World) (hI : IsS130 w0 w g s0_0 s0_1 s0_2) (hB : Below w0.heap.size w0 w) (h : impl_sentenceReader_next.f s0_0 s0_1 s0_2 = some (r1, r2, r3, r4)) :
  Calls Try.prog 149 #[.pointer (some ⟨g, 0, none⟩)] w fun e w' => e = .returned (.int .u8 r1) ∧ IsS130 w0 w' g r2 r3 r4 ∧ Below w0.heap.size w0 w' ∧ Kbt w w' g none := by
 have HI0 := Asd.mk hI
 have HK := Asd.mk (Kbt.refl w g none)
 have HL := Asd.mk hB.size
 clear hI
 have HW0 := Asd.mk hB.size
 have HB := Asd.mk hB
 clear hB
 have H : (if s0_2 = (s0_1.size : Int) then (some (0, s0_0, s0_1, s0_2)) else (if 0 ≤ (wrap64 ((wrap64 (s0_2 + 1)) - 1)) then (if (wrap64 ((wrap64 (s0_2 + 1)) - 1)) < (s0_1.size : Int) then (some (bt s0_1 (wrap64 ((wrap64 (s0_2 + 1)) - 1)), s0_0, s0_1, wrap64 (s0_2 + 1))) else (none)) else (none))) = some (r1, r2, r3, r4) := h
 clear h
 by_cases c2 : s0_2 = (s0_1.size : Int)
 ·rw [if_pos c2] at H
  have c2b0 : (s0_2 == (s0_1.size : Int)) = true := beq_iff_eq.mpr c2
  have c2b1 : (s0_2 != (s0_1.size : Int)) = false := bne_eq_false_iff_eq.mpr c2
  clear c2
  simp only [Option.some.injEq, Prod.mk.injEq] at H
  obtain ⟨rfl, rfl, rfl, rfl⟩ := H
  obtain ⟨HGz3, hgz3⟩ := HI0.out
  have hcz3_0 := cellS130_0 HGz3
  have hcz3_1 := cellS130_1 HGz3
  have hcz3_2 := cellS130_2 HGz3
  have hfz3_0 := bkF HGz3 0
  have hfz3_1 := bkF HGz3 1
  have hfz3_2 := bkF HGz3 2
  clear HGz3 hgz3
  go_enter Try.func149, Try.ntmps149
  go_wp2
  repeat (go_quiet (fail); try go_wp2)
  go_ret
  exact ⟨by first | rfl | (simp [*, errW_none, errW_some] <;> rfl), IsS130.z HI0, wI HB (IsS130.ge HI0.out), kZ HK⟩
 ·rw [if_neg c2] at H
  have c2b0 : (s0_2 == (s0_1.size : Int)) = false := beq_eq_false_iff_ne.mpr c2
  have c2b1 : (s0_2 != (s0_1.size : Int)) = true := bne_iff_ne.mpr c2
  obtain ⟨ji4, hji4⟩ : ∃ j_ : Int, (wrap64 ((wrap64 (s0_2 + 1)) - 1)) = j_ := ⟨_, rfl⟩
  replace H : (if 0 ≤ (ji4) then (if (ji4) < (s0_1.size : Int) then (some (bt s0_1 (ji4), s0_0, s0_1, wrap64 (s0_2 + 1))) else (none)) else (none)) = some (r1, r2, r3, r4) := by first | (rw [hji4] at H; exact H) | (simp only [hji4] at H ⊢; exact H)
  have hji4w : (IntKind.i64.wrap ((wrap64 (s0_2 + 1)) - 1)) = ji4 := (i64_w _).trans hji4
  by_cases c5 : 0 ≤ (ji4); rotate_left; (rw [if_neg c5] at H; exact absurd H (by simp))
  rw [if_pos c5] at H
  have c5b0 : decide (0 ≤ (ji4)) = true := decide_eq_true c5
  clear c5
  by_cases c6 : (ji4) < (s0_1.size : Int); rotate_left; (rw [if_neg c6] at H; exact absurd H (by simp))
  rw [if_pos c6] at H
  have c6b0 : decide ((ji4) < (s0_1.size : Int)) = true := decide_eq_true c6
  clear c6
  simp only [Option.some.injEq, Prod.mk.injEq] at H
  obtain ⟨rfl, rfl, rfl, rfl⟩ := H
  obtain ⟨HGz8, hgz8⟩ := HI0.out
  have hcz8_0 := cellS130_0 HGz8
  have hcz8_1 := cellS130_1 HGz8
  have hcz8_2 := cellS130_2 HGz8
  have hfz8_0 := bkF HGz8 0
  have hfz8_1 := bkF HGz8 1
  have hfz8_2 := bkF HGz8 2
  clear HGz8 hgz8
  have p7 : 0 ≤ ((ji4) : Int) := odt
  have q7 : (ji4) < (s0_1.size : Int) := odt
  have hx7 := bt_at s0_1 (ji4)
  replace p7 := eq_true p7
  replace q7 := eq_true q7
  go_enter Try.func149, Try.ntmps149
  go_wp2
  repeat (go_quiet (fail); try go_wp2)
  go_ret
  exact ⟨by first | rfl | (simp [errW_none, errW_some] <;> rfl) | (simp only [← hji4]; first | rfl | (simp [errW_none, errW_some] <;> rfl)) | (simp [*, errW_none, errW_some] <;> rfl), IsS130.z HI0, wI HB (IsS130.ge HI0.out), kZ HK⟩

end Go.Proofs.Ytihgpkohglcijaa.P
