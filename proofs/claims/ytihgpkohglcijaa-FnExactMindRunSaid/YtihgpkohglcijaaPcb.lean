/- Plain laws: changes of ranks: the program's and the reference's. -/
import Derived.Test.YtihgpkohglcijaaPx6
import Derived.Test.YtihgpkohglcijaaPx8
import Derived.Test.YtihgpkohglcijaaPx9
import Derived.Test.YtihgpkohglcijaaPx15
import Derived.Test.YtihgpkohglcijaaPrank
import Derived.Test.YtihgpkohglcijaaPset
import Derived.Test.YtihgpkohglcijaaPthat
namespace Go.Proofs.Ytihgpkohglcijaa.Pl
open Go.RowKit Go.Proofs.YtihgpkohglcijaaW.PrintWords Go.Proofs.YtihgpkohglcijaaW.PrintLast Go.Proofs.YtihgpkohglcijaaW.PrintMore Go.Proofs.Ytihgpkohglcijaa.P Go.Proofs.Ytihgpkohglcijaa.Mt
/-! ### the least rank of a set's worlds -/
def minFrom (l : List Int) (s : Nat) : Nat → Nat → Int → Int
 | 0, _, m => m
 | d + 1, i, m => minFrom l s d (i + 1) (if s.testBit i = true then mn m (l.getD i 0) else m)
def leastOf (l : List Int) (s : Nat) : Int := minFrom l s l.length 0 10
def bset (q : Nat → Bool) : Nat → Nat
 | 0 => 0
 | n + 1 => bset q n + (if q n = true then 2 ^ n else 0)
theorem bset_lt (q : Nat → Bool) : ∀ n, bset q n < 2 ^ n
 | 0 => Nat.one_pos
 | n + 1 => by
  have h := bset_lt q n
  unfold bset
  rw [Nat.pow_succ]
  split <;> omega
theorem bset_bit (q : Nat → Bool) (w : Nat) : ∀ n, (bset q n).testBit w = (decide (w < n) && q w)
 | 0 => by simp [bset]
 | n + 1 => by
  have h := bset_bit q w n
  unfold bset
  by_cases hq : q n = true
  ·rw [if_pos hq, add_bit (bset_lt q n), h]
   by_cases e : n = w
   ·subst e; simp [hq]
   ·rw [decide_eq_false e, Bool.or_false]
    congr 1
    exact decide_eq_decide.2 (by omega)
  ·rw [if_neg hq, Nat.add_zero, h]
   by_cases e : n = w
   ·subst e
    have : q n = false := by simpa using hq
    simp [this]
   ·congr 1
    exact decide_eq_decide.2 (by omega)
def leastSet (l : List Int) (s : Nat) : Nat := bset (fun w => s.testBit w && decide (l.getD w 0 = leastOf l s)) l.length
theorem minFrom_bd (l : List Int) (s : Nat) (h : ∀ x ∈ l, 0 ≤ x) : ∀ (d i : Nat) (m : Int), 0 ≤ m → m ≤ 10 → 0 ≤ minFrom l s d i m ∧ minFrom l s d i m ≤ 10
 | 0, _, m, h0, h1 => ⟨h0, h1⟩
 | d + 1, i, m, h0, h1 => by
  unfold minFrom
  have hg : 0 ≤ l.getD i 0 := by
   by_cases hi : i < l.length
   ·rw [List.getD_eq_getElem?_getD, List.getElem?_eq_getElem hi]; exact h _ (List.getElem_mem hi)
   ·rw [List.getD_eq_getElem?_getD, List.getElem?_eq_none (by omega)]; exact Int.le_refl _
  obtain ⟨a, b, c⟩ := mn_cases m (l.getD i 0)
  split
  ·exact minFrom_bd l s h d (i + 1) _ (by omega) (by omega)
  ·exact minFrom_bd l s h d (i + 1) _ h0 h1
theorem surprise_ev {l : List Int} (hn : l.length ≤ 60) {s : Nat} (hs : s < 256) : Ev (fun k => impl_surpriseOf.f k l (s : Int)) (leastOf l s) := by
 unfold impl_surpriseOf.f leastOf
 have key : ∀ i, i ≤ l.length → ∀ m : Int, Ev (fun k => impl_surpriseOf.l0 k (s : Int) m l (l.length : Int) (i : Int)) (minFrom l s (l.length - i) i m) := by
  apply down
  ·intro m
   rw [Nat.sub_self]
   exact Ev.step (fun k => rfl) (ev_neg (by omega) (Ev.now _))
  ·intro i hi ih m
   rw [show l.length - i = (l.length - (i + 1)) + 1 from by omega]
   unfold minFrom
   refine Ev.step (fun k => rfl) (ev_pos (by omega) (ev_pos (by omega) (ev_pos (by omega) ?_)))
   rw [and_bit s i (by omega) (by omega), w1 hi (by omega), rd_getD]
   by_cases hb : s.testBit i = true
   ·rw [if_pos hb]
    exact ev_pos (bi_one.2 hb) (ih _)
   ·rw [if_neg hb]
    exact ev_neg (fun k => hb (bi_one.1 k)) (ih _)
 exact key 0 (Nat.zero_le _) 10
theorem revised_ev {t : Int} (ht : 1 ≤ t ∧ t ≤ 3) {l : List Int} (hl : l.length = wn t) {s : Nat} (hs : s < 2 ^ wn t) : Ev (fun k => impl_revisedBy.f k t l (s : Int)) ((leastSet l s : Nat) : Int) := by
 have h8 := (wn_le t).1
 have hs8 : s < 256 := Nat.lt_of_lt_of_le hs (Nat.pow_le_pow_right (n := 2) (by decide) h8)
 unfold impl_revisedBy.f
 refine Ev.bind (surprise_ev (by omega) hs8) ?_
 have hp : ∀ y : Nat, y < 0 + wn t → impl_revisedBy.p l (leastOf l s) (y : Int) = some (decide (l.getD y 0 = leastOf l s)) := by
  intro y hy
  unfold impl_revisedBy.p
  rw [if_pos (by omega), if_pos (by omega), rd_getD]
 obtain ⟨r, h1, h2, h3⟩ := setThat_l (p := impl_revisedBy.p l (leastOf l s)) (q := fun y => decide (l.getD y 0 = leastOf l s)) (wn t) 0 0 (by omega) Nat.one_pos hp
 have hf : impl_setThat.f (impl_revisedBy.p l (leastOf l s)) t = some (r : Int) := by
  unfold impl_setThat.f
  rw [if_pos (by omega), if_pos (by omega), show 2 ^ t.toNat = wn t from by rcases three ht with rfl | rfl | rfl <;> rfl]
  exact h1
 refine ev_bindc hf (ev_eq (Ev.now _) ?_)
 rw [Nat.zero_add] at h2
 have hr8 : r < 256 := Nat.lt_of_lt_of_le h2 (Nat.pow_le_pow_right (n := 2) (by decide) (by omega))
 rw [band s r (Nat.lt_trans hs8 (by decide)) (Nat.lt_trans hr8 (by decide))]
 congr 1
 apply Nat.eq_of_testBit_eq
 intro w
 unfold leastSet
 rw [Nat.testBit_and, bset_bit, hl]
 have hb := h3 w
 rw [Nat.zero_testBit] at hb
 by_cases hw : w < wn t
 ·rw [decide_eq_true hw, Bool.true_and]
  congr 1
  rw [Bool.eq_iff_iff, hb]
  constructor
  ·rintro (k | k)
   ·cases k
   ·exact k.2.2
  ·intro k
   exact Or.inr ⟨Nat.zero_le _, by omega, k⟩
 ·have hf : r.testBit w = false := by
   rw [Bool.eq_false_iff]
   intro k
   rcases hb.1 k with k | k
   ·cases k
   ·omega
  rw [decide_eq_false hw, hf, Bool.and_false, Bool.false_and]
theorem l2Least_ev {l : List Int} (hn : l.length ≤ 8) (s : Nat) : Ev (fun k => spec_l2Least.f k l (s : Int)) ((leastSet l s : Nat) : Int) := by
 unfold spec_l2Least.f
 have two : ∀ i, i ≤ l.length → Ev (fun k => spec_l2Least.l1 k l (s : Int) (leastOf l s) ((bset (fun w => s.testBit w && decide (l.getD w 0 = leastOf l s)) i : Nat) : Int) (i : Int)) ((leastSet l s : Nat) : Int) := by
  apply down
  ·exact Ev.step (fun k => rfl) (ev_neg (by omega) (Ev.now _))
  ·intro i hi ih
   have hb := bset_lt (fun w => s.testBit w && decide (l.getD w 0 = leastOf l s)) i
   have hp : 2 ^ i ≤ 2 ^ 7 := Nat.pow_le_pow_right (by decide) (by omega)
   refine Ev.step (fun k => rfl) (ev_pos (by omega) (ev_bindc (l1Bit_eq s i (by omega)) ?_))
   rw [w1 hi (by omega)]
   unfold bset at ih
   by_cases hbit : s.testBit i = true
   ·refine ev_pos (bi_one.2 hbit) (ev_pos (by omega) ?_)
    rw [rd_getD]
    by_cases he : l.getD i 0 = leastOf l s
    ·refine ev_pos he ?_
     rw [shl1 i (by omega), w64 (by omega) (by omega)]
     rw [if_pos (by rw [hbit, decide_eq_true he]; rfl)] at ih
     exact ih
    ·refine ev_neg he ?_
     rw [if_neg (by rw [decide_eq_false he, Bool.and_false]; decide)] at ih
     exact ih
   ·refine ev_neg (fun k => hbit (bi_one.1 k)) ?_
    rw [if_neg (by simp [hbit])] at ih
    exact ih
 have one : ∀ i, i ≤ l.length → ∀ m : Int, minFrom l s (l.length - i) i m = leastOf l s → Ev (fun k => spec_l2Least.l0 k l (s : Int) m (i : Int)) ((leastSet l s : Nat) : Int) := by
  apply down
  ·intro m hm
   rw [Nat.sub_self] at hm
   have : m = leastOf l s := hm
   rw [this]
   exact Ev.step (fun k => rfl) (ev_neg (by omega) (two 0 (Nat.zero_le _)))
  ·intro i hi ih m hm
   rw [show l.length - i = (l.length - (i + 1)) + 1 from by omega] at hm
   unfold minFrom at hm
   refine Ev.step (fun k => rfl) (ev_pos (by omega) (ev_bindc (l1Bit_eq s i (by omega)) ?_))
   rw [w1 hi (by omega)]
   by_cases hbit : s.testBit i = true
   ·refine ev_pos (bi_one.2 hbit) (ev_pos (by omega) ?_)
    rw [rd_getD]
    rw [if_pos hbit] at hm
    exact ih _ hm
   ·refine ev_neg (fun k => hbit (bi_one.1 k)) ?_
    rw [if_neg hbit] at hm
    exact ih _ hm
 exact one 0 (Nat.zero_le _) 10 rfl
/-! ### raised ranks -/
def raise (l : List Int) (F : Nat) : List Int := l.mapIdx fun w r => if F.testBit w = true then r else r + 10
theorem raise_length (l : List Int) (F : Nat) : (raise l F).length = l.length := List.length_mapIdx
theorem raise_at (l : List Int) (F : Nat) {i : Nat} (h : i < l.length) : (raise l F)[i]'(by rw [raise_length]; exact h) = if F.testBit i = true then l[i] else l[i] + 10 := by
 unfold raise
 rw [List.getElem_mapIdx]
theorem raise_mem {l : List Int} {F : Nat} {y : Int} (h : y ∈ raise l F) : ∃ x ∈ l, y = x ∨ y = x + 10 := by
 obtain ⟨i, hi, rfl⟩ := List.mem_iff_getElem.1 h
 rw [raise_length] at hi
 rw [raise_at l F hi]
 refine ⟨l[i], List.getElem_mem hi, ?_⟩
 split
 ·exact Or.inl rfl
 ·exact Or.inr rfl
def chg (l : List Int) (way : Int) (s : Nat) : List Int := tidyL (raise l (if way = 0 then leastSet l s else s))
theorem leastSet_lt {l : List Int} (hn : l.length ≤ 8) (s : Nat) : leastSet l s < 256 := Nat.lt_of_lt_of_le (bset_lt _ _) (Nat.pow_le_pow_right (n := 2) (by decide) hn)
theorem changed_ev {t : Int} (ht : 1 ≤ t ∧ t ≤ 3) {l : List Int} (hl : l.length = wn t) (hx : ∀ x ∈ l, 0 ≤ x ∧ x ≤ 9) {s : Nat} (hs : s < 2 ^ wn t) (way : Int) : Ev (fun k => impl_changedBy.f k t l way (s : Int)) (chg l way s) := by
 have h8 := (wn_le t).1
 have hs8 : s < 256 := Nat.lt_of_lt_of_le hs (Nat.pow_le_pow_right (n := 2) (by decide) h8)
 have go : ∀ F : Nat, F < 256 → Ev (fun k => impl_changedBy.j0 k l (F : Int)) (tidyL (raise l F)) := by
  intro F hF
  have ht8 := tidy_ev (l := raise l F) (by rw [raise_length]; omega) (fun y hy => by obtain ⟨x, h1, h2⟩ := raise_mem hy; have := hx x h1; omega)
  have key : ∀ i, i ≤ l.length → Ev (fun k => impl_changedBy.l0 k (F : Int) ((raise l F).take i) l (l.length : Int) (i : Int)) (tidyL (raise l F)) := by
   apply down
   ·refine Ev.step (fun k => rfl) (ev_neg (by omega) ?_)
    rw [List.take_of_length_le (by rw [raise_length]; omega)]
    exact Ev.bind ht8 (Ev.now _)
   ·intro i hi ih
    have hi2 : i < (raise l F).length := by rw [raise_length]; exact hi
    have hlen : ((raise l F).take i).length < 17592186044416 := by rw [List.length_take]; omega
    have hxi := hx _ (List.getElem_mem hi)
    rw [List.take_succ_eq_append_getElem hi2, raise_at l F hi] at ih
    refine Ev.step (fun k => rfl) (ev_pos (by omega) (ev_pos (by omega) (ev_pos (by omega) ?_)))
    rw [and_bit F i (by omega) (by omega), w1 hi (by omega), rd_at hi]
    by_cases hb : F.testBit i = true
    ·rw [if_pos hb] at ih
     exact ev_neg (fun k => by rw [bi_zero.1 k] at hb; cases hb) (ev_pos hlen ih)
    ·rw [if_neg hb] at ih
     refine ev_pos (bi_zero.2 (by simpa using hb)) (ev_pos hlen ?_)
     rw [w64 (by omega) (by omega)]
     exact ih
  exact Ev.step (f := fun k => impl_changedBy.l0 k (F : Int) (([] : List Int)) l (l.length : Int) 0) (fun k => rfl) (key 0 (Nat.zero_le _))
 unfold impl_changedBy.f chg
 by_cases hw : way = 0
 ·rw [if_pos hw]
  exact ev_pos hw (Ev.bind (revised_ev ht hl hs) (go _ (leastSet_lt (by omega) s)))
 ·rw [if_neg hw]
  exact ev_neg hw (go s hs8)
/-! ### the reference's tidying -/
theorem l6Tidy_ev {l : List Int} (hn : l.length ≤ 8) (h0 : ∀ x ∈ l, 0 ≤ x) : Ev (fun k => spec_l6Tidy.f k l) (tidyL l) := by
 unfold spec_l6Tidy.f
 have three_ : ∀ (out : List Int) (w : Nat) (seen : List Int) (v : Nat) (hv : v < l.length) (res : List Int), seen.length ≤ 100 → ∀ j, j ≤ seen.length → ∀ b : Bool,
   Ev (fun k => spec_l6Tidy.l1 k l out (w : Int) (if b = true ∨ l[v] ∈ seen.drop j then seen else seen ++ [l[v]]) ((v + 1 : Nat) : Int)) res → Ev (fun k => spec_l6Tidy.l2 k l out (w : Int) seen (v : Int) b (j : Int)) res := by
  intro out w seen v hv res hs
  apply down (P := fun j => ∀ b : Bool, Ev (fun k => spec_l6Tidy.l1 k l out (w : Int) (if b = true ∨ l[v] ∈ seen.drop j then seen else seen ++ [l[v]]) ((v + 1 : Nat) : Int)) res → Ev (fun k => spec_l6Tidy.l2 k l out (w : Int) seen (v : Int) b (j : Int)) res)
  ·intro b hb
   refine Ev.step (fun k => rfl) (ev_neg (by omega) ?_)
   rw [List.drop_length] at hb
   cases b with
   | true =>
    refine ev_pos rfl ?_
    rw [w1 hv (by omega)]
    rw [if_pos (Or.inl rfl)] at hb
    exact hb
   | false =>
    refine ev_neg (by decide) (ev_pos (by omega) (ev_pos (by omega) (ev_pos (by omega) ?_)))
    rw [w1 hv (by omega), rd_at hv]
    rw [if_neg (by simp)] at hb
    exact hb
  ·intro j hj ih b hb
   rw [List.drop_eq_getElem_cons hj] at hb
   refine Ev.step (fun k => rfl) (ev_pos (by omega) ?_)
   cases b with
   | true =>
    refine ev_pos rfl ?_
    rw [w1 hj (by omega)]
    refine ih true ?_
    rw [if_pos (Or.inl rfl)] at hb ⊢
    exact hb
   | false =>
    refine ev_neg (by decide) (ev_pos (by omega) (ev_pos (by omega) (ev_pos (by omega) ?_)))
    rw [w1 hj (by omega), rd_at hj, rd_at hv]
    refine ih _ ?_
    have : ((seen[j] == l[v]) = true ∨ l[v] ∈ seen.drop (j + 1)) ↔ (false = true ∨ l[v] ∈ seen[j] :: seen.drop (j + 1)) := by
     rw [List.mem_cons, beq_iff_eq]
     constructor
     ·rintro (h | h)
      ·exact Or.inr (Or.inl h.symm)
      ·exact Or.inr (Or.inr h)
     ·rintro (h | h | h)
      ·cases h
      ·exact Or.inl h.symm
      ·exact Or.inr h
    simp only [this]
    exact hb
 have two : ∀ (out : List Int) (w : Nat) (hw : w < l.length) (res : List Int), out.length ≤ 100 → Ev (fun k => spec_l6Tidy.l0 k l (out ++ [(lev l l[w] : Int)]) ((w + 1 : Nat) : Int)) res →
   ∀ v, v ≤ l.length → ∀ seen : List Int, seen.Nodup → seen.length ≤ v → (∀ y, y ∈ seen ↔ y ∈ l.take v ∧ y < l[w]) → Ev (fun k => spec_l6Tidy.l1 k l out (w : Int) seen (v : Int)) res := by
  intro out w hw res ho hres
  have hw0 := h0 _ (List.getElem_mem hw)
  apply down
  ·intro seen hd _ hm
   refine Ev.step (fun k => rfl) (ev_neg (by omega) (ev_pos (by omega) ?_))
   rw [w1 hw (by omega)]
   have e : seen.length = lev l l[w] := nodup_cnt _ seen hd (fun y => by
    rw [hm y, List.take_length]
    constructor
    ·rintro ⟨a, b⟩; exact ⟨a, h0 y a, by omega⟩
    ·rintro ⟨a, b, c⟩; exact ⟨a, by omega⟩)
   rw [e]
   exact hres
  ·intro v hv ih seen hd hsl hm
   have hv0 := h0 _ (List.getElem_mem hv)
   refine Ev.step (fun k => rfl) (ev_pos (by omega) (ev_pos (by omega) (ev_pos (by omega) (ev_pos (by omega) ?_))))
   rw [rd_at hv, rd_at hw]
   refine three_ out w seen v hv res (by omega) 0 (Nat.zero_le _) _ ?_
   rw [List.drop_zero]
   have hmem : ∀ y, y ∈ l.take (v + 1) ↔ y ∈ l.take v ∨ y = l[v] := fun y => by rw [List.take_succ_eq_append_getElem hv, List.mem_append, List.mem_singleton]
   by_cases hc : decide (l[v] ≥ l[w]) = true ∨ l[v] ∈ seen
   ·rw [if_pos hc]
    refine ih seen hd (by omega) (fun y => ?_)
    rw [hm y, hmem y]
    constructor
    ·rintro ⟨a, b⟩; exact ⟨Or.inl a, b⟩
    ·rintro ⟨a | a, b⟩
     ·exact ⟨a, b⟩
     ·rcases hc with hc | hc
      ·have := of_decide_eq_true hc; omega
      ·have := (hm _).1 hc; rw [a]; exact ⟨this.1, by omega⟩
   ·rw [if_neg hc]
    have h1 : ¬ l[v] ≥ l[w] := fun k => hc (Or.inl (decide_eq_true k))
    have h2 : l[v] ∉ seen := fun k => hc (Or.inr k)
    refine ih (seen ++ [l[v]]) ?_ (by rw [List.length_append, List.length_singleton]; omega) (fun y => ?_)
    ·rw [List.nodup_append]
     refine ⟨hd, by simp, fun a ha b hb => ?_⟩
     rw [List.mem_singleton.1 hb]
     intro e
     exact h2 (e ▸ ha)
    ·rw [List.mem_append, List.mem_singleton, hm y, hmem y]
     constructor
     ·rintro (⟨a, b⟩ | a)
      ·exact ⟨Or.inl a, b⟩
      ·exact ⟨Or.inr a, by omega⟩
     ·rintro ⟨a | a, b⟩
      ·exact Or.inl ⟨a, b⟩
      ·exact Or.inr a
 have one : ∀ w, w ≤ l.length → Ev (fun k => spec_l6Tidy.l0 k l ((l.take w).map fun x => (lev l x : Int)) (w : Int)) (tidyL l) := by
  apply down
  ·refine Ev.step (fun k => rfl) (ev_neg (by omega) (ev_eq (Ev.now _) ?_))
   rw [List.take_length]
   rfl
  ·intro w hw ih
   rw [List.take_succ_eq_append_getElem hw, List.map_append] at ih
   exact Ev.step (fun k => rfl) (ev_pos (by omega) (two _ w hw _ (by rw [List.length_map, List.length_take]; omega) ih 0 (Nat.zero_le _) [] List.nodup_nil (Nat.le_refl _) (fun y => by simp)))
 exact one 0 (Nat.zero_le _)
theorem l6Rise_ev {l : List Int} (hn : l.length ≤ 8) (hx : ∀ x ∈ l, 0 ≤ x ∧ x ≤ 9) (F : Nat) : Ev (fun k => spec_l6Rise.f k l (F : Int)) (tidyL (raise l F)) := by
 unfold spec_l6Rise.f
 have ht8 := l6Tidy_ev (l := raise l F) (by rw [raise_length]; omega) (fun y hy => by obtain ⟨x, h1, h2⟩ := raise_mem hy; have := hx x h1; omega)
 have key : ∀ i, i ≤ l.length → Ev (fun k => spec_l6Rise.l0 k l (F : Int) ((raise l F).take i) (i : Int)) (tidyL (raise l F)) := by
  apply down
  ·refine Ev.step (fun k => rfl) (ev_neg (by omega) ?_)
   rw [List.take_of_length_le (by rw [raise_length]; omega)]
   exact Ev.bind ht8 (Ev.now _)
  ·intro i hi ih
   have hi2 : i < (raise l F).length := by rw [raise_length]; exact hi
   have hlen : ((raise l F).take i).length < 17592186044416 := by rw [List.length_take]; omega
   have hxi := hx _ (List.getElem_mem hi)
   rw [List.take_succ_eq_append_getElem hi2, raise_at l F hi] at ih
   refine Ev.step (fun k => rfl) (ev_pos (by omega) (ev_pos (by omega) (ev_bindc (l1Bit_eq F i (by omega)) (ev_pos hlen ?_))))
   rw [w1 hi (by omega), rd_at hi, bi_bit]
   by_cases hb : F.testBit i = true
   ·rw [if_pos hb] at ih ⊢
    rw [show wrap64 (l[i] + wrap64 (wrap64 (1 - ((1 : Nat) : Int)) * 10)) = l[i] from by rw [w64 (n := 1 - ((1 : Nat) : Int)) (by omega) (by omega), w64 (n := (1 - ((1 : Nat) : Int)) * 10) (by omega) (by omega), w64 (by omega) (by omega)]; omega]
    exact ih
   ·rw [if_neg hb] at ih ⊢
    rw [show wrap64 (l[i] + wrap64 (wrap64 (1 - ((0 : Nat) : Int)) * 10)) = l[i] + 10 from by rw [w64 (n := 1 - ((0 : Nat) : Int)) (by omega) (by omega), w64 (n := (1 - ((0 : Nat) : Int)) * 10) (by omega) (by omega), w64 (by omega) (by omega)]; omega]
    exact ih
 exact key 0 (Nat.zero_le _)
end Go.Proofs.Ytihgpkohglcijaa.Pl
