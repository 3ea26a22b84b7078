/- Plain laws: ranks, tidy ranks: the program's. -/
import Derived.Test.YtihgpkohglcijaaPx4
import Derived.Test.YtihgpkohglcijaaPx5
import Derived.Test.YtihgpkohglcijaaPrnk
import Derived.Test.YtihgpkohglcijaaPthr
import Derived.Test.YtihgpkohglcijaaPsort
namespace Go.Proofs.Ytihgpkohglcijaa.Pl
open Go.RowKit Go.Proofs.YtihgpkohglcijaaW.PrintWords Go.Proofs.YtihgpkohglcijaaW.PrintLast Go.Proofs.YtihgpkohglcijaaW.PrintMore Go.Proofs.Ytihgpkohglcijaa.P Go.Proofs.Ytihgpkohglcijaa.Mt
theorem Min_ev {l : List Int} (h : 0 < l.length) (hn : l.length ≤ 9223372036854775807) : ∃ r, Ev (fun k => slices_Min_int_int.f k l) r ∧ r ∈ l ∧ ∀ y ∈ l, r ≤ y := by
 unfold slices_Min_int_int.f
 have key : ∀ i, i ≤ l.length → ∀ m : Int, ∃ r, Ev (fun k => slices_Min_int_int.l0 k l m (i : Int)) r ∧ (r = m ∨ r ∈ l.drop i) ∧ r ≤ m ∧ ∀ y ∈ l.drop i, r ≤ y := by
  apply down
  ·intro m
   exact ⟨m, Ev.step (fun k => rfl) (ev_neg (by omega) (Ev.now _)), Or.inl rfl, Int.le_refl _, fun y hy => by rw [List.drop_length] at hy; simp at hy⟩
  ·intro i hi ih m
   obtain ⟨r, h1, h2, h3, h4⟩ := ih (mn m l[i])
   obtain ⟨m1, m2, m3⟩ := mn_cases m l[i]
   refine ⟨r, Ev.step (fun k => rfl) (ev_pos (by omega) (ev_pos (by omega) (by rw [rd_at hi, w1 hi hn]; exact h1))), ?_, by omega, ?_⟩
   ·rw [List.drop_eq_getElem_cons hi, List.mem_cons]
    rcases h2 with h2 | h2
    ·rcases m1 with m1 | m1
     ·exact Or.inl (by omega)
     ·exact Or.inr (Or.inl (by omega))
    ·exact Or.inr (Or.inr h2)
   ·rw [List.drop_eq_getElem_cons hi]
    intro y hy
    rcases List.mem_cons.1 hy with rfl | hy
    ·omega
    ·exact h4 y hy
 obtain ⟨r, h1, h2, h3, h4⟩ := key 1 h (l[0])
 have e : rd l 0 = l[0] := rd_at (i := 0) h
 have hd : l = l[0] :: l.drop 1 := by have := List.drop_eq_getElem_cons h; rw [List.drop_zero] at this; exact this
 refine ⟨r, ev_neg (by omega) (ev_pos (by omega) (by rw [e]; exact h1)), ?_, fun y hy => ?_⟩
 ·rcases h2 with h2 | h2
  ·rw [h2]; exact List.getElem_mem h
  ·exact List.mem_of_mem_drop h2
 ·rw [hd] at hy
  rcases List.mem_cons.1 hy with rfl | hy
  ·exact h3
  ·exact h4 y hy
theorem Max_ev {l : List Int} (h : 0 < l.length) (hn : l.length ≤ 9223372036854775807) : ∃ r, Ev (fun k => slices_Max_int_int.f k l) r ∧ r ∈ l ∧ ∀ y ∈ l, y ≤ r := by
 unfold slices_Max_int_int.f
 have key : ∀ i, i ≤ l.length → ∀ m : Int, ∃ r, Ev (fun k => slices_Max_int_int.l0 k l m (i : Int)) r ∧ (r = m ∨ r ∈ l.drop i) ∧ m ≤ r ∧ ∀ y ∈ l.drop i, y ≤ r := by
  apply down
  ·intro m
   exact ⟨m, Ev.step (fun k => rfl) (ev_neg (by omega) (Ev.now _)), Or.inl rfl, Int.le_refl _, fun y hy => by rw [List.drop_length] at hy; simp at hy⟩
  ·intro i hi ih m
   obtain ⟨r, h1, h2, h3, h4⟩ := ih (mx m l[i])
   obtain ⟨m1, m2, m3⟩ := mx_cases m l[i]
   refine ⟨r, Ev.step (fun k => rfl) (ev_pos (by omega) (ev_pos (by omega) (by rw [rd_at hi, w1 hi hn]; exact h1))), ?_, by omega, ?_⟩
   ·rw [List.drop_eq_getElem_cons hi, List.mem_cons]
    rcases h2 with h2 | h2
    ·rcases m1 with m1 | m1
     ·exact Or.inl (by omega)
     ·exact Or.inr (Or.inl (by omega))
    ·exact Or.inr (Or.inr h2)
   ·rw [List.drop_eq_getElem_cons hi]
    intro y hy
    rcases List.mem_cons.1 hy with rfl | hy
    ·omega
    ·exact h4 y hy
 obtain ⟨r, h1, h2, h3, h4⟩ := key 1 h (l[0])
 have e : rd l 0 = l[0] := rd_at (i := 0) h
 have hd : l = l[0] :: l.drop 1 := by have := List.drop_eq_getElem_cons h; rw [List.drop_zero] at this; exact this
 refine ⟨r, ev_neg (by omega) (ev_pos (by omega) (by rw [e]; exact h1)), ?_, fun y hy => ?_⟩
 ·rcases h2 with h2 | h2
  ·rw [h2]; exact List.getElem_mem h
  ·exact List.mem_of_mem_drop h2
 ·rw [hd] at hy
  rcases List.mem_cons.1 hy with rfl | hy
  ·exact h3
  ·exact h4 y hy
theorem isRank_ev (t : Int) {l : List Int} (hn : l.length ≤ 9223372036854775807) : Ev (fun k => impl_isRank.f k t l) (rankOk t l) := by
 unfold impl_isRank.f
 refine ev_bindc (areThings_eq t) ?_
 by_cases ht : 1 ≤ t ∧ t ≤ 3
 ·refine ev_pos (decide_eq_true ht) (ev_pos (by omega) ?_)
  rw [shl_wn ht]
  refine Ev.step (fun k => rfl) ?_
  simp only [impl_isRank.j0]
  by_cases hl : l.length = wn t
  ·refine ev_neg (by rw [hl]; simp) ?_
   have h2 := (wn_le t).2
   obtain ⟨m, hm, hm1, hm2⟩ := Min_ev (l := l) (by omega) hn
   obtain ⟨M, hM, hM1, hM2⟩ := Max_ev (l := l) (by omega) hn
   refine Ev.bind hm ?_
   by_cases h0 : m = 0
   ·refine ev_pos h0 (Ev.bind hM (ev_eq (Ev.now _) (decide_eq_decide.2 ?_)))
    subst h0
    constructor
    ·intro h9
     exact ⟨ht, hl, fun x hx => ⟨hm2 x hx, Int.le_trans (hM2 x hx) h9⟩, hm1⟩
    ·intro h
     exact (h.2.2.1 M hM1).2
   ·refine ev_neg h0 (ev_eq (Ev.now _) ?_)
    unfold rankOk
    rw [decide_eq_false]
    rintro ⟨_, _, h1, h2⟩
    have := hm2 0 h2
    have := (h1 m hm1).1
    omega
  ·refine ev_pos (by rw [bne_iff_ne]; omega) (ev_eq (Ev.now _) ?_)
   unfold rankOk
   rw [decide_eq_false (fun k => hl k.2.1)]
 ·refine ev_neg (by rw [decide_eq_false ht]; decide) (Ev.step (fun k => rfl) ?_)
  simp only [impl_isRank.j0]
  refine ev_pos trivial (ev_eq (Ev.now _) ?_)
  unfold rankOk
  rw [decide_eq_false (fun k => ht k.1)]

/-! ### tidy: the program -/
theorem less_eq (a b : Int) : cmp_Less_int.f a b = some (decide (a < b)) := by
 unfold cmp_Less_int.f cmp_isNaN_int.f
 rw [Option.bind_some, bne_self_eq_false, if_neg (by decide)]
theorem sort_ev {l : List Int} (hn : l.length ≤ 8) : ∃ r, Ev (fun k => slices_Sort_int_int.f k l) r ∧ UpTo r r.length ∧ r.length = l.length ∧ ∀ y, y ∈ r ↔ y ∈ l := by
 obtain ⟨n, en⟩ : ∃ n, n = l.length := ⟨_, rfl⟩
 have outer : ∀ i, i ≤ n → ∀ m : List Int, m.length = n → UpTo m i → ∃ r, Ev (fun k => slices_insertionSortOrdered_int.l0 k m 0 (n : Int) (i : Int)) r ∧ UpTo r n ∧ r.length = n ∧ ∀ y, y ∈ r ↔ y ∈ m := by
  apply down
  ·intro m hm hu
   exact ⟨m, Ev.step (fun k => rfl) (ev_neg (by omega) (Ev.now _)), hu, hm, fun y => Iff.rfl⟩
  ·intro i hi ih m hm hu
   have inner : ∀ j, j ≤ i → ∀ m : List Int, m.length = n → Ins m i j → ∃ r, Ev (fun k => slices_insertionSortOrdered_int.l1 k m 0 (n : Int) (i : Int) (j : Int)) r ∧ UpTo r n ∧ r.length = n ∧ ∀ y, y ∈ r ↔ y ∈ m := by
    intro j
    induction j with
    | zero =>
     intro _ m hm hI
     obtain ⟨r, h1, h2⟩ := ih m hm hI.zero
     refine ⟨r, Ev.step (fun k => rfl) (ev_neg (by omega) ?_), h2⟩
     rw [w1 hi (by omega)]
     exact h1
    | succ j ihj =>
     intro hj m hm hI
     have e1 : wrap64 (((j + 1 : Nat) : Int) - 1) = (j : Int) := by rw [w64 (by omega) (by omega)]; omega
     have hrd1 : rd m ((j + 1 : Nat) : Int) = m.getD (j + 1) 0 := rd_getD m (j + 1)
     have hrd0 : rd m (j : Int) = m.getD j 0 := rd_getD m j
     by_cases hlt : m.getD (j + 1) 0 < m.getD j 0
     ·obtain ⟨r, h1, h2, h3, h4⟩ := ihj (by omega) (sw m j) (by rw [sw_length]; exact hm) (hI.next hj (by omega) hlt)
      refine ⟨r, Ev.step (fun k => rfl) (ev_pos (by omega) (ev_pos (by omega) (ev_pos (by omega) (ev_pos (by rw [e1]; omega) (ev_pos (by rw [e1]; omega) (ev_bindc (less_eq _ _) ?_)))))), h2, h3, fun y => (h4 y).trans (sw_mem (by omega) y)⟩
      rw [e1, hrd1, hrd0]
      refine ev_pos (decide_eq_true hlt) ?_
      rw [Int.toNat_natCast, Int.toNat_natCast]
      exact h1
     ·obtain ⟨r, h1, h2⟩ := ih m hm (hI.stop (by omega))
      refine ⟨r, Ev.step (fun k => rfl) (ev_pos (by omega) (ev_pos (by omega) (ev_pos (by omega) (ev_pos (by rw [e1]; omega) (ev_pos (by rw [e1]; omega) (ev_bindc (less_eq _ _) ?_)))))), h2⟩
      rw [e1, hrd1, hrd0]
      refine ev_neg (by rw [decide_eq_false hlt]; decide) ?_
      rw [w1 hi (by omega)]
      exact h1
   obtain ⟨r, h1, h2⟩ := inner i (Nat.le_refl _) m hm (Ins.start hu)
   exact ⟨r, Ev.step (fun k => rfl) (ev_pos (by omega) h1), h2⟩
 have hu1 : ∀ m : List Int, UpTo m 1 := fun m p q h1 h2 => by omega
 have hlen : ∃ v, bits_Len.f (IntKind.u64.wrap (l.length : Int)) = some v := by
  have : ∀ n : Fin 9, (bits_Len.f (IntKind.u64.wrap (n.val : Int))).isSome = true := by decide +kernel
  exact Option.isSome_iff_exists.1 (this ⟨l.length, by omega⟩)
 obtain ⟨v, hv⟩ := hlen
 have start : ∃ r, Ev (fun k => slices_insertionSortOrdered_int.l0 k l 0 (n : Int) 1) r ∧ UpTo r n ∧ r.length = n ∧ ∀ y, y ∈ r ↔ y ∈ l := by
  by_cases h1 : 1 ≤ n
  ·exact outer 1 h1 l en.symm (hu1 l)
  ·exact ⟨l, Ev.step (fun k => rfl) (ev_neg (by omega) (Ev.now _)), fun p q h1 h2 => by omega, en.symm, fun y => Iff.rfl⟩
 obtain ⟨r, h1, h2, h3, h4⟩ := start
 refine ⟨r, ?_, by rw [h3]; exact h2, by omega, h4⟩
 unfold slices_Sort_int_int.f
 refine ev_bindc hv (Ev.bind ?_ (Ev.now _))
 unfold slices_pdqsortOrdered_int.f
 refine ev_pos (by rw [w64 (by omega) (by omega)]; omega) ?_
 unfold slices_insertionSortOrdered_int.f
 rw [show wrap64 ((0 : Int) + 1) = 1 from by decide +kernel, ← en]
 exact h1
theorem compact_spec {l : List Int} (hs : UpTo l l.length) : (Lib.compact l).Pairwise (· < ·) ∧ ∀ y, y ∈ Lib.compact l ↔ y ∈ l := by
 have hd : ∀ m, m < l.length → l.toArray[m]! = l.getD m 0 := fun m hm => by simp [hm]
 have key : ∀ m, m ≤ l.length → (Lib.compactUpTo l.toArray m).Pairwise (· < ·) ∧ (∀ y ∈ Lib.compactUpTo l.toArray m, ∃ p, p < m ∧ l.getD p 0 = y) ∧ ∀ p, p < m → l.getD p 0 ∈ Lib.compactUpTo l.toArray m := by
  intro m
  induction m with
  | zero => intro _; exact ⟨List.Pairwise.nil, fun y hy => by simp [Lib.compactUpTo] at hy, fun p hp => by omega⟩
  | succ m ih =>
   intro hm
   obtain ⟨h1, h2, h3⟩ := ih (by omega)
   rw [Lib.compactUpTo_succ]
   by_cases hk : Lib.keeps l.toArray m = true
   ·rw [if_pos hk, hd m (by omega)]
    refine ⟨List.pairwise_append.2 ⟨h1, List.pairwise_singleton _ _, fun y hy z hz => ?_⟩, fun y hy => ?_, fun p hp => ?_⟩
    ·rw [List.mem_singleton.1 hz]
     obtain ⟨p, hp, rfl⟩ := h2 y hy
     unfold Lib.keeps at hk
     rw [decide_eq_true_iff] at hk
     rcases hk with hk | hk
     ·omega
     ·rw [hd m (by omega), hd (m - 1) (by omega)] at hk
      have a := hs (m - 1) m (by omega) (by omega)
      by_cases e : p = m - 1
      ·rw [e]; omega
      ·have := hs p (m - 1) (by omega) (by omega); omega
    ·rcases List.mem_append.1 hy with hy | hy
     ·obtain ⟨p, hp, e⟩ := h2 y hy
      exact ⟨p, by omega, e⟩
     ·exact ⟨m, by omega, (List.mem_singleton.1 hy).symm⟩
    ·rw [List.mem_append]
     by_cases e : p = m
     ·rw [e]; exact Or.inr (List.mem_singleton.2 rfl)
     ·exact Or.inl (h3 p (by omega))
   ·rw [if_neg hk, List.append_nil]
    refine ⟨h1, fun y hy => by obtain ⟨p, hp, e⟩ := h2 y hy; exact ⟨p, by omega, e⟩, fun p hp => ?_⟩
    by_cases e : p = m
    ·unfold Lib.keeps at hk
     rw [decide_eq_true_iff] at hk
     have hk2 : l.toArray[m]! = l.toArray[m - 1]! := by
      by_cases q : l.toArray[m]! = l.toArray[m - 1]!
      ·exact q
      ·exact absurd (Or.inr q) hk
     have hm0 : m ≠ 0 := fun q => hk (Or.inl q)
     rw [hd m (by omega), hd (m - 1) (by omega)] at hk2
     rw [e, hk2]
     exact h3 (m - 1) (by omega)
    ·exact h3 p (by omega)
 obtain ⟨h1, h2, h3⟩ := key l.length (Nat.le_refl _)
 refine ⟨h1, fun y => ?_⟩
 rw [mem_getD (l := l)]
 show y ∈ Lib.compactUpTo l.toArray l.length ↔ _
 constructor
 ·intro hy
  obtain ⟨p, hp, e⟩ := h2 y hy
  exact ⟨p, hp, e⟩
 ·rintro ⟨p, hp, rfl⟩
  exact h3 p hp
theorem index_ev {c : List Int} (hc : c.Pairwise (· < ·)) (h0 : ∀ x ∈ c, 0 ≤ x) (hn : c.length ≤ 100) {x : Int} (hx : x ∈ c) : Ev (fun k => slices_Index_int_int.f k c x) (lev c x : Int) := by
 unfold slices_Index_int_int.f
 obtain ⟨p, hp, rfl⟩ := List.mem_iff_getElem.1 hx
 rw [idx_asc hc h0 hp]
 have hget := List.pairwise_iff_getElem.1 hc
 have key : ∀ i, i ≤ p → Ev (fun k => slices_Index_int_int.l0 k c c[p] (c.length : Int) (i : Int)) (p : Int) := by
  apply down
  ·exact Ev.step (fun k => rfl) (ev_pos (by omega) (ev_pos (by omega) (ev_pos (by omega) (ev_pos (rd_at hp).symm (Ev.now _)))))
  ·intro i hi ih
   have hne : ¬ c[p] = rd c (i : Int) := by rw [rd_at (by omega)]; have := hget i p (by omega) hp hi; omega
   refine Ev.step (fun k => rfl) (ev_pos (by omega) (ev_pos (by omega) (ev_pos (by omega) (ev_neg hne ?_))))
   rw [w1 (n := c.length) (by omega) (by omega)]
   exact ih
 exact key 0 (Nat.zero_le _)
theorem tidy_ev {l : List Int} (hn : l.length ≤ 8) (h0 : ∀ x ∈ l, 0 ≤ x) : Ev (fun k => impl_tidy.f k l) (tidyL l) := by
 unfold impl_tidy.f
 obtain ⟨r, h1, h2, h3, h4⟩ := sort_ev hn
 obtain ⟨c1, c2⟩ := compact_spec h2
 have hcl := slices_Compact_int_int.len r
 refine ev_bindc rfl (ev_pos (by show 0 + l.length < _; omega) ?_)
 rw [List.nil_append]
 refine Ev.bind h1 (ev_bindc rfl ?_)
 obtain ⟨c, ec⟩ : ∃ c, c = Lib.compact r := ⟨_, rfl⟩
 rw [← ec] at c1 c2 hcl ⊢
 have hcm : ∀ y, y ∈ c ↔ y ∈ l := fun y => (c2 y).trans (h4 y)
 have key : ∀ i, i ≤ l.length → Ev (fun k => impl_tidy.l0 k c ((l.take i).map fun x => (lev l x : Int)) l (l.length : Int) (i : Int)) (tidyL l) := by
  apply down
  ·refine Ev.step (fun k => rfl) (ev_neg (by omega) (ev_eq (Ev.now _) ?_))
   rw [List.take_length]
   rfl
  ·intro i hi ih
   have hx := index_ev c1 (fun x hx => h0 x ((hcm x).1 hx)) (by omega) ((hcm l[i]).2 (List.getElem_mem hi))
   rw [lev_congr hcm] at hx
   refine Ev.step (fun k => rfl) (ev_pos (by omega) (ev_pos (by omega) (ev_pos (by omega) ?_)))
   rw [rd_at hi]
   refine Ev.bind hx (ev_pos (by rw [List.length_map, List.length_take]; omega) ?_)
   rw [w1 hi (by omega)]
   rw [List.take_succ_eq_append_getElem hi, List.map_append] at ih
   exact ih
 exact key 0 (Nat.zero_le _)
theorem Equal_ev {l m : List Int} (hn : l.length ≤ 9223372036854775807) : Ev (fun k => slices_Equal_int_int.f k l m) (decide (l = m)) := by
 unfold slices_Equal_int_int.f
 by_cases hl : l.length = m.length
 ·refine ev_pos (by omega) ?_
  have key : ∀ i, i ≤ l.length → Ev (fun k => slices_Equal_int_int.l0 k l m (l.length : Int) (i : Int)) (decide (l.drop i = m.drop i)) := by
   apply down
   ·refine Ev.step (fun k => rfl) (ev_neg (by omega) (ev_eq (Ev.now _) ?_))
    rw [List.drop_length, List.drop_of_length_le (by omega)]
    exact (decide_eq_true rfl).symm
   ·intro i hi ih
    refine Ev.step (fun k => rfl) (ev_pos (by omega) (ev_pos (by omega) (ev_pos (by omega) (ev_pos (by omega) ?_))))
    rw [rd_at hi, rd_at (by omega), List.drop_eq_getElem_cons hi, List.drop_eq_getElem_cons (l := m) (by omega)]
    by_cases e : l[i] = m[i]
    ·refine ev_pos e ?_
     rw [w1 hi hn]
     refine ev_eq ih (decide_eq_decide.2 ?_)
     rw [List.cons.injEq]
     exact ⟨fun h => ⟨e, h⟩, fun h => h.2⟩
    ·refine ev_neg e (ev_eq (Ev.now _) ?_)
     rw [decide_eq_false (fun h => e (List.cons.inj h).1)]
  have := key 0 (Nat.zero_le _)
  rw [List.drop_zero, List.drop_zero] at this
  exact this
 ·refine ev_neg (by omega) (ev_eq (Ev.now _) ?_)
  rw [decide_eq_false (fun h => hl (by rw [h]))]
end Go.Proofs.Ytihgpkohglcijaa.Pl
