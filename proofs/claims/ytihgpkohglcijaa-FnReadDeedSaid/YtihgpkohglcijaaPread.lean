/- Plain laws: the deed of a text, and texts cut at a byte. -/
import Derived.Test.YtihgpkohglcijaaPx2
import Derived.Test.YtihgpkohglcijaaPx3
import Derived.Test.YtihgpkohglcijaaPdeed
namespace Go.Proofs.Ytihgpkohglcijaa.Pl
open Go.RowKit Go.Proofs.YtihgpkohglcijaaW.PrintWords Go.Proofs.YtihgpkohglcijaaW.PrintLast Go.Proofs.YtihgpkohglcijaaW.PrintMore Go.Proofs.Ytihgpkohglcijaa.P Go.Proofs.Ytihgpkohglcijaa.Mt

/-! ### bytes as lists -/
theorem size_list (s : ByteArray) : s.toList.length = s.size := by rw [toList_data, Array.length_toList]; rfl
theorem mk_list (l : List UInt8) : (⟨l.toArray⟩ : ByteArray).toList = l := by rw [toList_data]
theorem list_append (a b : ByteArray) : (a ++ b).toList = a.toList ++ b.toList := by
  rw [toList_data, toList_data, toList_data, ByteArray.data_append, Array.toList_append]
theorem list_extract (s : ByteArray) (i j : Nat) : (s.extract i j).toList = (s.toList.drop i).take (j - i) := by
  rw [toList_data, toList_data, ByteArray.data_extract, Array.toList_extract, List.extract_eq_take_drop]
theorem list_from (s : ByteArray) (i : Nat) : (s.extract i s.size).toList = s.toList.drop i := by
  rw [list_extract, List.take_of_length_le]
  rw [List.length_drop, size_list]
  exact Nat.le_refl _
theorem bt_list (s : ByteArray) {i : Nat} (h : i < s.size) : bt s (i : Int) = ((s.toList[i]'(by rw [size_list]; exact h)).toNat : Int) := by
  have h2 := bt_at s (i : Int) (by simpa using h)
  rw [← h2]
  simp only [toList_data]
  rfl
/-- The place of a byte: the first one, or nowhere. -/
theorem indexByte_cases (l : List UInt8) (c : UInt8) : (Lib.indexByte l c = -1 ∧ c ∉ l) ∨ ∃ (a b : List UInt8), l = a ++ c :: b ∧ c ∉ a ∧ Lib.indexByte l c = (a.length : Int) := by
  induction l with
  | nil => exact Or.inl ⟨rfl, by simp⟩
  | cons x l ih =>
    unfold Lib.indexByte
    by_cases hx : (x == c) = true
    · rw [if_pos hx]
      exact Or.inr ⟨[], l, by rw [beq_iff_eq.1 hx]; rfl, by simp, rfl⟩
    · rw [if_neg hx]
      have hxc : c ≠ x := fun e => hx (by rw [e]; exact beq_self_eq_true x)
      rcases ih with ⟨h1, h2⟩ | ⟨a, b, h1, h2, h3⟩
      · rw [h1, if_pos (by decide)]
        exact Or.inl ⟨rfl, by rw [List.mem_cons]; rintro (h | h); exact hxc h; exact h2 h⟩
      · rw [h3, if_neg (by rw [beq_iff_eq]; omega)]
        exact Or.inr ⟨x :: a, b, by rw [h1]; rfl, by rw [List.mem_cons]; rintro (h | h); exact hxc h; exact h2 h, by rw [List.length_cons]; omega⟩
/-- A text cut at the first byte c. -/
theorem cut_cases (s : ByteArray) (c : UInt8) (hs : s.size < 9223372036854775807) :
    (strings_Cut.f s ⟨#[c]⟩ = some (s, (⟨#[]⟩ : ByteArray), false) ∧ c ∉ s.toList) ∨
    ∃ a b : ByteArray, strings_Cut.f s ⟨#[c]⟩ = some (a, b, true) ∧ s.toList = a.toList ++ c :: b.toList ∧ c ∉ a.toList := by
  have hbt : bt (⟨#[c]⟩ : ByteArray) 0 = (c.toNat : Int) := rfl
  have key : ∀ i : Int, stringslite_Index.f s ⟨#[c]⟩ = some i → i = Lib.indexByte s.toList c → ((strings_Cut.f s ⟨#[c]⟩ = some (s, (⟨#[]⟩ : ByteArray), false) ∧ c ∉ s.toList) ∨
    ∃ a b : ByteArray, strings_Cut.f s ⟨#[c]⟩ = some (a, b, true) ∧ s.toList = a.toList ++ c :: b.toList ∧ c ∉ a.toList) := by
    intro i hi hv
    unfold strings_Cut.f stringslite_Cut.f
    rw [hi, Option.bind_some]
    rcases indexByte_cases s.toList c with ⟨h1, h2⟩ | ⟨a, b, h1, h2, h3⟩
    · rw [hv, h1, if_pos (by decide)]
      exact Or.inl ⟨rfl, h2⟩
    · have hl : a.length + (b.length + 1) = s.size := by rw [← size_list, h1, List.length_append, List.length_cons]
      rw [hv, h3, if_neg (by omega), Int.toNat_natCast, if_pos (by show a.length + 1 ≤ s.size; omega)]
      refine Or.inr ⟨_, _, rfl, ?_, ?_⟩
      · rw [list_extract, List.drop_zero, Nat.sub_zero, list_from, h1, List.take_left]
        congr 1
        show c :: b = c :: (a ++ c :: b).drop (a.length + 1)
        rw [List.drop_append, List.drop_of_length_le (by omega), show a.length + 1 - a.length = 1 from by omega]
        rfl
      · rw [list_extract, List.drop_zero, Nat.sub_zero, h1, List.take_left]
        exact h2
  unfold stringslite_Index.f at key
  rw [if_pos (show (⟨#[c]⟩ : ByteArray).size = 1 from rfl), if_pos hs] at key
  by_cases he : ((⟨#[c]⟩ : ByteArray).toList == s.toList) = true
  · rw [if_pos he] at key
    refine key 0 rfl ?_
    have : s.toList = [c] := by rw [← beq_iff_eq.1 he]; exact mk_list [c]
    rw [this]
    show (0 : Int) = if c == c then 0 else _
    rw [if_pos (beq_self_eq_true c)]
  · rw [if_neg he] at key
    refine key _ rfl ?_
    show Lib.indexByte s.data.toList ((bt (⟨#[c]⟩ : ByteArray) 0).toNat.toUInt8) = _
    rw [hbt, Int.toNat_natCast, toList_data]
    congr 1
    simp

/-! ### the deed of a text -/
def rdeed (s : ByteArray) : Int × ByteArray × Bool :=
  if s.toList = [98, 97, 99, 107] then (2, (⟨#[]⟩ : ByteArray), true)
  else if [102, 105, 114, 115, 116, 32] <+: s.toList ∧ plain (s.extract 6 s.size) = true ∧ 6 < s.size then (0, s.extract 6 s.size, true)
  else if [97, 108, 108, 32] <+: s.toList ∧ plain (s.extract 4 s.size) = true ∧ 4 < s.size then (1, s.extract 4 s.size, true)
  else (0, (⟨#[]⟩ : ByteArray), false)
theorem back_list : sBack.toList = [98, 97, 99, 107] := by decide +kernel
theorem first_list : sFirst.toList = [102, 105, 114, 115, 116, 32] := by decide +kernel
theorem all_list : sAll.toList = [97, 108, 108, 32] := by decide +kernel
theorem nil_list : (⟨#[]⟩ : ByteArray).toList = [] := by decide +kernel
theorem prefix_ext {p : List UInt8} {s : ByteArray} (h : p <+: s.toList) : s.toList = p ++ (s.extract p.length s.size).toList := by
  obtain ⟨t, ht⟩ := h
  rw [list_from, ← ht, List.drop_left]
theorem extract_size (s : ByteArray) {i : Nat} (_ : i ≤ s.size) : (s.extract i s.size).size = s.size - i := by rw [← size_list, list_from, List.length_drop, size_list]
/-- When the text of a deed with a sentence is a text. -/
theorem deedT0 (s t : ByteArray) : (deedT 0 t).toList = s.toList ↔ (s.toList = [102, 105, 114, 115, 116, 32] ++ t.toList ∧ plain t = true ∧ t.size ≠ 0) ∨ (¬ (plain t = true ∧ t.size ≠ 0) ∧ s.toList = []) := by
  unfold deedT
  rw [if_neg (by omega)]
  by_cases h : plain t = true ∧ t.size ≠ 0
  · rw [if_pos h, if_pos rfl, list_append, first_list]
    exact ⟨fun k => Or.inl ⟨k.symm, h⟩, fun k => k.elim (fun k => k.1.symm) (fun k => absurd h k.1)⟩
  · rw [if_neg h, nil_list]
    exact ⟨fun k => Or.inr ⟨h, k.symm⟩, fun k => k.elim (fun k => absurd k.2 h) (fun k => k.2.symm)⟩
theorem deedT1 (s t : ByteArray) : (deedT 1 t).toList = s.toList ↔ (s.toList = [97, 108, 108, 32] ++ t.toList ∧ plain t = true ∧ t.size ≠ 0) ∨ (¬ (plain t = true ∧ t.size ≠ 0) ∧ s.toList = []) := by
  unfold deedT
  rw [if_neg (by omega)]
  by_cases h : plain t = true ∧ t.size ≠ 0
  · rw [if_pos h, if_neg (by omega), if_pos rfl, list_append, all_list]
    exact ⟨fun k => Or.inl ⟨k.symm, h⟩, fun k => k.elim (fun k => k.1.symm) (fun k => absurd h k.1)⟩
  · rw [if_neg h, nil_list]
    exact ⟨fun k => Or.inr ⟨h, k.symm⟩, fun k => k.elim (fun k => absurd k.2 h) (fun k => k.2.symm)⟩
theorem rdeed_first {s t : ByteArray} (h : s.toList = [102, 105, 114, 115, 116, 32] ++ t.toList) (hp : plain t = true) (h0 : t.size ≠ 0) : rdeed s = (0, t, true) := by
  have e : s.extract 6 s.size = t := ext_list (by rw [list_from, h]; rfl)
  have hl : s.size = 6 + t.size := by rw [← size_list, h, List.length_append, size_list]; rfl
  unfold rdeed
  rw [if_neg (by rw [h]; intro k; injection k with k _; exact absurd k (by decide)), if_pos ⟨⟨t.toList, h.symm⟩, by rw [e]; exact hp, by omega⟩, e]
theorem rdeed_all {s t : ByteArray} (h : s.toList = [97, 108, 108, 32] ++ t.toList) (hp : plain t = true) (h0 : t.size ≠ 0) : rdeed s = (1, t, true) := by
  have e : s.extract 4 s.size = t := ext_list (by rw [list_from, h]; rfl)
  have hl : s.size = 4 + t.size := by rw [← size_list, h, List.length_append, size_list]; rfl
  unfold rdeed
  rw [if_neg (by rw [h]; intro k; injection k with k _; exact absurd k (by decide)),
    if_neg (fun k => by obtain ⟨⟨u, hu⟩, _⟩ := k; rw [h] at hu; injection hu with hu _; exact absurd hu (by decide)),
    if_pos ⟨⟨t.toList, h.symm⟩, by rw [e]; exact hp, by omega⟩, e]
theorem rdeed_back {s : ByteArray} (h : s.toList = [98, 97, 99, 107]) : rdeed s = (2, (⟨#[]⟩ : ByteArray), true) := by unfold rdeed; rw [if_pos h]
theorem rdeed_none {s : ByteArray} (h1 : s.toList ≠ [98, 97, 99, 107]) (h2 : ∀ t : ByteArray, s.toList = [102, 105, 114, 115, 116, 32] ++ t.toList → ¬ (plain t = true ∧ t.size ≠ 0))
    (h3 : ∀ t : ByteArray, s.toList = [97, 108, 108, 32] ++ t.toList → ¬ (plain t = true ∧ t.size ≠ 0)) : rdeed s = (0, (⟨#[]⟩ : ByteArray), false) := by
  unfold rdeed
  rw [if_neg h1, if_neg (fun k => h2 _ (prefix_ext k.1) ⟨k.2.1, by show (s.extract 6 s.size).size ≠ 0; rw [extract_size s (by omega)]; omega⟩),
    if_neg (fun k => h3 _ (prefix_ext k.1) ⟨k.2.1, by show (s.extract 4 s.size).size ≠ 0; rw [extract_size s (by omega)]; omega⟩)]
/-- Each text: what its deed is. -/
theorem rdeed_cases (s : ByteArray) : (s.toList = [98, 97, 99, 107] ∧ rdeed s = (2, (⟨#[]⟩ : ByteArray), true)) ∨
    (∃ t : ByteArray, s.toList = [102, 105, 114, 115, 116, 32] ++ t.toList ∧ plain t = true ∧ t.size ≠ 0 ∧ rdeed s = (0, t, true)) ∨
    (∃ t : ByteArray, s.toList = [97, 108, 108, 32] ++ t.toList ∧ plain t = true ∧ t.size ≠ 0 ∧ rdeed s = (1, t, true)) ∨
    (s.toList ≠ [98, 97, 99, 107] ∧ (∀ t : ByteArray, s.toList = [102, 105, 114, 115, 116, 32] ++ t.toList → ¬ (plain t = true ∧ t.size ≠ 0)) ∧ (∀ t : ByteArray, s.toList = [97, 108, 108, 32] ++ t.toList → ¬ (plain t = true ∧ t.size ≠ 0)) ∧ rdeed s = (0, (⟨#[]⟩ : ByteArray), false)) := by
  by_cases h1 : s.toList = [98, 97, 99, 107]
  · exact Or.inl ⟨h1, rdeed_back h1⟩
  by_cases h2 : ∃ t : ByteArray, s.toList = [102, 105, 114, 115, 116, 32] ++ t.toList ∧ plain t = true ∧ t.size ≠ 0
  · obtain ⟨t, a, b, c⟩ := h2
    exact Or.inr (Or.inl ⟨t, a, b, c, rdeed_first a b c⟩)
  by_cases h3 : ∃ t : ByteArray, s.toList = [97, 108, 108, 32] ++ t.toList ∧ plain t = true ∧ t.size ≠ 0
  · obtain ⟨t, a, b, c⟩ := h3
    exact Or.inr (Or.inr (Or.inl ⟨t, a, b, c, rdeed_all a b c⟩))
  have k2 : ∀ t : ByteArray, s.toList = [102, 105, 114, 115, 116, 32] ++ t.toList → ¬ (plain t = true ∧ t.size ≠ 0) := fun t a b => h2 ⟨t, a, b⟩
  have k3 : ∀ t : ByteArray, s.toList = [97, 108, 108, 32] ++ t.toList → ¬ (plain t = true ∧ t.size ≠ 0) := fun t a b => h3 ⟨t, a, b⟩
  exact Or.inr (Or.inr (Or.inr ⟨h1, k2, k3, rdeed_none h1 k2 k3⟩))
theorem cut_unique {c : UInt8} : ∀ {a a' b b' : List UInt8}, c ∉ a → c ∉ a' → a ++ c :: b = a' ++ c :: b' → a = a'
  | [], [], _, _, _, _, _ => rfl
  | [], y :: a', _, _, _, h2, e => by injection e with e _; exact absurd (by rw [e]; exact List.mem_cons_self) h2
  | x :: a, [], _, _, h1, _, e => by injection e with e _; exact absurd (by rw [← e]; exact List.mem_cons_self) h1
  | x :: a, y :: a', _, _, h1, h2, e => by
    injection e with e1 e2
    rw [e1, cut_unique (fun k => h1 (List.mem_cons_of_mem _ k)) (fun k => h2 (List.mem_cons_of_mem _ k)) e2]
theorem deedT2 (t : ByteArray) (h : t.size = 0) : (deedT 2 t).toList = [98, 97, 99, 107] := by unfold deedT; rw [if_pos ⟨rfl, h⟩, back_list]
theorem deedT2' (t : ByteArray) (h : t.size ≠ 0) : (deedT 2 t).toList = [] := by
  unfold deedT
  rw [if_neg (fun k => h k.2)]
  split
  · rw [if_neg (by omega), if_neg (by omega), nil_list]
  · exact nil_list
theorem impl_readDeed_ev {s : ByteArray} (hs : s.size ≤ 9223372036854774000) : Ev (fun k => impl_readDeed.f k s) (rdeed s) := by
  unfold impl_readDeed.f
  rcases cut_cases s 32 (by omega) with ⟨hc, hn⟩ | ⟨a, b, hc, hl, hn⟩
  · refine ev_bindc hc ?_
    show Ev (fun k => if s.toList = _ then _ else _) _
    have n1 : ∀ t : ByteArray, s.toList ≠ [102, 105, 114, 115, 116, 32] ++ t.toList := fun t e => hn (by rw [e]; simp)
    have n2 : ∀ t : ByteArray, s.toList ≠ [97, 108, 108, 32] ++ t.toList := fun t e => hn (by rw [e]; simp)
    by_cases h1 : s.toList = [102, 105, 114, 115, 116]
    · refine ev_pos h1 (Ev.bind (impl_deedText_ev 0 (s := ⟨#[]⟩) (by decide)) (ev_neg ?_ ?_))
      · show ¬ (deedT 0 (⟨#[]⟩ : ByteArray)).toList = s.toList
        rw [deedT0]
        rintro (⟨e, _⟩ | ⟨_, e⟩)
        · exact n1 _ e
        · rw [h1] at e; cases e
      · rw [rdeed_none (by rw [h1]; decide) (fun t e => absurd e (n1 t)) (fun t e => absurd e (n2 t))]
        exact Ev.now _
    refine ev_neg h1 ?_
    by_cases h2 : s.toList = [97, 108, 108]
    · refine ev_pos h2 (Ev.bind (impl_deedText_ev 1 (s := ⟨#[]⟩) (by decide)) (ev_neg ?_ ?_))
      · show ¬ (deedT 1 (⟨#[]⟩ : ByteArray)).toList = s.toList
        rw [deedT1]
        rintro (⟨e, _⟩ | ⟨_, e⟩)
        · exact n2 _ e
        · rw [h2] at e; cases e
      · rw [rdeed_none (by rw [h2]; decide) (fun t e => absurd e (n1 t)) (fun t e => absurd e (n2 t))]
        exact Ev.now _
    refine ev_neg h2 ?_
    by_cases h3 : s.toList = [98, 97, 99, 107]
    · refine ev_pos h3 (Ev.bind (impl_deedText_ev 2 (s := ⟨#[]⟩) (by decide)) (ev_pos ?_ ?_))
      · show (deedT 2 (⟨#[]⟩ : ByteArray)).toList = s.toList
        rw [deedT2 _ rfl, h3]
      · rw [rdeed_back h3]
        exact Ev.now _
    refine ev_neg h3 ?_
    rw [rdeed_none h3 (fun t e => absurd e (n1 t)) (fun t e => absurd e (n2 t))]
    exact Ev.now _
  · refine ev_bindc hc ?_
    show Ev (fun k => if a.toList = _ then _ else _) _
    have hbs : b.size ≤ 9223372036854775000 := by
      have := congrArg List.length hl
      rw [List.length_append, List.length_cons, size_list, size_list, size_list] at this
      omega
    have nb : s.toList ≠ [98, 97, 99, 107] := fun e => by
      have : (32 : UInt8) ∈ s.toList := by rw [hl]; simp
      rw [e] at this
      revert this
      decide
    by_cases h1 : a.toList = [102, 105, 114, 115, 116]
    · have hl1 : s.toList = [102, 105, 114, 115, 116, 32] ++ b.toList := by rw [hl, h1]; rfl
      refine ev_pos h1 (Ev.bind (impl_deedText_ev 0 hbs) ?_)
      by_cases hp : plain b = true ∧ b.size ≠ 0
      · rw [rdeed_first hl1 hp.1 hp.2]
        exact ev_pos ((deedT0 s b).2 (Or.inl ⟨hl1, hp⟩)) (Ev.now _)
      · refine ev_neg (fun k => ?_) ?_
        · rcases (deedT0 s b).1 k with k | k
          · exact hp k.2
          · rw [hl1] at k; cases k.2
        · rw [rdeed_none nb (fun t e k => hp (by
            have : t = b := ext_list (List.append_cancel_left (e.symm.trans hl1))
            rwa [this] at k)) (fun t e => by rw [hl1] at e; injection e with e _; exact absurd e (by decide))]
          exact Ev.now _
    refine ev_neg h1 ?_
    by_cases h2 : a.toList = [97, 108, 108]
    · have hl1 : s.toList = [97, 108, 108, 32] ++ b.toList := by rw [hl, h2]; rfl
      refine ev_pos h2 (Ev.bind (impl_deedText_ev 1 hbs) ?_)
      by_cases hp : plain b = true ∧ b.size ≠ 0
      · rw [rdeed_all hl1 hp.1 hp.2]
        exact ev_pos ((deedT1 s b).2 (Or.inl ⟨hl1, hp⟩)) (Ev.now _)
      · refine ev_neg (fun k => ?_) ?_
        · rcases (deedT1 s b).1 k with k | k
          · exact hp k.2
          · rw [hl1] at k; cases k.2
        · rw [rdeed_none nb (fun t e => by rw [hl1] at e; injection e with e _; exact absurd e (by decide)) (fun t e k => hp (by
            have : t = b := ext_list (List.append_cancel_left (e.symm.trans hl1))
            rwa [this] at k))]
          exact Ev.now _
    refine ev_neg h2 ?_
    have n1 : ∀ t : ByteArray, s.toList ≠ [102, 105, 114, 115, 116, 32] ++ t.toList := fun t e => by
      have e2 : a.toList ++ 32 :: b.toList = [102, 105, 114, 115, 116] ++ 32 :: t.toList := hl.symm.trans e
      exact h1 (cut_unique hn (by decide) e2)
    have n2 : ∀ t : ByteArray, s.toList ≠ [97, 108, 108, 32] ++ t.toList := fun t e => by
      have e2 : a.toList ++ 32 :: b.toList = [97, 108, 108] ++ 32 :: t.toList := hl.symm.trans e
      exact h2 (cut_unique hn (by decide) e2)
    by_cases h3 : a.toList = [98, 97, 99, 107]
    · refine ev_pos h3 (Ev.bind (impl_deedText_ev 2 hbs) (ev_neg (fun k => ?_) ?_))
      · have hk : (deedT 2 b).toList = s.toList := k
        by_cases hb0 : b.size = 0
        · rw [deedT2 b hb0] at hk; exact nb hk.symm
        · rw [deedT2' b hb0, hl] at hk; simp at hk
      · rw [rdeed_none nb (fun t e => absurd e (n1 t)) (fun t e => absurd e (n2 t))]
        exact Ev.now _
    refine ev_neg h3 ?_
    rw [rdeed_none nb (fun t e => absurd e (n1 t)) (fun t e => absurd e (n2 t))]
    exact Ev.now _
theorem impl_ReadDeed_ev {s : ByteArray} (hs : s.size ≤ 9223372036854774000) : Ev (fun k => impl_ReadDeed.f k s) (rdeed s) := Ev.bind (impl_readDeed_ev hs) (Ev.now _)
end Go.Proofs.Ytihgpkohglcijaa.Pl
