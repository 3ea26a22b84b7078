/- Plain laws: the deed that a text tells: the reference's. -/
import Derived.Test.YtihgpkohglcijaaPx0
import Derived.Test.YtihgpkohglcijaaPx2
import Derived.Test.YtihgpkohglcijaaPread
namespace Go.Proofs.Ytihgpkohglcijaa.Pl
open Go.RowKit Go.Proofs.YtihgpkohglcijaaW.PrintWords Go.Proofs.YtihgpkohglcijaaW.PrintLast Go.Proofs.YtihgpkohglcijaaW.PrintMore Go.Proofs.Ytihgpkohglcijaa.P Go.Proofs.Ytihgpkohglcijaa.Mt
/-! ### the reference's search -/
def firstOf (s : ByteArray) : List S26 → Int × ByteArray × Bool
  | [] => (0, (⟨#[]⟩ : ByteArray), false)
  | x :: t => if s.toList ≠ [] ∧ (deedT x.f0 x.f1).toList = s.toList then (x.f0, x.f1, true) else firstOf s t
theorem rd26_at {l : List S26} {i : Nat} (h : i < l.length) : rd_T26 l (i : Int) = l[i] := by
  unfold rd_T26
  rw [Int.toNat_natCast, List.getD_eq_getElem?_getD, List.getElem?_eq_getElem h]
  rfl
theorem first_ev (s : ByteArray) {L : List S26} (hL : L.length ≤ 1000) (hs : ∀ x ∈ L, x.f1.size ≤ 9223372036854774000) :
    ∀ i, i ≤ L.length → Ev (fun k => spec_ReadDeed.l0 k s L (i : Int)) (firstOf s (L.drop i)) := by
  apply down
  · rw [List.drop_length]
    exact Ev.step (fun k => rfl) (ev_neg (by omega) (Ev.now _))
  · intro i hi ih
    rw [List.drop_eq_getElem_cons hi]
    refine Ev.step (fun k => rfl) (ev_pos (by omega) ?_)
    by_cases h0 : s.toList = []
    · refine ev_pos h0 ?_
      rw [w1 hi (by omega)]
      unfold firstOf
      rw [if_neg (fun k => k.1 h0)]
      exact ih
    · refine ev_neg h0 (ev_pos (by omega) ?_)
      rw [rd26_at hi]
      refine Ev.bind (spec_DeedText_ev _ (s := L[i].f1) (by have := hs _ (List.getElem_mem hi); omega)) ?_
      unfold firstOf
      by_cases hd : (deedT L[i].f0 L[i].f1).toList = s.toList
      · rw [if_pos ⟨h0, hd⟩]
        exact ev_pos hd (Ev.now _)
      · rw [if_neg (fun k => hd k.2), w1 hi (by omega)]
        exact ev_neg hd ih
def cands (s : ByteArray) : List S26 := (⟨2, (⟨#[]⟩ : ByteArray)⟩ : S26) :: ((if 6 < s.size then [(⟨0, s.extract 6 s.size⟩ : S26)] else []) ++ (if 4 < s.size then [(⟨1, s.extract 4 s.size⟩ : S26)] else []))
theorem first_rdeed (s : ByteArray) : firstOf s (cands s) = rdeed s := by
  have f0 : ∀ L : List S26, (∀ x ∈ L, s.toList = [] ∨ (deedT x.f0 x.f1).toList ≠ s.toList) → firstOf s L = (0, (⟨#[]⟩ : ByteArray), false) := by
    intro L h
    induction L with
    | nil => rfl
    | cons x t ih =>
      unfold firstOf
      rw [if_neg (fun k => by rcases h x List.mem_cons_self with h | h; exact k.1 h; exact h k.2)]
      exact ih (fun y hy => h y (List.mem_cons_of_mem _ hy))
  have fb : s.toList ≠ [98, 97, 99, 107] → firstOf s (cands s) = firstOf s ((if 6 < s.size then [(⟨0, s.extract 6 s.size⟩ : S26)] else []) ++ (if 4 < s.size then [(⟨1, s.extract 4 s.size⟩ : S26)] else [])) := by
    intro h
    show (if _ then _ else _) = _
    rw [if_neg (fun k => h (by rw [← k.2]; exact deedT2 _ rfl))]
  rcases rdeed_cases s with ⟨h, e⟩ | ⟨t, h, hp, h0, e⟩ | ⟨t, h, hp, h0, e⟩ | ⟨h1, h2, h3, e⟩
  · rw [e]
    show (if _ then _ else _) = _
    rw [if_pos ⟨by rw [h]; decide, by rw [h]; exact deedT2 _ rfl⟩]
  · have hl : s.size = 6 + t.size := by rw [← size_list, h, List.length_append, size_list]; rfl
    have ex : s.extract 6 s.size = t := ext_list (by rw [list_from, h]; rfl)
    rw [e, fb (by rw [h]; intro k; injection k with k _; exact absurd k (by decide)), if_pos (by omega), ex]
    show (if _ then _ else _) = _
    rw [if_pos ⟨by rw [h]; simp, (deedT0 s t).2 (Or.inl ⟨h, hp, h0⟩)⟩]
  · have hl : s.size = 4 + t.size := by rw [← size_list, h, List.length_append, size_list]; rfl
    have ex : s.extract 4 s.size = t := ext_list (by rw [list_from, h]; rfl)
    have n6 : firstOf s ((if 6 < s.size then [(⟨0, s.extract 6 s.size⟩ : S26)] else []) ++ [(⟨1, t⟩ : S26)]) = firstOf s [(⟨1, t⟩ : S26)] := by
      by_cases c : 6 < s.size
      · rw [if_pos c]
        show (if _ then _ else _) = _
        rw [if_neg (fun k => by
          rcases (deedT0 s _).1 k.2 with ⟨k, _⟩ | ⟨_, k⟩
          · rw [h] at k; injection k with k _; exact absurd k (by decide)
          · rw [h] at k; simp at k)]
        rfl
      · rw [if_neg c]; rfl
    rw [e, fb (by rw [h]; intro k; injection k with k _; exact absurd k (by decide)), if_pos (c := 4 < s.size) (by omega), ex, n6]
    show (if _ then _ else _) = _
    rw [if_pos ⟨by rw [h]; simp, (deedT1 s t).2 (Or.inl ⟨h, hp, h0⟩)⟩]
  · rw [e, fb h1]
    apply f0
    intro x hx
    by_cases hs0 : s.toList = []
    · exact Or.inl hs0
    refine Or.inr fun k => ?_
    rcases List.mem_append.1 hx with hx | hx
    · by_cases c : 6 < s.size
      · rw [if_pos c] at hx
        rw [List.mem_singleton.1 hx] at k
        rcases (deedT0 s _).1 k with ⟨k, k2⟩ | ⟨_, k⟩
        · exact h2 _ k k2
        · exact hs0 k
      · rw [if_neg c] at hx; simp at hx
    · by_cases c : 4 < s.size
      · rw [if_pos c] at hx
        rw [List.mem_singleton.1 hx] at k
        rcases (deedT1 s _).1 k with ⟨k, k2⟩ | ⟨_, k⟩
        · exact h3 _ k k2
        · exact hs0 k
      · rw [if_neg c] at hx; simp at hx
theorem spec_ReadDeed_ev {s : ByteArray} (hs : s.size ≤ 9223372036854774000) : Ev (fun k => spec_ReadDeed.f k s) (rdeed s) := by
  have hx : ∀ i : Nat, (s.extract i s.size).size ≤ 9223372036854774000 := fun i => by rw [← size_list, list_from, List.length_drop, size_list]; omega
  rw [← first_rdeed]
  have fin : ∀ L : List S26, L.length ≤ 1000 → (∀ x ∈ L, x.f1.size ≤ 9223372036854774000) → Ev (fun k => spec_ReadDeed.j1 k s L) (firstOf s L) := by
    intro L h1 h2
    refine Ev.step (fun k => rfl) ?_
    simp only [spec_ReadDeed.j1]
    exact first_ev s h1 h2 0 (Nat.zero_le _)
  unfold spec_ReadDeed.f
  refine ev_bindc rfl ?_
  have go : ∀ L : List S26, L.length ≤ 900 → (∀ x ∈ L, x.f1.size ≤ 9223372036854774000) → Ev (fun k => spec_ReadDeed.j0 k s L) (firstOf s (L ++ (if 4 < s.size then [(⟨1, s.extract 4 s.size⟩ : S26)] else []))) := by
    intro L h1 h2
    refine Ev.step (fun k => rfl) ?_
    simp only [spec_ReadDeed.j0]
    by_cases c : 4 < s.size
    · rw [if_pos c]
      refine ev_pos (by omega) (ev_pos (by omega) (ev_pos (by omega) (fin _ (by rw [List.length_append]; exact Nat.add_le_add h1 (by decide : 1 ≤ 100)) ?_)))
      intro x hm
      rcases List.mem_append.1 hm with hm | hm
      · exact h2 x hm
      · rw [List.mem_singleton.1 hm]; exact hx 4
    · rw [if_neg c, List.append_nil]
      exact ev_neg (by omega) (fin _ (by omega) h2)
  by_cases c : 6 < s.size
  · refine ev_pos (by omega) (ev_pos (by omega) (ev_pos (by decide) ?_))
    have := go ([(⟨2, (⟨#[]⟩ : ByteArray)⟩ : S26)] ++ [(⟨0, s.extract 6 s.size⟩ : S26)]) (by simp) (by
      intro x hm
      rcases List.mem_append.1 hm with hm | hm
      · rw [List.mem_singleton.1 hm]; exact (by decide : (0 : Nat) ≤ 9223372036854774000)
      · rw [List.mem_singleton.1 hm]; exact hx 6)
    unfold cands
    rw [if_pos c]
    exact this
  · refine ev_neg (by omega) ?_
    have := go [(⟨2, (⟨#[]⟩ : ByteArray)⟩ : S26)] (by decide) (by
      intro x hm
      rw [List.mem_singleton.1 hm]; exact (by decide : (0 : Nat) ≤ 9223372036854774000))
    unfold cands
    rw [if_neg c, List.nil_append]
    exact this
end Go.Proofs.Ytihgpkohglcijaa.Pl
