/- Plain laws: insertion and runs. -/
namespace Go.Proofs.Ytihgpkohglcijaa.Pl
/-! ### insertion -/
def sw (l : List Int) (j : Nat) : List Int := (l.set (j + 1) (l.getD j 0)).set j (l.getD (j + 1) 0)
theorem sw_length (l : List Int) (j : Nat) : (sw l j).length = l.length := by unfold sw; rw [List.length_set, List.length_set]
theorem sw_get {l : List Int} {j : Nat} (h : j + 1 < l.length) (p : Nat) : (sw l j).getD p 0 = if p = j then l.getD (j + 1) 0 else if p = j + 1 then l.getD j 0 else l.getD p 0 := by
 unfold sw
 simp only [List.getD_eq_getElem?_getD, List.getElem?_set, List.length_set]
 by_cases h1 : p = j
 ·subst h1
  rw [if_pos rfl, if_pos rfl, if_pos (by omega)]; rfl
 ·by_cases h2 : p = j + 1
  ·subst h2
   simp [h]
  ·rw [if_neg (fun e => h1 e.symm), if_neg (fun e => h2 e.symm), if_neg h1, if_neg h2]
theorem mem_getD {l : List Int} {y : Int} : y ∈ l ↔ ∃ p, p < l.length ∧ l.getD p 0 = y := by
 rw [List.mem_iff_getElem]
 constructor
 ·rintro ⟨p, hp, rfl⟩
  exact ⟨p, hp, by simp [hp]⟩
 ·rintro ⟨p, hp, rfl⟩
  exact ⟨p, hp, by simp [hp]⟩
theorem sw_mem {l : List Int} {j : Nat} (h : j + 1 < l.length) (y : Int) : y ∈ sw l j ↔ y ∈ l := by
 rw [mem_getD, mem_getD, sw_length]
 constructor
 ·rintro ⟨p, hp, e⟩
  rw [sw_get h] at e
  by_cases h1 : p = j
  ·rw [if_pos h1] at e; exact ⟨j + 1, h, e⟩
  ·rw [if_neg h1] at e
   by_cases h2 : p = j + 1
   ·rw [if_pos h2] at e; exact ⟨j, by omega, e⟩
   ·rw [if_neg h2] at e; exact ⟨p, hp, e⟩
 ·rintro ⟨p, hp, e⟩
  by_cases h1 : p = j
  ·exact ⟨j + 1, h, by rw [sw_get h, if_neg (by omega), if_pos rfl, ← h1]; exact e⟩
  ·by_cases h2 : p = j + 1
   ·exact ⟨j, by omega, by rw [sw_get h, if_pos rfl, ← h2]; exact e⟩
   ·exact ⟨p, hp, by rw [sw_get h, if_neg h1, if_neg h2]; exact e⟩
/-- The first i are in order. -/
def UpTo (l : List Int) (i : Nat) : Prop := ∀ p q, p < q → q < i → l.getD p 0 ≤ l.getD q 0
def Ins (l : List Int) (i j : Nat) : Prop := (∀ p q, p < q → q ≤ i → p ≠ j → q ≠ j → l.getD p 0 ≤ l.getD q 0) ∧ ∀ q, j < q → q ≤ i → l.getD j 0 ≤ l.getD q 0
theorem Ins.start {l : List Int} {i : Nat} (h : UpTo l i) : Ins l i i := ⟨fun p q h1 h2 h3 h4 => h p q h1 (by omega), fun q h1 h2 => by omega⟩
theorem Ins.zero {l : List Int} {i : Nat} (h : Ins l i 0) : UpTo l (i + 1) := fun p q h1 h2 => by
 by_cases e : p = 0
 ·subst e; exact h.2 q h1 (by omega)
 ·exact h.1 p q h1 (by omega) e (by omega)
theorem Ins.stop {l : List Int} {i j : Nat} (h : Ins l i (j + 1)) (hle : l.getD j 0 ≤ l.getD (j + 1) 0) : UpTo l (i + 1) := fun p q h1 h2 => by
 by_cases e : p = j + 1
 ·subst e; exact h.2 q h1 (by omega)
 ·by_cases e2 : q = j + 1
  ·subst e2
   by_cases e3 : p = j
   ·rw [e3]; exact hle
   ·have := h.1 p j (by omega) (by omega) e (by omega); omega
  ·exact h.1 p q h1 (by omega) e e2
theorem Ins.next {l : List Int} {i j : Nat} (h : Ins l i (j + 1)) (hj : j + 1 ≤ i) (hi : i < l.length) (hlt : l.getD (j + 1) 0 < l.getD j 0) : Ins (sw l j) i j := by
 have hl : j + 1 < l.length := by omega
 constructor
 ·intro p q h1 h2 h3 h4
  rw [sw_get hl, sw_get hl, if_neg h3, if_neg h4]
  by_cases e : p = j + 1
  ·rw [if_pos e, if_neg (by omega)]
   exact h.1 j q (by omega) h2 (by omega) (by omega)
  ·rw [if_neg e]
   by_cases e2 : q = j + 1
   ·rw [if_pos e2]
    exact h.1 p j (by omega) (by omega) e (by omega)
   ·rw [if_neg e2]
    exact h.1 p q h1 h2 e e2
 ·intro q h1 h2
  rw [sw_get hl, sw_get hl, if_pos rfl, if_neg (by omega)]
  by_cases e : q = j + 1
  ·rw [if_pos e]; omega
  ·rw [if_neg e]
   exact h.2 q (by omega) h2
/-! ### runs of the same -/
def cmpct : List Int → List Int
 | [] => []
 | [x] => [x]
 | x :: y :: t => if x = y then cmpct (y :: t) else x :: cmpct (y :: t)
theorem cmpct_mem (y : Int) : ∀ l : List Int, y ∈ cmpct l ↔ y ∈ l
 | [] => Iff.rfl
 | [x] => Iff.rfl
 | x :: z :: t => by
  unfold cmpct
  by_cases h : x = z
  ·rw [if_pos h, cmpct_mem y (z :: t), h]
   simp
  ·rw [if_neg h, List.mem_cons, cmpct_mem y (z :: t)]
   exact List.mem_cons.symm
theorem cmpct_asc : ∀ {l : List Int}, l.Pairwise (· ≤ ·) → (cmpct l).Pairwise (· < ·)
 | [], _ => List.Pairwise.nil
 | [x], _ => List.pairwise_singleton _ _
 | x :: y :: t, h => by
  unfold cmpct
  have h2 := cmpct_asc (List.pairwise_cons.1 h).2
  by_cases e : x = y
  ·rw [if_pos e]; exact h2
  ·rw [if_neg e]
   refine List.pairwise_cons.2 ⟨fun z hz => ?_, h2⟩
   have hz' := (cmpct_mem z _).1 hz
   have h1 := (List.pairwise_cons.1 h).1
   have hxy := h1 y List.mem_cons_self
   rcases List.mem_cons.1 hz' with rfl | hz'
   ·omega
   ·have := (List.pairwise_cons.1 (List.pairwise_cons.1 h).2).1 z hz'
    omega
theorem upTo_pairwise {l : List Int} (h : UpTo l l.length) : l.Pairwise (· ≤ ·) := by
 rw [List.pairwise_iff_getElem]
 intro i j hi hj hij
 have := h i j hij hj
 simpa [hi, hj] using this
theorem cmpct_length : ∀ l : List Int, (cmpct l).length ≤ l.length
 | [] => Nat.le_refl _
 | [x] => Nat.le_refl _
 | x :: z :: t => by
  unfold cmpct
  have := cmpct_length (z :: t)
  split
  ·rw [List.length_cons]; omega
  ·rw [List.length_cons, List.length_cons]; omega
end Go.Proofs.Ytihgpkohglcijaa.Pl
