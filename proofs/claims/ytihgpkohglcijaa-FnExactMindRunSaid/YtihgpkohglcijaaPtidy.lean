/- Plain laws: tidy rows: how many smaller values a row has, without repeats. -/
namespace Go.Proofs.Ytihgpkohglcijaa.Pl
/-- How many of 0 .. n-1 are in l. -/
def cntB (l : List Int) : Nat → Nat
 | 0 => 0
 | n + 1 => cntB l n + (if (n : Int) ∈ l then 1 else 0)
def lev (l : List Int) (x : Int) : Nat := cntB l x.toNat
def tidyL (l : List Int) : List Int := l.map fun x => (lev l x : Int)
theorem cntB_congr {l m : List Int} : ∀ n : Nat, (∀ y : Int, 0 ≤ y → y < n → (y ∈ l ↔ y ∈ m)) → cntB l n = cntB m n
 | 0, _ => rfl
 | n + 1, h => by
  unfold cntB
  rw [cntB_congr n (fun y h0 h1 => h y h0 (by omega))]
  have := h n (by omega) (by omega)
  by_cases hm : (n : Int) ∈ l
  ·rw [if_pos hm, if_pos (this.1 hm)]
  ·rw [if_neg hm, if_neg (fun k => hm (this.2 k))]
theorem cntB_mono {l : List Int} {a b : Nat} (h : a ≤ b) : cntB l a ≤ cntB l b := by
 induction b with
 | zero => rw [Nat.le_zero.1 h]; exact Nat.le_refl _
 | succ b ih =>
  by_cases e : a = b + 1
  ·rw [e]; exact Nat.le_refl _
  ·have h2 : cntB l (b + 1) = cntB l b + (if (b : Int) ∈ l then 1 else 0) := rfl
   have := ih (by omega)
   omega
theorem cntB_lt {l : List Int} {a b : Nat} (h : a < b) (ha : (a : Int) ∈ l) : cntB l a < cntB l b := by
 have h1 : cntB l (a + 1) ≤ cntB l b := cntB_mono h
 have h2 : cntB l (a + 1) = cntB l a + 1 := by show cntB l a + _ = _; rw [if_pos ha]
 omega
theorem cntB_le (l : List Int) : ∀ n, cntB l n ≤ n
 | 0 => Nat.le_refl _
 | n + 1 => by unfold cntB; have := cntB_le l n; split <;> omega
/-- A list without repeats that has just the members of l below n: as many. -/
theorem nodup_cnt {l : List Int} : ∀ (n : Nat) (s : List Int), s.Nodup → (∀ y, y ∈ s ↔ (y ∈ l ∧ 0 ≤ y ∧ y < n)) → s.length = cntB l n
 | 0, s, _, h => by
  cases s with
  | nil => rfl
  | cons y s => have := (h y).1 List.mem_cons_self; omega
 | n + 1, s, hd, h => by
  unfold cntB
  by_cases hn : (n : Int) ∈ l
  ·rw [if_pos hn]
   have hs : (n : Int) ∈ s := (h n).2 ⟨hn, by omega, by omega⟩
   have := nodup_cnt (l := l) n (s.erase n) (hd.erase _) (fun y => by
    rw [hd.mem_erase_iff]
    constructor
    ·rintro ⟨a, b⟩
     obtain ⟨b, c, d⟩ := (h y).1 b
     exact ⟨b, c, by omega⟩
    ·rintro ⟨b, c, d⟩
     exact ⟨by omega, (h y).2 ⟨b, c, by omega⟩⟩)
   rw [List.length_erase_of_mem hs] at this
   have hp : 0 < s.length := List.length_pos_of_mem hs
   omega
  ·rw [if_neg hn]
   exact nodup_cnt n s hd (fun y => by
    rw [h y]
    constructor
    ·rintro ⟨a, b, c⟩; exact ⟨a, b, by have : y ≠ n := fun e => hn (e ▸ a); omega⟩
    ·rintro ⟨a, b, c⟩; exact ⟨a, b, by omega⟩)
theorem tidyL_length (l : List Int) : (tidyL l).length = l.length := List.length_map ..
theorem lev_lt {l : List Int} {x y : Int} (hx : x ∈ l) (h0 : 0 ≤ x) (h : x < y) : lev l x < lev l y := by
 unfold lev
 exact cntB_lt (by omega) (by rw [Int.toNat_of_nonneg h0]; exact hx)
theorem lev_inj {l : List Int} {x y : Int} (hx : x ∈ l) (hy : y ∈ l) (h0 : 0 ≤ x) (h1 : 0 ≤ y) (h : lev l x = lev l y) : x = y := by
 rcases (by omega : x < y ∨ x = y ∨ y < x) with k | k | k
 ·have := lev_lt hx h0 k; omega
 ·exact k
 ·have := lev_lt hy h1 k; omega
/-- Every level below one is taken. -/
theorem lev_full {l : List Int} : ∀ (n k : Nat), k < cntB l n → ∃ y ∈ l, 0 ≤ y ∧ y < n ∧ lev l y = k
 | 0, k, h => by simp [cntB] at h
 | n + 1, k, h => by
  unfold cntB at h
  by_cases hk : k < cntB l n
  ·obtain ⟨y, hy, h0, h1, h2⟩ := lev_full n k hk
   exact ⟨y, hy, h0, by omega, h2⟩
  ·by_cases hn : (n : Int) ∈ l
   ·rw [if_pos hn] at h
    exact ⟨n, hn, by omega, by omega, by show cntB l ((n : Int).toNat) = k; rw [Int.toNat_natCast]; omega⟩
   ·rw [if_neg hn] at h; omega
theorem mem_tidyL {l : List Int} {y : Int} : y ∈ tidyL l ↔ ∃ x ∈ l, (lev l x : Int) = y := by unfold tidyL; rw [List.mem_map]
/-- Tidying twice is tidying once. -/
theorem lev_tidyL {l : List Int} {x : Int} (_ : x ∈ l) (_ : 0 ≤ x) : lev (tidyL l) (lev l x) = lev l x := by
 have key : ∀ n : Nat, n ≤ lev l x → cntB (tidyL l) n = n := by
  intro n
  induction n with
  | zero => intro _; rfl
  | succ n ih =>
   intro h
   unfold cntB
   obtain ⟨y, hy, _, _, he⟩ := lev_full (l := l) x.toNat n h
   rw [ih (by omega), if_pos (mem_tidyL.2 ⟨y, hy, by rw [he]⟩)]
 show cntB (tidyL l) ((lev l x : Int).toNat) = lev l x
 rw [Int.toNat_natCast]
 exact key _ (Nat.le_refl _)
theorem tidyL_tidyL {l : List Int} (h : ∀ x ∈ l, 0 ≤ x) : tidyL (tidyL l) = tidyL l := by
 show (tidyL l).map _ = _
 conv => lhs; arg 2; unfold tidyL
 rw [List.map_map]
 show _ = l.map _
 apply List.map_congr_left
 intro x hx
 show ((lev (tidyL l) (lev l x) : Nat) : Int) = _
 rw [lev_tidyL hx (h x hx)]
theorem cntB_cons (z : Int) (l : List Int) : ∀ n : Nat, cntB (z :: l) n ≤ cntB l n + (if 0 ≤ z ∧ z < n then 1 else 0)
 | 0 => by unfold cntB; omega
 | n + 1 => by
  have ih := cntB_cons z l n
  have e1 : cntB (z :: l) (n + 1) = cntB (z :: l) n + (if (n : Int) ∈ z :: l then 1 else 0) := rfl
  have e2 : cntB l (n + 1) = cntB l n + (if (n : Int) ∈ l then 1 else 0) := rfl
  rw [e1, e2]
  by_cases hz : z = (n : Int)
  ·subst hz
   rw [if_neg (by omega)] at ih
   rw [if_pos (c := 0 ≤ (n : Int) ∧ _) (by omega)]
   split <;> split <;> omega
  ·have hm : ((n : Int) ∈ z :: l) ↔ (n : Int) ∈ l := by rw [List.mem_cons]; exact ⟨fun h => h.resolve_left (fun e => hz e.symm), Or.inr⟩
   by_cases hl : (n : Int) ∈ l
   ·rw [if_pos (hm.2 hl), if_pos hl]
    split at ih <;> split <;> omega
   ·rw [if_neg (fun k => hl (hm.1 k)), if_neg hl]
    split at ih <;> split <;> omega
theorem cntB_le_length {l : List Int} {n : Nat} : cntB l n ≤ (l.filter fun y => decide (y < (n : Int))).length := by
 induction l with
 | nil =>
  have : ∀ n, cntB [] n = 0 := by intro n; induction n with | zero => rfl | succ n ih => unfold cntB; rw [ih, if_neg (by simp)]
  rw [this]; exact Nat.zero_le _
 | cons z l ih =>
  have := cntB_cons z l n
  rw [List.filter_cons]
  by_cases h : z < (n : Int)
  ·rw [if_pos (by simpa using h), List.length_cons]
   split at this <;> omega
  ·rw [if_neg (by simpa using h)]
   rw [if_neg (by omega)] at this
   omega
theorem lev_lt_length {l : List Int} {x : Int} (hx : x ∈ l) (h0 : 0 ≤ x) : lev l x < l.length := by
 have h1 := cntB_le_length (l := l) (n := x.toNat)
 have h2 : (l.filter fun y => decide (y < ((x.toNat : Nat) : Int))).length < l.length := by
  rw [Int.toNat_of_nonneg h0]
  have hle := List.length_filter_le (fun y => decide (y < x)) l
  rcases Nat.lt_or_ge (l.filter fun y => decide (y < x)).length l.length with h | h
  ·exact h
  ·have he : (l.filter fun y => decide (y < x)).length = l.length := by omega
   have := List.length_filter_eq_length_iff.1 he x hx
   simp at this
 unfold lev
 omega
/-- The least one has level 0. -/
theorem lev_zero {l : List Int} {x : Int} (h : ∀ y ∈ l, 0 ≤ y → x ≤ y) : lev l x = 0 := by
 unfold lev
 have : ∀ n : Nat, n ≤ x.toNat → cntB l n = 0 := by
  intro n
  induction n with
  | zero => intro _; rfl
  | succ n ih =>
   intro hn
   unfold cntB
   rw [ih (by omega), if_neg (fun hm => by have := h n hm (by omega); omega)]
 exact this _ (Nat.le_refl _)
theorem lev_pos {l : List Int} {x y : Int} (hy : y ∈ l) (h0 : 0 ≤ y) (h : y < x) : 0 < lev l x := by
 have := lev_lt hy h0 h
 omega
/-- The place of a member in an ascending list without repeats: how many are less. -/
theorem idx_asc {c : List Int} (hs : c.Pairwise (· < ·)) (h0 : ∀ x ∈ c, 0 ≤ x) {i : Nat} (hi : i < c.length) : lev c c[i] = i := by
 have hx0 : 0 ≤ c[i] := h0 _ (List.getElem_mem hi)
 unfold lev
 have hn : (c.take i).Nodup := by
  have : (c.take i).Pairwise (· < ·) := hs.sublist (List.take_sublist ..)
  exact this.imp (fun h => by omega)
 have hget := List.pairwise_iff_getElem.1 hs
 rw [← nodup_cnt (l := c) c[i].toNat (c.take i) hn (fun y => by
  rw [Int.toNat_of_nonneg hx0]
  constructor
  ·intro hy
   obtain ⟨j, hj, rfl⟩ := List.mem_iff_getElem.1 hy
   rw [List.length_take] at hj
   rw [List.getElem_take]
   refine ⟨List.getElem_mem _, h0 _ (List.getElem_mem _), hget j i (by omega) hi (by omega)⟩
  ·rintro ⟨hy, _, hlt⟩
   obtain ⟨j, hj, rfl⟩ := List.mem_iff_getElem.1 hy
   have hji : j < i := by
    rcases (by omega : j < i ∨ j = i ∨ i < j) with k | k | k
    ·exact k
    ·subst k; omega
    ·have := hget i j hi hj k; omega
   rw [List.mem_iff_getElem]
   exact ⟨j, by rw [List.length_take]; omega, List.getElem_take⟩)]
 rw [List.length_take]
 omega
theorem lev_congr {l m : List Int} (h : ∀ y, y ∈ l ↔ y ∈ m) (x : Int) : lev l x = lev m x := cntB_congr _ (fun y _ _ => h y)
end Go.Proofs.Ytihgpkohglcijaa.Pl
