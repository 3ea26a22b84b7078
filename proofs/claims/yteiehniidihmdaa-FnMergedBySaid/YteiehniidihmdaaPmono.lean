/- More sets, fewer worlds: parts grow, what they allow shrinks; what follows from a part follows from each greater one. -/
import Derived.Test.YteiehniidihmdaaPok
import Derived.Test.YteiehniidihmdaaPlaw
import Derived.Test.YteiehniidihmdaaComb
namespace Go.Proofs.Yteiehniidihmdaa.Pl
open Go.RowKit Go.Proofs.YteiehniidihmdaaW.PrintWords Go.Proofs.YteiehniidihmdaaW.PrintLast Go.Proofs.YteiehniidihmdaaW.PrintMore Go.Proofs.Yteiehniidihmdaa.P Go.Proofs.Yteiehniidihmdaa.Mt

theorem and_sub_left (a b : Nat) : Cb.Sub (a &&& b) a := fun i h => by rw [Nat.testBit_and] at h; simp at h; exact h.1
theorem and_sub_right (a b : Nat) : Cb.Sub (a &&& b) b := fun i h => by rw [Nat.testBit_and] at h; simp at h; exact h.2
theorem sub_and {a b c : Nat} (h : Cb.Sub a b) (k : Cb.Sub a c) : Cb.Sub a (b &&& c) := fun i e => by rw [Nat.testBit_and, h i e, k i e]; rfl
theorem pw_sub {p q : Nat} : ∀ (l : List Int) (i a b : Nat), (∀ j, j < l.length → p.testBit (i + j) = true → q.testBit (i + j) = true) → Cb.Sub b a → Cb.Sub (pw q i b l) (pw p i a l)
  | [], _, _, _, _, h => h
  | s :: r, i, a, b, hpq, h => by
    unfold pw
    apply pw_sub r
    · intro j hj e
      have := hpq (j + 1) (by simpa using hj) (by rwa [show i + (j + 1) = i + 1 + j from by omega])
      rwa [show i + (j + 1) = i + 1 + j from by omega] at this
    · have h0 := hpq 0 (by simp)
      rw [Nat.add_zero] at h0
      have hb : Cb.Sub (if q.testBit i = true then b &&& s.toNat else b) b := by
        split
        · exact and_sub_left _ _
        · exact Cb.Sub.refl _
      by_cases hp : p.testBit i = true
      · rw [if_pos hp, if_pos (h0 hp)]
        exact sub_and ((and_sub_left _ _).trans h) (and_sub_right _ _)
      · rw [if_neg hp]
        exact hb.trans h
theorem worlds_sub {t : Int} {l : List Int} {p q : Nat} (h : ∀ j, j < l.length → p.testBit j = true → q.testBit j = true) : Cb.Sub (worlds t l q) (worlds t l p) :=
  pw_sub l 0 _ _ (fun j hj e => by rw [Nat.zero_add] at e ⊢; exact h j hj e) (Cb.Sub.refl _)
theorem pw_zero : ∀ (l : List Int) (i a : Nat), pw 0 i a l = a
  | [], _, _ => rfl
  | s :: r, i, a => by unfold pw; rw [Nat.zero_testBit, if_neg (by decide)]; exact pw_zero r _ _
theorem worlds_zero (t : Int) (l : List Int) : worlds t l 0 = all t := pw_zero l 0 _
theorem full_bit {n i : Nat} (h : i < n) : (2 ^ n - 1).testBit i = true := by rw [Nat.testBit_two_pow_sub_one]; exact decide_eq_true h
theorem all_pow {t : Int} (h : 1 ≤ t ∧ t ≤ 3) : ∃ n, n ≤ 8 ∧ all t = 2 ^ n - 1 := by
  rcases three h with rfl | rfl | rfl
  · exact ⟨2, by decide, rfl⟩
  · exact ⟨4, by decide, rfl⟩
  · exact ⟨8, by decide, rfl⟩
theorem all_and {t : Int} (h : 1 ≤ t ∧ t ≤ 3) {s : Nat} (hs : s ≤ all t) : all t &&& s = s := by
  obtain ⟨n, _, e⟩ := all_pow h
  rw [e] at hs ⊢
  rw [Nat.and_comm, Nat.and_two_pow_sub_one_eq_mod]
  have := Nat.two_pow_pos n
  exact Nat.mod_eq_of_lt (by omega)
theorem agree_and (a : Nat) : ∀ (l : List Int) (b : Nat), agree (a &&& b) l = a &&& agree b l
  | [], b => rfl
  | s :: r, b => by
    show agree (a &&& b &&& s.toNat) r = a &&& agree (b &&& s.toNat) r
    rw [Nat.and_assoc]
    exact agree_and a r _
theorem agree_cons (a : Nat) (s : Int) (r : List Int) : agree a (s :: r) = s.toNat &&& agree a r := by
  show agree (a &&& s.toNat) r = _
  rw [Nat.and_comm]
  exact agree_and _ r _
theorem shl_full {n : Nat} (h : n ≤ 7) : wrap64 (shl .i64 1 (n : Int) - 1) = ((2 ^ n - 1 : Nat) : Int) := by
  rw [shl1 n (by omega)]
  have h1 := Nat.two_pow_pos n
  have h2 : 2 ^ n ≤ 2 ^ 7 := Nat.pow_le_pow_right (by decide) h
  rw [w64 (by omega) (by omega)]
  omega
end Go.Proofs.Yteiehniidihmdaa.Pl
