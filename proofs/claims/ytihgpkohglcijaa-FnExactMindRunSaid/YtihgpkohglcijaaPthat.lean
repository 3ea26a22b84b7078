/- Plain laws: the set of the worlds for which something is so. -/
import Derived.Test.YtihgpkohglcijaaPx6
import Derived.Test.YtihgpkohglcijaaPset
namespace Go.Proofs.Ytihgpkohglcijaa.Pl
open Go.RowKit Go.Proofs.YtihgpkohglcijaaW.PrintWords Go.Proofs.YtihgpkohglcijaaW.PrintLast Go.Proofs.YtihgpkohglcijaaW.PrintMore Go.Proofs.Ytihgpkohglcijaa.P Go.Proofs.Ytihgpkohglcijaa.Mt
theorem setThat_l {p : Int → Option Bool} {q : Nat → Bool} : ∀ (n x s : Nat), x + n ≤ 8 → s < 2 ^ x → (∀ y : Nat, y < x + n → p (y : Int) = some (q y)) →
  ∃ r : Nat, impl_setThat.l p n (x : Int) (s : Int) = some (r : Int) ∧ r < 2 ^ (x + n) ∧ ∀ w, r.testBit w = true ↔ s.testBit w = true ∨ (x ≤ w ∧ w < x + n ∧ q w = true)
 | 0, x, s, _, hs, _ => ⟨s, rfl, hs, fun w => ⟨Or.inl, fun h => h.resolve_right fun k => by omega⟩⟩
 | n + 1, x, s, h8, hs, hp => by
  have hx : 2 ^ x ≤ 2 ^ 7 := Nat.pow_le_pow_right (by decide) (by omega)
  have hx2 : 2 ^ (x + 1) = 2 ^ x + 2 ^ x := by rw [Nat.pow_succ]; omega
  have hcast : (x : Int) + 1 = ((x + 1 : Nat) : Int) := by omega
  by_cases hq : q x = true
  ·obtain ⟨r, h1, h2, h3⟩ := setThat_l n (x + 1) (s + 2 ^ x) (by omega) (by omega) (fun y hy => hp y (by omega))
   refine ⟨r, ?_, by rw [show x + (n + 1) = x + 1 + n from by omega]; exact h2, fun w => ?_⟩
   ·show ((p (x : Int)).bind fun b => _) = _
    rw [hp x (by omega), Option.bind_some, hq, if_pos rfl, shl1 x (by omega), bor _ _ (by omega) (by omega), ← add_pow hs, hcast]
    exact h1
   ·rw [h3, add_bit hs, Bool.or_eq_true, decide_eq_true_iff]
    constructor
    ·rintro ((k | rfl) | k)
     ·exact Or.inl k
     ·exact Or.inr ⟨by omega, by omega, hq⟩
     ·exact Or.inr ⟨by omega, by omega, k.2.2⟩
    ·rintro (k | ⟨k1, k2, k3⟩)
     ·exact Or.inl (Or.inl k)
     ·by_cases e : x = w
      ·exact Or.inl (Or.inr e)
      ·exact Or.inr ⟨by omega, by omega, k3⟩
  ·obtain ⟨r, h1, h2, h3⟩ := setThat_l n (x + 1) s (by omega) (by omega) (fun y hy => hp y (by omega))
   refine ⟨r, ?_, by rw [show x + (n + 1) = x + 1 + n from by omega]; exact h2, fun w => ?_⟩
   ·show ((p (x : Int)).bind fun b => _) = _
    rw [hp x (by omega), Option.bind_some, if_neg hq, hcast]
    exact h1
   ·rw [h3]
    constructor
    ·rintro (k | k)
     ·exact Or.inl k
     ·exact Or.inr ⟨by omega, by omega, k.2.2⟩
    ·rintro (k | ⟨k1, k2, k3⟩)
     ·exact Or.inl k
     ·by_cases e : x = w
      ·rw [← e] at k3; exact absurd k3 hq
      ·exact Or.inr ⟨by omega, by omega, k3⟩
end Go.Proofs.Ytihgpkohglcijaa.Pl
