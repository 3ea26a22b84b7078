/- Plain laws on what the laws themselves use: bits that two numbers share, comparisons of lists, numbers of worlds. -/
import Derived.Test.YteiehniidihmdaaPx3
import Derived.Test.YteiehniidihmdaaPx8
import Derived.Test.YteiehniidihmdaaPx19
import Derived.Test.YteiehniidihmdaaPx21
import Derived.Test.YteiehniidihmdaaPbase
namespace Go.Proofs.Yteiehniidihmdaa.Pl
open Go.RowKit Go.Proofs.YteiehniidihmdaaW.PrintWords Go.Proofs.YteiehniidihmdaaW.PrintLast Go.Proofs.YteiehniidihmdaaW.PrintMore Go.Proofs.Yteiehniidihmdaa.P Go.Proofs.Yteiehniidihmdaa.Mt
theorem both_ev {a b : Nat} (ha : a < 256) : Ev (fun k => laws_both.f k (a : Int) (b : Int)) ((a &&& b : Nat) : Int) := by
  unfold laws_both.f
  have key : ∀ (i : Nat), i ≤ 8 → Ev (fun k => laws_both.l0 k (a : Int) (b : Int) (((a &&& b) % 2 ^ i : Nat) : Int) (i : Int)) ((a &&& b : Nat) : Int) := by
    apply down
    · refine Ev.step (fun k => rfl) (ev_neg (by omega) (ev_eq (Ev.now _) ?_))
      have : a &&& b < 2 ^ 8 := Nat.lt_of_le_of_lt Nat.and_le_left ha
      rw [Nat.mod_eq_of_lt this]
    · intro i hi ih
      have hp : (2 : Nat) ^ i ≤ 2 ^ 7 := Nat.pow_le_pow_right (by decide) (by omega)
      have hm : (a &&& b) % 2 ^ i < 2 ^ i := Nat.mod_lt _ (Nat.two_pow_pos i)
      have off : (a &&& b).testBit i = false → (((a &&& b) % 2 ^ (i + 1) : Nat) : Int) = (((a &&& b) % 2 ^ i : Nat) : Int) := by
        intro h
        rw [bit_mod, bi_bit, h]
        simp
      rw [Nat.testBit_and] at off
      refine Ev.step (fun k => rfl) (ev_pos (by omega) (ev_pos (by omega) ?_))
      rw [mod_bit a i (by omega), mod_bit b i (by omega), w1 hi (by omega)]
      cases h1 : a.testBit i with
      | false =>
        refine ev_neg (fun e => by rw [bi_one.1 e] at h1; cases h1) ?_
        rw [← off (by rw [h1]; rfl)]
        exact ih
      | true =>
        refine ev_pos (bi_one.2 h1) ?_
        cases h2 : b.testBit i with
        | false =>
          refine ev_neg (fun e => by rw [bi_one.1 e] at h2; cases h2) ?_
          rw [← off (by rw [h1, h2]; rfl)]
          exact ih
        | true =>
          refine ev_pos (bi_one.2 h2) ?_
          have e : wrap64 ((((a &&& b) % 2 ^ i : Nat) : Int) + shl .i64 1 (i : Int)) = (((a &&& b) % 2 ^ (i + 1) : Nat) : Int) := by
            rw [bit_mod, bi_bit, Nat.testBit_and, h1, h2, shl1 i (by omega)]
            simp only [Bool.and_self, if_true, Nat.mul_one]
            generalize (a &&& b) % 2 ^ i = y at hm
            generalize 2 ^ i = z at hm hp
            rw [w64 (by omega) (by omega)]
            omega
          rw [e]
          exact ih
  have := key 0 (Nat.zero_le _)
  simpa [Nat.mod_one] using this
theorem within_ev {a b : Nat} (ha : a < 256) : Ev (fun k => laws_within.f k (a : Int) (b : Int)) (decide (a &&& b = a)) := by
  refine Ev.bind (both_ev (b := b) ha) (ev_eq (Ev.now _) ?_)
  rw [Bool.eq_iff_iff]
  simp only [beq_iff_eq, decide_eq_true_eq]
  omega
theorem whole_eq {t : Int} (h : 1 ≤ t ∧ t ≤ 3) : laws_whole.f t = some (all t : Int) := by
  rcases three h with rfl | rfl | rfl <;> decide +kernel
theorem worldsOf_in {t : Int} (h : 1 ≤ t ∧ t ≤ 3) : ∃ n, impl_WorldsOf.f t = some n ∧ n > 0 := by
  rcases three h with rfl | rfl | rfl
  · exact ⟨2, by decide +kernel, by decide⟩
  · exact ⟨4, by decide +kernel, by decide⟩
  · exact ⟨8, by decide +kernel, by decide⟩
theorem worldsOf_out {t : Int} (h : ¬ (1 ≤ t ∧ t ≤ 3)) : impl_WorldsOf.f t = some (-1) := by
  unfold impl_WorldsOf.f
  rw [areThings_eq, decide_eq_false h]
  rfl
end Go.Proofs.Yteiehniidihmdaa.Pl
