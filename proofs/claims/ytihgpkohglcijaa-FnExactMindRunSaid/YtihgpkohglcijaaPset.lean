/- Plain laws on sets of worlds. -/
import Derived.Test.YtihgpkohglcijaaPx6
import Derived.Test.YtihgpkohglcijaaPx12
import Derived.Test.YtihgpkohglcijaaPthr
namespace Go.Proofs.Ytihgpkohglcijaa.Pl
open Go.RowKit Go.Proofs.YtihgpkohglcijaaW.PrintWords Go.Proofs.YtihgpkohglcijaaW.PrintLast Go.Proofs.YtihgpkohglcijaaW.PrintMore Go.Proofs.Ytihgpkohglcijaa.P Go.Proofs.Ytihgpkohglcijaa.Mt
def all (t : Int) : Nat := if t = 1 then 3 else if t = 2 then 15 else 255
theorem all_lt (t : Int) : all t < 256 := by unfold all; split <;> (try split) <;> omega
theorem l1All_eq {t : Int} (h : 1 ≤ t ∧ t ≤ 3) : spec_l1All.f t = some (all t : Int) := by
 rcases three h with rfl | rfl | rfl <;> decide +kernel
theorem allWorlds_eq {t : Int} (h : 1 ≤ t ∧ t ≤ 3) : impl_allWorlds.f t = some (all t : Int) := by
 rcases three h with rfl | rfl | rfl <;> decide +kernel
def setOk (t s : Int) : Bool := decide ((1 ≤ t ∧ t ≤ 3) ∧ 0 ≤ s ∧ s ≤ all t)
theorem setOk_nat {t s : Int} (h : setOk t s = true) : ∃ n : Nat, s = n ∧ n < 256 ∧ n ≤ all t ∧ 1 ≤ t ∧ t ≤ 3 := by
 have k := of_decide_eq_true h
 have := all_lt t
 exact ⟨s.toNat, by omega, by omega, by omega, k.1.1, k.1.2⟩
theorem l1Bit_eq (s w : Nat) (h : w ≤ 62) : spec_l1Bit.f (s : Int) (w : Int) = some ((bi s w : Nat) : Int) := by
 unfold spec_l1Bit.f
 rw [if_pos (by omega), mod_bit s w h]
theorem bi_mul (a b i : Nat) : bi a i * bi b i = bi (a &&& b) i := by
 rw [bi_bit, bi_bit, bi_bit, Nat.testBit_and]
 cases a.testBit i <;> cases b.testBit i <;> rfl
theorem bi_le (a i : Nat) : bi a i ≤ 1 := by
 have : bi a i < 2 := Nat.mod_lt _ (by decide)
 omega
theorem l1Both_ev {a b : Nat} (ha : a < 256) : Ev (fun k => spec_l1Both.f k (a : Int) (b : Int)) ((a &&& b : Nat) : Int) := by
 unfold spec_l1Both.f
 have key : ∀ (i : Nat), i ≤ 8 → Ev (fun k => spec_l1Both.l0 k (a : Int) (b : Int) (((a &&& b) % 2 ^ i : Nat) : Int) (i : Int)) ((a &&& b : Nat) : Int) := by
  apply down
  ·refine Ev.step (fun k => rfl) (ev_neg (by omega) (ev_eq (Ev.now _) ?_))
   have : a &&& b < 2 ^ 8 := Nat.lt_of_le_of_lt Nat.and_le_left ha
   rw [Nat.mod_eq_of_lt this]
  ·intro i hi ih
   refine Ev.step (fun k => rfl) (ev_pos (by omega) (ev_bindc (l1Bit_eq a i (by omega)) (ev_bindc (l1Bit_eq b i (by omega)) (ev_pos (by omega) ?_))))
   have hp : (2 : Nat) ^ i ≤ 2 ^ 7 := Nat.pow_le_pow_right (by decide) (by omega)
   have hm : (a &&& b) % 2 ^ i < 2 ^ i := Nat.mod_lt _ (Nat.two_pow_pos i)
   have hle := bi_le (a &&& b) i
   have e1 : wrap64 (((bi a i : Nat) : Int) * ((bi b i : Nat) : Int)) = ((bi (a &&& b) i : Nat) : Int) := by
    rw [← Int.natCast_mul, bi_mul]
    exact w64 (by omega) (by omega)
   have hmul : 2 ^ i * bi (a &&& b) i ≤ 2 ^ 7 := by
    have := Nat.mul_le_mul hp hle
    omega
   have e2 : wrap64 ((((a &&& b) % 2 ^ i : Nat) : Int) + shl .i64 ((bi (a &&& b) i : Nat) : Int) (i : Int)) = (((a &&& b) % 2 ^ (i + 1) : Nat) : Int) := by
    rw [shlx _ i (by omega), ← Int.natCast_mul, Nat.mul_comm, bit_mod]
    generalize 2 ^ i * bi (a &&& b) i = z at hmul
    generalize (a &&& b) % 2 ^ i = y at hm
    generalize 2 ^ i = p at hp hm
    rw [w64 (n := ((z : Nat) : Int)) (by omega) (by omega), w64 (by omega) (by omega)]
    omega
   rw [e1, e2, w1 hi (by omega)]
   exact ih
 have := key 0 (Nat.zero_le _)
 simpa [Nat.mod_one] using this
theorem add_pow {S i : Nat} (h : S < 2 ^ i) : S + 2 ^ i = S ||| 2 ^ i := by
 have := Nat.two_pow_add_eq_or_of_lt h 1
 rw [Nat.mul_one] at this
 rw [Nat.add_comm, this, Nat.or_comm]
theorem add_bit {S i : Nat} (h : S < 2 ^ i) (j : Nat) : (S + 2 ^ i).testBit j = (S.testBit j || decide (i = j)) := by
 rw [add_pow h, Nat.testBit_or, Nat.testBit_two_pow]
end Go.Proofs.Ytihgpkohglcijaa.Pl
