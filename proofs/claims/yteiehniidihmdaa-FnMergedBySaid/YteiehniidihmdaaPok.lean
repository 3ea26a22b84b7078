/- Plain laws: what bases and lists of minds are right, sets in common, the worlds of a part of a base; the same for the program and the reference. -/
import Derived.Test.YteiehniidihmdaaPx1
import Derived.Test.YteiehniidihmdaaPx4
import Derived.Test.YteiehniidihmdaaPx5
import Derived.Test.YteiehniidihmdaaPx7
import Derived.Test.YteiehniidihmdaaPx15
import Derived.Test.YteiehniidihmdaaPx21
import Derived.Test.YteiehniidihmdaaPx23
import Derived.Test.YteiehniidihmdaaPbase
namespace Go.Proofs.Yteiehniidihmdaa.Pl
open Go.RowKit Go.Proofs.YteiehniidihmdaaW.PrintWords Go.Proofs.YteiehniidihmdaaW.PrintLast Go.Proofs.YteiehniidihmdaaW.PrintMore Go.Proofs.Yteiehniidihmdaa.P Go.Proofs.Yteiehniidihmdaa.Mt

def thingsOk (t : Int) : Bool := decide (1 ≤ t ∧ t ≤ 3)
def baseOk (t : Int) (l : List Int) : Bool := l.all (setOk t) && (thingsOk t && decide ((l.length : Int) ≤ 6))
theorem BaseOk_ev (t : Int) {l : List Int} (hn : l.length ≤ 9223372036854775807) : Ev (fun k => spec_BaseOk.f k t l) (baseOk t l) := by
  unfold spec_BaseOk.f
  have key : ∀ i, i ≤ l.length → Ev (fun k => spec_BaseOk.l0 k t l (i : Int)) ((l.drop i).all (setOk t) && (thingsOk t && decide ((l.length : Int) ≤ 6))) := by
    apply down
    · refine Ev.step (fun k => rfl) (ev_neg (by omega) (ev_bindc (l1In_eq _ _ _) ?_))
      rw [List.drop_length, List.all_nil, Bool.true_and]
      unfold thingsOk
      by_cases h : 1 ≤ t ∧ t ≤ 3
      · rw [decide_eq_true h, Bool.true_and]
        exact ev_pos rfl (Ev.now _)
      · rw [decide_eq_false h, Bool.false_and]
        exact ev_neg (by decide) (Ev.now _)
    · intro i hi ih
      refine Ev.step (fun k => rfl) (ev_pos (by omega) (ev_pos (by omega) (ev_bindc (SetOk_eq _ _) ?_)))
      rw [rd_at hi, w1 hi hn, List.drop_eq_getElem_cons hi, List.all_cons]
      cases hs : setOk t l[i] with
      | true => exact ev_pos rfl (by rw [Bool.true_and]; exact ih)
      | false => exact ev_neg (by decide) (Ev.now _)
  have := key 0 (Nat.zero_le _)
  simpa [baseOk] using this
theorem any_not {α : Type} {q : α → Bool} (l : List α) : (!(l.any fun x => !q x)) = l.all q := by
  induction l with
  | nil => rfl
  | cons x xs ih => rw [List.any_cons, List.all_cons, ← ih]; cases q x <;> simp
theorem isBase_eq (t : Int) (l : List Int) : impl_isBase.f t l = some (baseOk t l) := by
  unfold impl_isBase.f baseOk thingsOk
  rw [areThings_eq, Option.bind_some]
  by_cases h : 1 ≤ t ∧ t ≤ 3
  · rw [decide_eq_true h, if_pos rfl]
    by_cases hl : (l.length : Int) ≤ 6
    · have := contL_any (p := impl_isBase.no t) (q := fun x => !setOk t x) (l := l) (fun x _ => by unfold impl_isBase.no; rw [isSet_eq]; rfl)
      rw [if_pos hl, this, Option.bind_some, any_not, decide_eq_true hl]
      simp
    · rw [if_neg hl, decide_eq_false hl]
      simp
  · rw [decide_eq_false h, if_neg (by decide)]
    simp
theorem impl_BaseOk_eq (t : Int) (l : List Int) : impl_BaseOk.f t l = some (baseOk t l) := by
  unfold impl_BaseOk.f
  rw [isBase_eq]
  rfl
theorem baseOk_iff {t : Int} {l : List Int} : baseOk t l = true ↔ (∀ s, s ∈ l → setOk t s = true) ∧ (1 ≤ t ∧ t ≤ 3) ∧ l.length ≤ 6 := by
  unfold baseOk thingsOk
  simp only [Bool.and_eq_true, List.all_eq_true, decide_eq_true_eq]
  exact ⟨fun ⟨a, b, c⟩ => ⟨a, b, by omega⟩, fun ⟨a, b, c⟩ => ⟨a, b, by omega⟩⟩
def mindOk (t s : Int) : Bool := setOk t s && !decide (s = 0)
def mindsOk (t : Int) (l : List Int) : Bool := l.all (mindOk t) && (thingsOk t && decide (1 ≤ (l.length : Int) ∧ (l.length : Int) ≤ 4))
theorem MindsOk_ev (t : Int) {l : List Int} (hn : l.length ≤ 9223372036854775807) : Ev (fun k => spec_MindsOk.f k t l) (mindsOk t l) := by
  unfold spec_MindsOk.f
  have key : ∀ i, i ≤ l.length → Ev (fun k => spec_MindsOk.l0 k t l (i : Int)) ((l.drop i).all (mindOk t) && (thingsOk t && decide (1 ≤ (l.length : Int) ∧ (l.length : Int) ≤ 4))) := by
    apply down
    · refine Ev.step (fun k => rfl) (ev_neg (by omega) (ev_bindc (l1In_eq _ _ _) ?_))
      rw [List.drop_length, List.all_nil, Bool.true_and]
      unfold thingsOk
      by_cases h : 1 ≤ t ∧ t ≤ 3
      · rw [decide_eq_true h, Bool.true_and]
        exact ev_pos rfl (ev_bindc (l1In_eq _ _ _) (Ev.now _))
      · rw [decide_eq_false h, Bool.false_and]
        exact ev_neg (by decide) (Ev.now _)
    · intro i hi ih
      refine Ev.step (fun k => rfl) (ev_pos (by omega) (ev_pos (by omega) (ev_bindc (SetOk_eq _ _) ?_)))
      rw [rd_at hi, w1 hi hn, List.drop_eq_getElem_cons hi, List.all_cons]
      unfold mindOk
      cases hs : setOk t l[i] with
      | true =>
        refine ev_pos rfl ?_
        by_cases h0 : l[i] = 0
        · exact ev_pos h0 (ev_eq (Ev.now _) (by rw [decide_eq_true h0]; rfl))
        · refine ev_neg h0 (ev_eq ih ?_)
          rw [decide_eq_false h0]
          rfl
      | false => exact ev_neg (by decide) (Ev.now _)
  have := key 0 (Nat.zero_le _)
  simpa [mindsOk] using this
theorem areMinds_eq (t : Int) (l : List Int) : impl_areMinds.f t l = some (mindsOk t l) := by
  unfold impl_areMinds.f mindsOk thingsOk
  rw [areThings_eq, Option.bind_some]
  by_cases h : 1 ≤ t ∧ t ≤ 3
  · rw [decide_eq_true h, if_pos rfl]
    by_cases h1 : (l.length : Int) < 1
    · rw [if_pos h1, decide_eq_false (by omega)]
      simp
    · rw [if_neg h1]
      by_cases h4 : (l.length : Int) > 4
      · rw [if_pos h4, decide_eq_false (by omega)]
        simp
      · have := contL_any (p := impl_areMinds.no t) (q := fun x => !mindOk t x) (l := l) (fun x _ => by
          unfold impl_areMinds.no mindOk
          rw [isSet_eq, Option.bind_some]
          cases setOk t x with
          | true => rw [if_pos rfl]; simp
          | false => rw [if_neg (by decide)]; rfl)
        rw [if_neg h4, this, Option.bind_some, any_not, decide_eq_true (by omega)]
        simp
  · rw [decide_eq_false h, if_neg (by decide)]
    simp
theorem impl_MindsOk_eq (t : Int) (l : List Int) : impl_MindsOk.f t l = some (mindsOk t l) := by
  unfold impl_MindsOk.f
  rw [areMinds_eq]
  rfl
theorem mindsOk_iff {t : Int} {l : List Int} : mindsOk t l = true ↔ (∀ s, s ∈ l → setOk t s = true ∧ s ≠ 0) ∧ (1 ≤ t ∧ t ≤ 3) ∧ 1 ≤ l.length ∧ l.length ≤ 4 := by
  unfold mindsOk thingsOk mindOk
  simp only [Bool.and_eq_true, List.all_eq_true, decide_eq_true_eq, Bool.not_eq_true', decide_eq_false_iff_not]
  exact ⟨fun ⟨a, b, c⟩ => ⟨a, b, by omega, by omega⟩, fun ⟨a, b, c, d⟩ => ⟨a, b, by omega, by omega⟩⟩

/-! ### what is in both -/
theorem l1Bit_eq (s w : Nat) (h : w ≤ 62) : spec_l1Bit.f (s : Int) (w : Int) = some ((bi s w : Nat) : Int) := by
  unfold spec_l1Bit.f
  rw [if_pos (by omega), mod_bit s w h]
theorem bi_mul (a b i : Nat) : bi a i * bi b i = bi (a &&& b) i := by
  rw [bi_bit, bi_bit, bi_bit, Nat.testBit_and]
  cases a.testBit i <;> cases b.testBit i <;> rfl
theorem bi_le (a i : Nat) : bi a i ≤ 1 := by
  have : bi a i < 2 := Nat.mod_lt _ (by decide)
  omega
theorem l1Both_ev {a b : Nat} (ha : a < 256) : Ev (fun k => spec_l1Both.f k (a : Int) (b : Int)) ((a &&& b : Nat) : Int) := by
  unfold spec_l1Both.f
  have key : ∀ (i : Nat), i ≤ 8 → Ev (fun k => spec_l1Both.l0 k (a : Int) (b : Int) (((a &&& b) % 2 ^ i : Nat) : Int) (i : Int)) ((a &&& b : Nat) : Int) := by
    apply down
    · refine Ev.step (fun k => rfl) (ev_neg (by omega) (ev_eq (Ev.now _) ?_))
      have : a &&& b < 2 ^ 8 := Nat.lt_of_le_of_lt Nat.and_le_left ha
      rw [Nat.mod_eq_of_lt this]
    · intro i hi ih
      refine Ev.step (fun k => rfl) (ev_pos (by omega) (ev_bindc (l1Bit_eq a i (by omega)) (ev_bindc (l1Bit_eq b i (by omega)) (ev_pos (by omega) ?_))))
      have hp : (2 : Nat) ^ i ≤ 2 ^ 7 := Nat.pow_le_pow_right (by decide) (by omega)
      have hm : (a &&& b) % 2 ^ i < 2 ^ i := Nat.mod_lt _ (Nat.two_pow_pos i)
      have hle := bi_le (a &&& b) i
      have e1 : wrap64 (((bi a i : Nat) : Int) * ((bi b i : Nat) : Int)) = ((bi (a &&& b) i : Nat) : Int) := by
        rw [← Int.natCast_mul, bi_mul]
        exact w64 (by omega) (by omega)
      have hmul : 2 ^ i * bi (a &&& b) i ≤ 2 ^ 7 := by
        have := Nat.mul_le_mul hp hle
        omega
      have e2 : wrap64 ((((a &&& b) % 2 ^ i : Nat) : Int) + shl .i64 ((bi (a &&& b) i : Nat) : Int) (i : Int)) = (((a &&& b) % 2 ^ (i + 1) : Nat) : Int) := by
        rw [shlx _ i (by omega), ← Int.natCast_mul, Nat.mul_comm, bit_mod]
        generalize 2 ^ i * bi (a &&& b) i = z at hmul
        generalize (a &&& b) % 2 ^ i = y at hm
        generalize 2 ^ i = p at hp hm
        rw [w64 (n := ((z : Nat) : Int)) (by omega) (by omega), w64 (by omega) (by omega)]
        omega
      rw [e1, e2, w1 hi (by omega)]
      exact ih
  have := key 0 (Nat.zero_le _)
  simpa [Nat.mod_one] using this
/-- What all agree on. -/
def agree (a : Nat) (l : List Int) : Nat := l.foldl (fun x s => x &&& s.toNat) a
theorem agree_lt {a : Nat} (l : List Int) (h : a < 256) : agree a l < 256 := by
  induction l generalizing a with
  | nil => exact h
  | cons x xs ih => exact ih (Nat.lt_of_le_of_lt Nat.and_le_left h)
theorem AgreeOn_ev (t : Int) {l : List Int} (hn : l.length ≤ 9223372036854775807) : Ev (fun k => spec_AgreeOn.f k t l) (if mindsOk t l = true then ((agree (all t) l : Nat) : Int) else -1) := by
  unfold spec_AgreeOn.f
  refine Ev.bind (MindsOk_ev t hn) ?_
  cases hm : mindsOk t l with
  | false => exact ev_neg (by decide) (by rw [if_neg (by decide)]; exact Ev.now _)
  | true =>
    obtain ⟨hs, ht, _⟩ := mindsOk_iff.1 hm
    refine ev_pos rfl (ev_bindc (l1All_eq ht) ?_)
    rw [if_pos rfl]
    have key : ∀ i, i ≤ l.length → ∀ a : Nat, a < 256 → Ev (fun k => spec_AgreeOn.l0 k l (a : Int) (i : Int)) ((agree a (l.drop i) : Nat) : Int) := by
      apply down
      · intro a ha
        refine Ev.step (fun k => rfl) (ev_neg (by omega) (ev_eq (Ev.now _) ?_))
        rw [List.drop_length]
        rfl
      · intro i hi ih a ha
        obtain ⟨s, es, hs1, _⟩ := setOk_nat (hs _ (rd_mem hi)).1
        refine Ev.step (fun k => rfl) (ev_pos (by omega) (ev_pos (by omega) ?_))
        rw [es]
        refine Ev.bind (l1Both_ev ha) ?_
        rw [w1 hi hn, List.drop_eq_getElem_cons hi, ← rd_at hi, es]
        exact ih _ (Nat.lt_of_le_of_lt Nat.and_le_left ha)
    exact key 0 (Nat.zero_le _) _ (all_lt t)
theorem impl_AgreeOn_ev (t : Int) {l : List Int} (hn : l.length ≤ 9223372036854775807) : Ev (fun k => impl_AgreeOn.f k t l) (if mindsOk t l = true then ((agree (all t) l : Nat) : Int) else -1) := by
  unfold impl_AgreeOn.f
  refine ev_bindc (areMinds_eq t l) ?_
  cases hm : mindsOk t l with
  | false => exact ev_neg (by decide) (by rw [if_neg (by decide)]; exact Ev.now _)
  | true =>
    obtain ⟨hs, ht, _⟩ := mindsOk_iff.1 hm
    refine ev_pos rfl (ev_bindc (allWorlds_eq ht) ?_)
    rw [if_pos rfl]
    have key : ∀ i, i ≤ l.length → ∀ a : Nat, a < 256 → Ev (fun k => impl_AgreeOn.l0 k (a : Int) l (l.length : Int) (i : Int)) ((agree a (l.drop i) : Nat) : Int) := by
      apply down
      · intro a ha
        refine Ev.step (fun k => rfl) (ev_neg (by omega) (ev_eq (Ev.now _) ?_))
        rw [List.drop_length]
        rfl
      · intro i hi ih a ha
        obtain ⟨s, es, hs1, _⟩ := setOk_nat (hs _ (rd_mem hi)).1
        refine Ev.step (fun k => rfl) (ev_pos (by omega) (ev_pos (by omega) (ev_pos (by omega) ?_)))
        rw [es, band a s (by omega) (by omega), w1 hi hn, List.drop_eq_getElem_cons hi, ← rd_at hi, es]
        exact ih _ (Nat.lt_of_le_of_lt Nat.and_le_left ha)
    exact key 0 (Nat.zero_le _) _ (all_lt t)

/-! ### the worlds of a part of a base -/
def pw (p : Nat) : Nat → Nat → List Int → Nat
  | _, a, [] => a
  | i, a, s :: r => pw p (i + 1) (if p.testBit i = true then a &&& s.toNat else a) r
theorem pw_lt (p : Nat) : ∀ (l : List Int) (i a : Nat), a < 256 → pw p i a l < 256
  | [], _, _, h => h
  | s :: r, i, a, h => by
    unfold pw
    apply pw_lt p r
    split
    · exact Nat.lt_of_le_of_lt Nat.and_le_left h
    · exact h
/-- The worlds of a part. -/
def worlds (t : Int) (l : List Int) (p : Nat) : Nat := pw p 0 (all t) l
theorem worlds_lt (t : Int) (l : List Int) (p : Nat) : worlds t l p < 256 := pw_lt p l 0 _ (all_lt t)
theorem l9Worlds_ev {t : Int} {l : List Int} (hb : baseOk t l = true) (p : Nat) : Ev (fun k => spec_l9Worlds.f k t l (p : Int)) ((worlds t l p : Nat) : Int) := by
  obtain ⟨hs, ht, hl⟩ := baseOk_iff.1 hb
  unfold spec_l9Worlds.f
  refine ev_bindc (l1All_eq ht) ?_
  have key : ∀ i, i ≤ l.length → ∀ a : Nat, a < 256 → Ev (fun k => spec_l9Worlds.l0 k l (p : Int) (a : Int) (i : Int)) ((pw p i a (l.drop i) : Nat) : Int) := by
    apply down
    · intro a ha
      refine Ev.step (fun k => rfl) (ev_neg (by omega) (ev_eq (Ev.now _) ?_))
      rw [List.drop_length]
      rfl
    · intro i hi ih a ha
      obtain ⟨s, es, hs1, _⟩ := setOk_nat (hs _ (rd_mem hi))
      refine Ev.step (fun k => rfl) (ev_pos (by omega) (ev_pos (by omega) ?_))
      rw [mod_bit p i (by omega), es, w1 hi (by omega), List.drop_eq_getElem_cons hi, ← rd_at hi, es]
      unfold pw
      cases hp : p.testBit i with
      | true => exact ev_pos (bi_one.2 hp) (Ev.bind (l1Both_ev ha) (ih _ (Nat.lt_of_le_of_lt Nat.and_le_left ha)))
      | false => exact ev_neg (fun h => by rw [bi_one.1 h] at hp; cases hp) (ih _ ha)
  exact key 0 (Nat.zero_le _) _ (all_lt t)
theorem partWorlds_ev {t : Int} {l : List Int} (hb : baseOk t l = true) {p : Nat} (hp62 : p < 2 ^ 62) : Ev (fun k => impl_partWorlds.f k t l (p : Int)) ((worlds t l p : Nat) : Int) := by
  obtain ⟨hs, ht, hl⟩ := baseOk_iff.1 hb
  unfold impl_partWorlds.f
  refine ev_bindc (allWorlds_eq ht) ?_
  have key : ∀ i, i ≤ l.length → ∀ a : Nat, a < 256 → Ev (fun k => impl_partWorlds.l0 k (p : Int) (a : Int) l (l.length : Int) (i : Int)) ((pw p i a (l.drop i) : Nat) : Int) := by
    apply down
    · intro a ha
      refine Ev.step (fun k => rfl) (ev_neg (by omega) (ev_eq (Ev.now _) ?_))
      rw [List.drop_length]
      rfl
    · intro i hi ih a ha
      obtain ⟨s, es, hs1, _⟩ := setOk_nat (hs _ (rd_mem hi))
      refine Ev.step (fun k => rfl) (ev_pos (by omega) (ev_pos (by omega) (ev_pos (by omega) ?_)))
      rw [and_bit p i (by omega) hp62, es, w1 hi (by omega), List.drop_eq_getElem_cons hi, ← rd_at hi, es]
      unfold pw
      cases hp : p.testBit i with
      | true => exact ev_pos (bi_one.2 hp) (by rw [band a s (by omega) (by omega)]; exact ih _ (Nat.lt_of_le_of_lt Nat.and_le_left ha))
      | false => exact ev_neg (fun h => by rw [bi_one.1 h] at hp; cases hp) (ih _ ha)
  exact key 0 (Nat.zero_le _) _ (all_lt t)
/-- One to the left by the length of a base. -/
theorem shlen {n : Nat} (h : n ≤ 6) : shl .i64 1 (n : Int) = ((2 ^ n : Nat) : Int) := shl1 n (by omega)
theorem pow6 {n : Nat} (h : n ≤ 6) : 1 ≤ 2 ^ n ∧ 2 ^ n ≤ 64 := ⟨Nat.two_pow_pos n, Nat.pow_le_pow_right (n := 2) (by decide) h⟩
def partW (t : Int) (l : List Int) (p : Int) : Int := if baseOk t l = true ∧ 0 ≤ p ∧ p < ((2 ^ l.length : Nat) : Int) then ((worlds t l p.toNat : Nat) : Int) else -1
theorem PartWorlds_ev (t : Int) {l : List Int} (p : Int) (hn : l.length ≤ 9223372036854775807) : Ev (fun k => spec_PartWorlds.f k t l p) (partW t l p) := by
  unfold spec_PartWorlds.f partW
  refine Ev.bind (BaseOk_ev t hn) ?_
  cases hb : baseOk t l with
  | false => exact ev_neg (by decide) (ev_eq (Ev.now _) (by rw [if_neg (fun h => by cases h.1)]))
  | true =>
    obtain ⟨_, _, hl⟩ := baseOk_iff.1 hb
    obtain ⟨q1, q2⟩ := pow6 hl
    refine ev_pos rfl (ev_bindc (l1In_eq _ _ _) ?_)
    rw [shlen hl]
    generalize hP : 2 ^ l.length = P at q1 q2
    rw [w64 (by omega) (by omega)]
    by_cases h : 0 ≤ p ∧ p ≤ (P : Int) - 1
    · obtain ⟨n, rfl⟩ := Int.eq_ofNat_of_zero_le h.1
      rw [decide_eq_true h, if_pos ⟨rfl, by omega, by omega⟩, Int.toNat_natCast]
      exact ev_pos rfl (Ev.bind (l9Worlds_ev hb n) (Ev.now _))
    · rw [decide_eq_false h, if_neg (fun k => h ⟨k.2.1, by omega⟩)]
      exact ev_neg (by decide) (Ev.now _)
theorem impl_PartWorlds_ev (t : Int) (l : List Int) (p : Int) : Ev (fun k => impl_PartWorlds.f k t l p) (partW t l p) := by
  unfold impl_PartWorlds.f partW
  refine ev_bindc (isBase_eq t l) ?_
  cases hb : baseOk t l with
  | false => exact ev_neg (by decide) (ev_eq (Ev.now _) (by rw [if_neg (fun h => by cases h.1)]))
  | true =>
    obtain ⟨_, _, hl⟩ := baseOk_iff.1 hb
    obtain ⟨q1, q2⟩ := pow6 hl
    refine ev_pos rfl ?_
    rw [shlen hl]
    generalize hP : 2 ^ l.length = P at q1 q2
    by_cases h0 : p < 0
    · rw [if_neg (fun k => by omega)]
      exact ev_pos h0 (Ev.now _)
    · by_cases h1 : p ≥ (P : Int)
      · rw [if_neg (fun k => by omega)]
        exact ev_neg h0 (ev_pos h1 (Ev.now _))
      · obtain ⟨n, rfl⟩ := Int.eq_ofNat_of_zero_le (show 0 ≤ p by omega)
        rw [if_pos ⟨rfl, by omega, by omega⟩, Int.toNat_natCast]
        exact ev_neg h0 (ev_neg h1 (Ev.bind (partWorlds_ev hb (by omega)) (Ev.now _)))
end Go.Proofs.Yteiehniidihmdaa.Pl
