/- Plain laws on what meets all of some parts, and on what is sure. -/
import Derived.Test.YteiehniidihmdaaPx14
import Derived.Test.YteiehniidihmdaaPx16
import Derived.Test.YteiehniidihmdaaPx17
import Derived.Test.YteiehniidihmdaaPx24
import Derived.Test.YteiehniidihmdaaPx27
import Derived.Test.YteiehniidihmdaaPparts
namespace Go.Proofs.Yteiehniidihmdaa.Pl
open Go.RowKit Go.Proofs.YteiehniidihmdaaW.PrintWords Go.Proofs.YteiehniidihmdaaW.PrintLast Go.Proofs.YteiehniidihmdaaW.PrintMore Go.Proofs.Yteiehniidihmdaa.P Go.Proofs.Yteiehniidihmdaa.Mt

theorem l9Common_ev {a b : Nat} (ha : a < 64) : Ev (fun k => spec_l9Common.f k (a : Int) (b : Int)) ((a &&& b : Nat) : Int) := by
  unfold spec_l9Common.f
  have key : ∀ (i : Nat), i ≤ 6 → Ev (fun k => spec_l9Common.l0 k (a : Int) (b : Int) (((a &&& b) % 2 ^ i : Nat) : Int) (i : Int)) ((a &&& b : Nat) : Int) := by
    apply down
    · refine Ev.step (fun k => rfl) (ev_neg (by omega) (ev_eq (Ev.now _) ?_))
      have : a &&& b < 2 ^ 6 := Nat.lt_of_le_of_lt Nat.and_le_left ha
      rw [Nat.mod_eq_of_lt this]
    · intro i hi ih
      have hp : (2 : Nat) ^ i ≤ 2 ^ 5 := Nat.pow_le_pow_right (by decide) (by omega)
      have hm : (a &&& b) % 2 ^ i < 2 ^ i := Nat.mod_lt _ (Nat.two_pow_pos i)
      have off : (a &&& b).testBit i = false → (((a &&& b) % 2 ^ (i + 1) : Nat) : Int) = (((a &&& b) % 2 ^ i : Nat) : Int) := by
        intro h
        rw [bit_mod, bi_bit, h]
        simp
      rw [Nat.testBit_and] at off
      refine Ev.step (fun k => rfl) (ev_pos (by omega) (ev_pos (by omega) ?_))
      rw [mod_bit a i (by omega), mod_bit b i (by omega), w1 hi (by omega)]
      cases h1 : a.testBit i with
      | false =>
        refine ev_neg (fun e => by rw [bi_one.1 e] at h1; cases h1) ?_
        rw [← off (by rw [h1]; rfl)]
        exact ih
      | true =>
        refine ev_pos (bi_one.2 h1) ?_
        cases h2 : b.testBit i with
        | false =>
          refine ev_neg (fun e => by rw [bi_one.1 e] at h2; cases h2) ?_
          rw [← off (by rw [h1, h2]; rfl)]
          exact ih
        | true =>
          refine ev_pos (bi_one.2 h2) ?_
          have e : wrap64 ((((a &&& b) % 2 ^ i : Nat) : Int) + shl .i64 1 (i : Int)) = (((a &&& b) % 2 ^ (i + 1) : Nat) : Int) := by
            rw [bit_mod, bi_bit, Nat.testBit_and, h1, h2, shl1 i (by omega)]
            simp only [Bool.and_self, if_true, Nat.mul_one]
            generalize (a &&& b) % 2 ^ i = y at hm
            generalize 2 ^ i = z at hm hp
            rw [w64 (by omega) (by omega)]
            omega
          rw [e]
          exact ih
  have := key 0 (Nat.zero_le _)
  simpa [Nat.mod_one] using this
/-- Parts of n sets. -/
def partOk (n : Nat) (p : Int) : Bool := decide (0 ≤ p ∧ p < ((2 ^ n : Nat) : Int))
theorem partOk_nat {n : Nat} {p : Int} (h : partOk n p = true) : ∃ q : Nat, p = q ∧ q < 2 ^ n := by
  have := of_decide_eq_true h
  exact ⟨p.toNat, by omega, by omega⟩
def nats (l : List Int) : List Nat := l.map Int.toNat
theorem l9Meets_ev {n : Nat} (hn : n ≤ 6) {l : List Int} (hl : l.length ≤ 9223372036854775807) (h : ∀ p, p ∈ l → partOk n p = true) {x : Nat} (hx : x < 64) : Ev (fun k => spec_l9Meets.f k (x : Int) l) (Cb.meets (nats l) x) := by
  obtain ⟨q1, q2⟩ := pow6 hn
  unfold spec_l9Meets.f
  have key : ∀ i, i ≤ l.length → Ev (fun k => spec_l9Meets.l0 k (x : Int) l (i : Int)) (Cb.meets (nats (l.drop i)) x) := by
    apply down
    · exact Ev.step (fun k => rfl) (ev_neg (by omega) (ev_eq (Ev.now _) (by rw [List.drop_length]; rfl)))
    · intro i hi ih
      obtain ⟨p, ep, hp⟩ := partOk_nat (h _ (rd_mem hi))
      refine Ev.step (fun k => rfl) (ev_pos (by omega) (ev_pos (by omega) ?_))
      rw [ep]
      refine Ev.bind (l9Common_ev hx) ?_
      rw [w1 hi hl, List.drop_eq_getElem_cons hi, ← rd_at hi, ep]
      have e : Cb.meets (nats ((p : Int) :: l.drop (i + 1))) x = (decide (p &&& x ≠ 0) && Cb.meets (nats (l.drop (i + 1))) x) := rfl
      rw [e]
      by_cases h0 : x &&& p = 0
      · refine ev_pos (by rw [h0]; rfl) (ev_eq (Ev.now _) ?_)
        rw [Nat.and_comm] at h0
        rw [h0]
        rfl
      · refine ev_neg (fun k => h0 (by omega)) (ev_eq ih ?_)
        rw [Nat.and_comm] at h0
        rw [decide_eq_true h0, Bool.true_and]
  have := key 0 (Nat.zero_le _)
  simpa using this
def meetsAll (m : Int) (l : List Int) : List Int := if (decide (0 ≤ m ∧ m ≤ 6) && l.all (partOk m.toNat)) = true then casts (Cb.mins m.toNat (Cb.meets (nats l))) else []
theorem spec_MeetsAll_ev (m : Int) {l : List Int} (hl : l.length ≤ 9223372036854775807) : Ev (fun k => spec_MeetsAll.f k m l) (meetsAll m l) := by
  unfold spec_MeetsAll.f meetsAll
  refine ev_bindc rfl (ev_bindc (l1In_eq _ _ _) ?_)
  by_cases hm : 0 ≤ m ∧ m ≤ 6
  · rw [decide_eq_true hm, Bool.true_and]
    refine ev_pos rfl ?_
    obtain ⟨n, rfl⟩ := Int.eq_ofNat_of_zero_le hm.1
    have hn : n ≤ 6 := by omega
    obtain ⟨q1, q2⟩ := pow6 hn
    have hsh := shlen hn
    rw [Int.toNat_natCast]
    have second : (∀ p, p ∈ l → partOk n p = true) → Ev (fun k => spec_MeetsAll.l1 k (n : Int) l [] 0) (casts (Cb.mins n (Cb.meets (nats l)))) := by
      intro hp
      have fin : casts ((List.range (2 ^ n)).filter (Cb.isMin n (Cb.meets (nats l)))) = casts (Cb.mins n (Cb.meets (nats l))) := rfl
      generalize 2 ^ n = P at q1 q2 hsh fin
      have key : ∀ x, x ≤ P → ∀ out : List Int, out.length ≤ x → Ev (fun k => spec_MeetsAll.l1 k (n : Int) l out (x : Int)) (out ++ found (Cb.isMin n (Cb.meets (nats l))) P x) := by
        apply down
        · intro out _
          exact Ev.step (fun k => rfl) (ev_neg (by rw [hsh]; omega) (ev_eq (Ev.now _) (by rw [found_end, List.append_nil])))
        · intro x hx ih out ho
          refine Ev.step (fun k => rfl) (ev_pos (by rw [hsh]; omega) (Ev.bind (l9Meets_ev hn hl hp (x := x) (by omega)) ?_))
          have inner : ∀ i, i ≤ n → ∀ c : Bool, Ev (fun k => spec_MeetsAll.l2 k (n : Int) l out (x : Int) c (i : Int)) (out ++ (if (c && from_ (minAt (Cb.meets (nats l)) x) n i) = true then (x : Int) :: found (Cb.isMin n (Cb.meets (nats l))) P (x + 1) else found (Cb.isMin n (Cb.meets (nats l))) P (x + 1))) := by
            apply down
            · intro c
              refine Ev.step (fun k => rfl) (ev_neg (by omega) ?_)
              rw [from_end, Bool.and_true, w1 hx (by omega)]
              cases c with
              | true =>
                refine ev_pos rfl (ev_pos (by omega) (ev_eq (ih _ (by rw [List.length_append]; simp; omega)) ?_))
                rw [if_pos rfl, List.append_assoc]
                rfl
              | false => exact ev_neg (by decide) (ev_eq (ih _ (by omega)) (by rw [if_neg (by decide)]))
            · intro i hi ihi c
              refine Ev.step (fun k => rfl) (ev_pos (by omega) (ev_pos (by omega) ?_))
              rw [mod_bit x i (by omega), from_step _ hi, w1 hi (by omega)]
              cases hx' : x.testBit i with
              | false =>
                refine ev_neg (fun h => by rw [bi_one.1 h] at hx'; cases hx') (ev_eq (ihi c) ?_)
                simp [minAt, hx']
              | true =>
                obtain ⟨e, e'⟩ := bit_out (by omega) (by omega) hx'
                have hp2 := pow_lt6 (i := i) (by omega)
                have hf := flip64 (x := x) (i := i) (by omega) (by omega)
                have e2 : wrap64 ((x : Int) - shl .i64 1 (i : Int)) = ((x ^^^ 2 ^ i : Nat) : Int) := by
                  rw [shl1 i (by omega), ← e, Int.natCast_sub e']
                  generalize 2 ^ i = z at hp2 e'
                  exact w64 (by omega) (by omega)
                rw [e2]
                refine ev_pos (bi_one.2 hx') (Ev.bind (l9Meets_ev hn hl hp hf) ?_)
                cases hs : Cb.meets (nats l) (x ^^^ 2 ^ i) with
                | false =>
                  refine ev_neg (by decide) (ev_eq (ihi c) ?_)
                  simp [minAt, hs]
                | true =>
                  refine ev_pos rfl (ev_eq (ihi false) ?_)
                  simp [minAt, hs, hx']
          refine ev_eq (inner 0 (Nat.zero_le _) _) ?_
          rw [found_step _ hx, isMin_from]
      have := key 0 (Nat.zero_le _) [] (Nat.zero_le _)
      rw [List.nil_append, found_all, fin] at this
      exact this
    have key : ∀ i, i ≤ l.length → (∀ p, p ∈ l.take i → partOk n p = true) → Ev (fun k => spec_MeetsAll.l0 k (n : Int) l [] (i : Int)) (if (l.drop i).all (partOk n) = true then casts (Cb.mins n (Cb.meets (nats l))) else []) := by
      apply down
      · intro hp
        rw [List.take_length] at hp
        refine Ev.step (fun k => rfl) (ev_neg (by omega) (ev_eq (second hp) ?_))
        rw [List.drop_length, List.all_nil, if_pos rfl]
      · intro i hi ih hp
        refine Ev.step (fun k => rfl) (ev_pos (by omega) (ev_pos (by omega) (ev_pos (by omega) (ev_bindc (l1In_eq _ _ _) ?_))))
        have ew : wrap64 (shl .i64 1 (n : Int) - 1) = ((2 ^ n : Nat) : Int) - 1 := by
          rw [hsh]
          generalize 2 ^ n = P at q1 q2
          exact w64 (by omega) (by omega)
        have ed : decide (0 ≤ rd l (i : Int) ∧ rd l (i : Int) ≤ wrap64 (shl .i64 1 (n : Int) - 1)) = partOk n (rd l (i : Int)) := by
          rw [ew]
          unfold partOk
          exact decide_eq_decide.2 ⟨fun h => ⟨h.1, by omega⟩, fun h => ⟨h.1, by omega⟩⟩
        rw [ed, w1 hi hl, List.drop_eq_getElem_cons hi, List.all_cons, ← rd_at hi]
        cases hq : partOk n (rd l (i : Int)) with
        | true =>
          refine ev_pos rfl ?_
          rw [Bool.true_and]
          refine ih ?_
          intro p hp'
          rw [List.take_succ_eq_append_getElem hi, List.mem_append, List.mem_singleton] at hp'
          rcases hp' with hp' | rfl
          · exact hp p hp'
          · rw [← rd_at hi]; exact hq
        | false => exact ev_neg (by decide) (ev_eq (Ev.now _) (by rw [Bool.false_and, if_neg (by decide)]))
    have := key 0 (Nat.zero_le _) (fun p hp => by simp at hp)
    simpa using this
  · rw [decide_eq_false hm, Bool.false_and]
    exact ev_neg (by decide) (ev_eq (Ev.now _) (by rw [if_neg (by decide)]))
theorem impl_MeetsAll_eq (m : Int) (l : List Int) : impl_MeetsAll.f m l = some (meetsAll m l) := by
  unfold impl_MeetsAll.f meetsAll
  by_cases h0 : m < 0
  · rw [if_pos h0, decide_eq_false (by omega), Bool.false_and, if_neg (by decide)]
  · rw [if_neg h0]
    by_cases h6 : 6 < m
    · rw [if_pos h6, decide_eq_false (by omega), Bool.false_and, if_neg (by decide)]
    · rw [if_neg h6, decide_eq_true (by omega), Bool.true_and]
      obtain ⟨n, rfl⟩ := Int.eq_ofNat_of_zero_le (show 0 ≤ m by omega)
      have hn : n ≤ 6 := by omega
      obtain ⟨q1, q2⟩ := pow6 hn
      rw [Int.toNat_natCast]
      have := contL_any (p := impl_MeetsAll.no1 (n : Int)) (q := fun p => !partOk n p) (l := l) (fun p _ => by
        unfold impl_MeetsAll.no1 partOk
        rw [shlen hn]
        by_cases hp : p < 0
        · rw [if_pos hp, decide_eq_false (by omega)]
          rfl
        · rw [if_neg hp, if_pos (by omega)]
          congr 1
          rw [Bool.eq_iff_iff, decide_eq_true_eq, Bool.not_eq_true', decide_eq_false_iff_not]
          omega)
      rw [this, Option.bind_some]
      have hall := any_not (q := partOk n) l
      cases ha : l.all (partOk n) with
      | false =>
        rw [ha] at hall
        have : (l.any fun p => !partOk n p) = true := by simpa using hall
        rw [this, if_pos rfl, if_neg (by decide)]
      | true =>
        rw [ha] at hall
        have : (l.any fun p => !partOk n p) = false := by simpa using hall
        rw [this, if_neg (by decide), if_pos rfl]
        refine leastThat_eq hn (fun x hx => ?_)
        have hok : ∀ p, p ∈ l → partOk n p = true := List.all_eq_true.1 ha
        have := contL_any (p := impl_MeetsAll.no3 (x : Int)) (q := fun p => !decide (p.toNat &&& x ≠ 0)) (l := l) (fun p hp => by
          obtain ⟨q, rfl, hq⟩ := partOk_nat (hok p hp)
          unfold impl_MeetsAll.no3
          rw [band q x (by omega) (by omega), Int.toNat_natCast]
          congr 1
          by_cases h : q &&& x = 0
          · rw [h]; rfl
          · rw [decide_eq_false (fun k => h (by omega)), decide_eq_true h]
            rfl)
        unfold impl_MeetsAll.no2
        rw [this, Option.bind_some, any_not]
        congr 1
        unfold Cb.meets nats
        rw [List.all_map]
        rfl

/-! ### what is sure -/
def common (a : Nat) (l : List Nat) : Nat := l.foldl (fun x y => x &&& y) a
def sure (t : Int) (l : List Int) (s : Int) : Int := if (baseOk t l && setOk t s) = true then ((common (2 ^ l.length - 1) (Cb.maxs l.length (so t l s.toNat)) : Nat) : Int) else -1
theorem maxs_lt {n : Nat} {q : Nat → Bool} {i : Nat} (h : i < (Cb.maxs n q).length) : ((Cb.maxs n q)[i]) < 2 ^ n := (Cb.mem_maxs.1 (List.getElem_mem h)).1
theorem rd_casts {l : List Nat} {i : Nat} (h : i < l.length) : rd (casts l) (i : Int) = ((l[i] : Nat) : Int) := by
  rw [rd_at (by rw [casts_length]; exact h)]
  simp [casts]
theorem maxs_len (n : Nat) (q : Nat → Bool) : (Cb.maxs n q).length ≤ 2 ^ n := by
  have := List.length_filter_le (Cb.isMax n q) (List.range (2 ^ n))
  rw [List.length_range] at this
  exact this
theorem spec_SureParts_ev (t : Int) {l : List Int} (s : Int) (hn : l.length ≤ 9223372036854775807) : Ev (fun k => spec_SureParts.f k t l s) (sure t l s) := by
  unfold spec_SureParts.f sure
  refine Ev.bind (BaseOk_ev t hn) ?_
  cases hb : baseOk t l with
  | false => exact ev_ff (Ev.step (f := fun _ => some (-1)) (fun k => rfl) (ev_eq (Ev.now _) (by rw [Bool.false_and, if_neg (by decide)])))
  | true =>
    refine ev_tt (ev_bindc (SetOk_eq t s) ?_)
    cases hs : setOk t s with
    | false => exact Ev.step (f := fun _ => some (-1)) (fun k => rfl) (ev_eq (Ev.now _) (by rw [if_neg (by decide)]))
    | true =>
      refine Ev.step (f := fun k => (spec_GreatestParts.f k t l s).bind fun r => spec_SureParts.l0 k (wrap64 ((shl .i64 1 (l.length : Int)) - 1)) r 0) (fun k => rfl) ?_
      refine Ev.bind (spec_GreatestParts_ev t s hn) ?_
      rw [hb, hs, if_pos (show (true && true) = true from rfl)]
      obtain ⟨_, _, hl⟩ := baseOk_iff.1 hb
      obtain ⟨q1, q2⟩ := pow6 hl
      have hlen := maxs_len l.length (so t l s.toNat)
      have hlt := fun i (h : i < (Cb.maxs l.length (so t l s.toNat)).length) => maxs_lt h
      generalize Cb.maxs l.length (so t l s.toNat) = M at hlen hlt
      rw [shlen hl]
      generalize 2 ^ l.length = P at *
      have key : ∀ i, i ≤ M.length → ∀ a : Nat, a < 64 → Ev (fun k => spec_SureParts.l0 k (a : Int) (casts M) (i : Int)) ((common a (M.drop i) : Nat) : Int) := by
        apply down
        · intro a ha
          exact Ev.step (fun k => rfl) (ev_neg (by rw [casts_length]; omega) (ev_eq (Ev.now _) (by rw [List.drop_length]; rfl)))
        · intro i hi ih a ha
          refine Ev.step (fun k => rfl) (ev_pos (by rw [casts_length]; omega) (ev_pos (by omega) ?_))
          rw [rd_casts hi, w1 hi (by omega), List.drop_eq_getElem_cons hi]
          exact Ev.bind (l9Common_ev ha) (ih _ (Nat.lt_of_le_of_lt Nat.and_le_left ha))
      have := key 0 (Nat.zero_le _) (P - 1) (by omega)
      rw [w64 (by omega) (by omega), show (P : Int) - 1 = ((P - 1 : Nat) : Int) from by omega]
      simpa using this
theorem impl_SureParts_ev (t : Int) (l : List Int) (s : Int) : Ev (fun k => impl_SureParts.f k t l s) (sure t l s) := by
  unfold impl_SureParts.f sure
  refine ev_bindc (isBase_eq t l) ?_
  cases hb : baseOk t l with
  | false => exact ev_ff (Ev.step (f := fun _ => some (-1)) (fun k => rfl) (ev_eq (Ev.now _) (by rw [Bool.false_and, if_neg (by decide)])))
  | true =>
    refine ev_tt (ev_bindc (isSet_eq t s) ?_)
    cases hs : setOk t s with
    | false => exact Ev.step (f := fun _ => some (-1)) (fun k => rfl) (ev_eq (Ev.now _) (by rw [if_neg (by decide)]))
    | true =>
      refine Ev.step (f := fun k => (impl_greatestParts.f k t l s).bind fun r => impl_SureParts.l0 k (wrap64 ((shl .i64 1 (l.length : Int)) - 1)) r (r.length : Int) 0) (fun k => rfl) ?_
      obtain ⟨n, rfl, hn1, _⟩ := setOk_nat hs
      refine Ev.bind (greatestParts_ev hb n) ?_
      rw [if_pos (show (true && true) = true from rfl), Int.toNat_natCast]
      obtain ⟨_, _, hl⟩ := baseOk_iff.1 hb
      obtain ⟨q1, q2⟩ := pow6 hl
      have hlen := maxs_len l.length (so t l n)
      have hlt := fun i (h : i < (Cb.maxs l.length (so t l n)).length) => maxs_lt h
      generalize Cb.maxs l.length (so t l n) = M at hlen hlt
      rw [shlen hl]
      generalize 2 ^ l.length = P at *
      have key : ∀ i, i ≤ M.length → ∀ a : Nat, a < 64 → Ev (fun k => impl_SureParts.l0 k (a : Int) (casts M) ((casts M).length : Int) (i : Int)) ((common a (M.drop i) : Nat) : Int) := by
        apply down
        · intro a ha
          exact Ev.step (fun k => rfl) (ev_neg (by rw [casts_length]; omega) (ev_eq (Ev.now _) (by rw [List.drop_length]; rfl)))
        · intro i hi ih a ha
          refine Ev.step (fun k => rfl) (ev_pos (by rw [casts_length]; omega) (ev_pos (by omega) (ev_pos (by rw [casts_length]; omega) ?_)))
          have := hlt i hi
          rw [rd_casts hi, w1 hi (by omega), List.drop_eq_getElem_cons hi, band a _ (by omega) (by omega)]
          exact ih _ (Nat.lt_of_le_of_lt Nat.and_le_left ha)
      have := key 0 (Nat.zero_le _) (P - 1) (by omega)
      rw [w64 (by omega) (by omega), show (P : Int) - 1 = ((P - 1 : Nat) : Int) from by omega]
      simpa using this
/-! ### how many -/
theorem mins_len (n : Nat) (q : Nat → Bool) : (Cb.mins n q).length ≤ 2 ^ n := by
  have := List.length_filter_le (Cb.isMin n q) (List.range (2 ^ n))
  rw [List.length_range] at this
  exact this
theorem meetsAll_len (m : Int) (l : List Int) : (meetsAll m l).length ≤ 64 := by
  unfold meetsAll
  split
  · rename_i h
    simp only [Bool.and_eq_true, decide_eq_true_eq] at h
    have := pow6 (n := m.toNat) (by omega)
    have := mins_len m.toNat (Cb.meets (nats l))
    rw [casts_length]
    omega
  · simp
theorem parts_len {t : Int} {l : List Int} {s : Int} {M : List Nat} (hM : M.length ≤ 2 ^ l.length) : (if (baseOk t l && setOk t s) = true then casts M else []).length ≤ 64 := by
  split
  · rename_i h
    simp only [Bool.and_eq_true] at h
    have := pow6 (baseOk_iff.1 h.1).2.2
    rw [casts_length]
    omega
  · simp
end Go.Proofs.Yteiehniidihmdaa.Pl
