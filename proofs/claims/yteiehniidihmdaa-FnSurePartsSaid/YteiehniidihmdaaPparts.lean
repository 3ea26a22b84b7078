/- Plain laws on parts of a base: greatest parts, least parts, what meets all: the program and the reference tell the lists of Comb. -/
import Derived.Test.YteiehniidihmdaaPx7
import Derived.Test.YteiehniidihmdaaPx8
import Derived.Test.YteiehniidihmdaaPx14
import Derived.Test.YteiehniidihmdaaPx17
import Derived.Test.YteiehniidihmdaaPx18
import Derived.Test.YteiehniidihmdaaPx21
import Derived.Test.YteiehniidihmdaaPx25
import Derived.Test.YteiehniidihmdaaPok
import Derived.Test.YteiehniidihmdaaComb
namespace Go.Proofs.Yteiehniidihmdaa.Pl
open Go.RowKit Go.Proofs.YteiehniidihmdaaW.PrintWords Go.Proofs.YteiehniidihmdaaW.PrintLast Go.Proofs.YteiehniidihmdaaW.PrintMore Go.Proofs.Yteiehniidihmdaa.P Go.Proofs.Yteiehniidihmdaa.Mt

/-! ### a bit in, a bit out, of small numbers -/
theorem flips : ∀ x : Fin 64, ∀ i : Fin 6, (Nat.testBit x.val i.val = true → x.val - 2 ^ i.val = x.val ^^^ 2 ^ i.val ∧ 2 ^ i.val ≤ x.val) ∧ (Nat.testBit x.val i.val = false → x.val + 2 ^ i.val = x.val ^^^ 2 ^ i.val ∧ x.val ||| 2 ^ i.val = x.val ^^^ 2 ^ i.val) := by decide +kernel
theorem bit_out {x i : Nat} (hx : x < 64) (hi : i < 6) (h : x.testBit i = true) : x - 2 ^ i = x ^^^ 2 ^ i ∧ 2 ^ i ≤ x := (flips ⟨x, hx⟩ ⟨i, hi⟩).1 h
theorem bit_in {x i : Nat} (hx : x < 64) (hi : i < 6) (h : x.testBit i = false) : x + 2 ^ i = x ^^^ 2 ^ i ∧ x ||| 2 ^ i = x ^^^ 2 ^ i := (flips ⟨x, hx⟩ ⟨i, hi⟩).2 h
theorem pow_lt6 {i : Nat} (hi : i < 6) : 2 ^ i < 64 := Nat.pow_lt_pow_right (a := 2) (m := i) (n := 6) (by decide) hi
theorem flip64 {x i : Nat} (hx : x < 64) (hi : i < 6) : x ^^^ 2 ^ i < 64 := Nat.xor_lt_two_pow (n := 6) hx (pow_lt6 hi)

/-! ### loops that keep what they find -/
def casts (l : List Nat) : List Int := l.map fun (x : Nat) => (x : Int)
theorem casts_length (l : List Nat) : (casts l).length = l.length := by simp [casts]
theorem casts_cons (x : Nat) (l : List Nat) : casts (x :: l) = (x : Int) :: casts l := rfl
/-- What is found from x on. -/
def found (q : Nat → Bool) (N x : Nat) : List Int := casts ((List.range' x (N - x)).filter q)
theorem found_end (q : Nat → Bool) (N : Nat) : found q N N = [] := by unfold found; rw [Nat.sub_self]; rfl
theorem found_step (q : Nat → Bool) {N x : Nat} (h : x < N) : found q N x = if q x = true then (x : Int) :: found q N (x + 1) else found q N (x + 1) := by
  unfold found
  rw [show N - x = (N - (x + 1)) + 1 from by omega, List.range'_succ, List.filter_cons]
  cases q x with
  | true => rfl
  | false => rfl
theorem found_all (q : Nat → Bool) (N : Nat) : found q N 0 = casts ((List.range N).filter q) := by
  unfold found
  rw [Nat.sub_zero, List.range_eq_range']
/-- It holds from i on. -/
def from_ (q : Nat → Bool) (n i : Nat) : Bool := (List.range' i (n - i)).all q
theorem from_end (q : Nat → Bool) (n : Nat) : from_ q n n = true := by unfold from_; rw [Nat.sub_self]; rfl
theorem from_step (q : Nat → Bool) {n i : Nat} (h : i < n) : from_ q n i = (q i && from_ q n (i + 1)) := by
  unfold from_
  rw [show n - i = (n - (i + 1)) + 1 from by omega, List.range'_succ, List.all_cons]
theorem from_all (q : Nat → Bool) (n : Nat) : from_ q n 0 = (List.range n).all q := by
  unfold from_
  rw [Nat.sub_zero, List.range_eq_range']

/-! ### what follows from a part -/
def so (t : Int) (l : List Int) (s p : Nat) : Bool := decide (worlds t l p &&& s = worlds t l p)
theorem l9Tells_ev {t : Int} {l : List Int} (hb : baseOk t l = true) (p s : Nat) : Ev (fun k => spec_l9Tells.f k t l (p : Int) (s : Int)) (so t l s p) := by
  unfold spec_l9Tells.f
  refine Ev.bind (l9Worlds_ev hb p) (Ev.bind (l1Both_ev (worlds_lt t l p)) (ev_eq (Ev.now _) ?_))
  unfold so
  rw [Bool.eq_iff_iff, beq_iff_eq, decide_eq_true_eq]
  exact Int.ofNat_inj
theorem andNot_so {t : Int} {l : List Int} {s p : Nat} : Go.bits .andNot .i64 ((worlds t l p : Nat) : Int) (s : Int) = 0 ↔ so t l s p = true := by
  have := worlds_lt t l p
  rw [bandnot _ s (by omega)]
  unfold so
  rw [decide_eq_true_eq, ← less_zero]
  exact Int.ofNat_inj (m := less (worlds t l p) s) (n := 0)

/-! ### greatest parts -/
def maxAt (so : Nat → Bool) (x i : Nat) : Bool := x.testBit i || so (x ^^^ 2 ^ i)
theorem isMax_from {n : Nat} {so : Nat → Bool} {x : Nat} : Cb.isMax n so x = (!so x && from_ (maxAt so x) n 0) := by rw [from_all]; rfl
theorem greatestParts_ev {t : Int} {l : List Int} (hb : baseOk t l = true) (s : Nat) : Ev (fun k => impl_greatestParts.f k t l (s : Int)) (casts (Cb.maxs l.length (so t l s))) := by
  obtain ⟨_, _, hl⟩ := baseOk_iff.1 hb
  obtain ⟨q1, q2⟩ := pow6 hl
  unfold impl_greatestParts.f
  rw [shlen hl]
  have key : ∀ x, x ≤ 2 ^ l.length → ∀ out : List Int, out.length ≤ x → Ev (fun k => impl_greatestParts.l0 k t l (s : Int) out ((2 ^ l.length : Nat) : Int) (x : Int)) (out ++ found (Cb.isMax l.length (so t l s)) (2 ^ l.length) x) := by
    apply down
    · intro out _
      exact Ev.step (fun k => rfl) (ev_neg (by omega) (ev_eq (Ev.now _) (by rw [found_end, List.append_nil])))
    · intro x hx ih out ho
      generalize hP : 2 ^ l.length = P at *
      refine Ev.step (fun k => rfl) (ev_pos (by omega) (Ev.bind (partWorlds_ev hb (p := x) (by omega)) ?_))
      have inner : ∀ i, i ≤ l.length → ∀ c : Bool, Ev (fun k => impl_greatestParts.l1 k t l (s : Int) out (x : Int) c (P : Int) (x : Int) (l.length : Int) (i : Int)) (out ++ (if (c && from_ (maxAt (so t l s) x) l.length i) = true then (x : Int) :: found (Cb.isMax l.length (so t l s)) P (x + 1) else found (Cb.isMax l.length (so t l s)) P (x + 1))) := by
        apply down
        · intro c
          refine Ev.step (fun k => rfl) (ev_neg (by omega) ?_)
          rw [from_end, Bool.and_true, w1 hx (by omega)]
          cases c with
          | true =>
            refine ev_pos rfl (ev_pos (by omega) (ev_eq (ih _ (by rw [List.length_append]; simp; omega)) ?_))
            rw [if_pos rfl, List.append_assoc]
            rfl
          | false => exact ev_neg (by decide) (ev_eq (ih _ (by omega)) (by rw [if_neg (by decide)]))
        · intro i hi ihi c
          refine Ev.step (fun k => rfl) (ev_pos (by omega) (ev_pos (by omega) ?_))
          rw [and_bit x i (by omega) (by omega), from_step _ hi, w1 hi (by omega)]
          cases hx' : x.testBit i with
          | true =>
            refine ev_neg (fun h => by rw [bi_zero.1 h] at hx'; cases hx') (ev_eq (ihi c) ?_)
            simp [maxAt, hx']
          | false =>
            obtain ⟨_, e⟩ := bit_in (by omega) (by omega) hx'
            have hp2 := pow_lt6 (i := i) (by omega)
            have hf := flip64 (x := x) (i := i) (by omega) (by omega)
            rw [shl1 i (by omega), bor x (2 ^ i) (by omega) (by omega), e]
            refine ev_pos (bi_zero.2 hx') (Ev.bind (partWorlds_ev hb (p := x ^^^ 2 ^ i) (by omega)) ?_)
            cases hs : so t l s (x ^^^ 2 ^ i) with
            | true =>
              refine ev_pos (andNot_so.2 hs) (ev_eq (ihi c) ?_)
              simp [maxAt, hs]
            | false =>
              refine ev_neg (fun h => by rw [andNot_so.1 h] at hs; cases hs) (ev_eq (ihi false) ?_)
              simp [maxAt, hs, hx']
      refine ev_eq (inner 0 (Nat.zero_le _) _) ?_
      rw [found_step _ hx, isMax_from]
      congr 1
      have : (Go.bits .andNot .i64 ((worlds t l x : Nat) : Int) (s : Int) != 0) = !so t l s x := by
        cases hs : so t l s x with
        | true => rw [andNot_so.2 hs]; rfl
        | false =>
          rw [Bool.not_false, bne_iff_ne]
          exact fun h => by rw [andNot_so.1 h] at hs; cases hs
      rw [this]
  have := key 0 (Nat.zero_le _) [] (Nat.zero_le _)
  rw [List.nil_append, found_all] at this
  exact this
theorem spec_GreatestParts_ev (t : Int) {l : List Int} (s : Int) (hn : l.length ≤ 9223372036854775807) : Ev (fun k => spec_GreatestParts.f k t l s) (if (baseOk t l && setOk t s) = true then casts (Cb.maxs l.length (so t l s.toNat)) else []) := by
  unfold spec_GreatestParts.f
  refine ev_bindc rfl (Ev.bind (BaseOk_ev t hn) ?_)
  cases hb : baseOk t l with
  | false => exact ev_ff (Ev.step (f := fun _ => some []) (fun k => rfl) (ev_eq (Ev.now _) (by rw [Bool.false_and, if_neg (by decide)])))
  | true =>
    refine ev_tt (ev_bindc (SetOk_eq t s) ?_)
    cases hs : setOk t s with
    | false => exact Ev.step (f := fun _ => some []) (fun k => rfl) (ev_eq (Ev.now _) (by rw [if_neg (by decide)]))
    | true =>
      refine Ev.step (f := fun k => spec_GreatestParts.l0 k t l s [] 0) (fun k => rfl) ?_
      rw [if_pos (show (true && true) = true from rfl)]
      obtain ⟨n, rfl, hn1, _⟩ := setOk_nat hs
      rw [Int.toNat_natCast]
      obtain ⟨_, _, hl⟩ := baseOk_iff.1 hb
      obtain ⟨q1, q2⟩ := pow6 hl
      have hsh := shlen hl
      have fin : casts ((List.range (2 ^ l.length)).filter (Cb.isMax l.length (so t l n))) = casts (Cb.maxs l.length (so t l n)) := rfl
      generalize hP : 2 ^ l.length = P at q1 q2 hsh fin
      have key : ∀ x, x ≤ P → ∀ out : List Int, out.length ≤ x → Ev (fun k => spec_GreatestParts.l0 k t l (n : Int) out (x : Int)) (out ++ found (Cb.isMax l.length (so t l n)) P x) := by
        apply down
        · intro out _
          exact Ev.step (fun k => rfl) (ev_neg (by rw [hsh]; omega) (ev_eq (Ev.now _) (by rw [found_end, List.append_nil])))
        · intro x hx ih out ho
          refine Ev.step (fun k => rfl) (ev_pos (by rw [hsh]; omega) (Ev.bind (l9Tells_ev hb x n) ?_))
          have inner : ∀ i, i ≤ l.length → ∀ c : Bool, Ev (fun k => spec_GreatestParts.l1 k t l (n : Int) out (x : Int) c (i : Int)) (out ++ (if (c && from_ (maxAt (so t l n) x) l.length i) = true then (x : Int) :: found (Cb.isMax l.length (so t l n)) P (x + 1) else found (Cb.isMax l.length (so t l n)) P (x + 1))) := by
            apply down
            · intro c
              refine Ev.step (fun k => rfl) (ev_neg (by omega) ?_)
              rw [from_end, Bool.and_true, w1 hx (by omega)]
              cases c with
              | true =>
                refine ev_pos rfl (ev_pos (by omega) (ev_eq (ih _ (by rw [List.length_append]; simp; omega)) ?_))
                rw [if_pos rfl, List.append_assoc]
                rfl
              | false => exact ev_neg (by decide) (ev_eq (ih _ (by omega)) (by rw [if_neg (by decide)]))
            · intro i hi ihi c
              refine Ev.step (fun k => rfl) (ev_pos (by omega) (ev_pos (by omega) ?_))
              rw [mod_bit x i (by omega), from_step _ hi, w1 hi (by omega)]
              cases hx' : x.testBit i with
              | true =>
                refine ev_neg (fun h => by rw [bi_zero.1 h] at hx'; cases hx') (ev_eq (ihi c) ?_)
                simp [maxAt, hx']
              | false =>
                obtain ⟨e, _⟩ := bit_in (by omega) (by omega) hx'
                have hp2 := pow_lt6 (i := i) (by omega)
                rw [shl1 i (by omega), w64 (by omega) (by omega), ← Int.natCast_add, e]
                refine ev_pos (bi_zero.2 hx') (Ev.bind (l9Tells_ev hb (x ^^^ 2 ^ i) n) ?_)
                cases hs : so t l n (x ^^^ 2 ^ i) with
                | true =>
                  refine ev_pos rfl (ev_eq (ihi c) ?_)
                  simp [maxAt, hs]
                | false =>
                  refine ev_neg (by decide) (ev_eq (ihi false) ?_)
                  simp [maxAt, hs, hx']
          refine ev_eq (inner 0 (Nat.zero_le _) _) ?_
          rw [found_step _ hx, isMax_from]
      have := key 0 (Nat.zero_le _) [] (Nat.zero_le _)
      rw [List.nil_append, found_all, fin] at this
      exact this
theorem impl_GreatestParts_ev (t : Int) (l : List Int) (s : Int) : Ev (fun k => impl_GreatestParts.f k t l s) (if (baseOk t l && setOk t s) = true then casts (Cb.maxs l.length (so t l s.toNat)) else []) := by
  unfold impl_GreatestParts.f
  refine ev_bindc (isBase_eq t l) ?_
  cases hb : baseOk t l with
  | false => exact ev_neg (by decide) (by rw [Bool.false_and, if_neg (by decide)]; exact Ev.now _)
  | true =>
    refine ev_pos rfl (ev_bindc (isSet_eq t s) ?_)
    cases hs : setOk t s with
    | false => exact ev_neg (by decide) (by rw [if_neg (by decide)]; exact Ev.now _)
    | true =>
      obtain ⟨n, rfl, _⟩ := setOk_nat hs
      refine ev_tt (Ev.bind (greatestParts_ev hb n) (ev_eq (Ev.now _) ?_))
      rw [if_pos (show (true && true) = true from rfl), Int.toNat_natCast]

/-! ### least parts -/
def minAt (so : Nat → Bool) (x i : Nat) : Bool := !(x.testBit i && so (x ^^^ 2 ^ i))
theorem isMin_from {n : Nat} {so : Nat → Bool} {x : Nat} : Cb.isMin n so x = (so x && from_ (minAt so x) n 0) := by rw [from_all]; rfl
theorem leastThat_eq {p : Int → Option Bool} {so : Nat → Bool} {m : Nat} (hm : m ≤ 6) (h : ∀ x : Nat, x < 2 ^ m → p (x : Int) = some (so x)) : impl_leastThat.f p (m : Int) = some (casts (Cb.mins m so)) := by
  obtain ⟨q1, q2⟩ := pow6 hm
  unfold impl_leastThat.f
  rw [if_pos (by omega), if_pos (by omega), Int.toNat_natCast]
  have inner : ∀ x : Nat, x < 2 ^ m → ∀ n i : Nat, i + n = m → ∀ b, impl_leastThat.i p (x : Int) n (i : Int) b = some (b && from_ (minAt so x) m i) := by
    intro x hx n
    induction n with
    | zero =>
      intro i hi b
      rw [show i = m from by omega, from_end, Bool.and_true]
      rfl
    | succ n ih =>
      intro i hi b
      have hlt : i < m := by omega
      have ih' := ih (i + 1) (by omega)
      rw [from_step _ hlt]
      unfold impl_leastThat.i
      cases b with
      | false => rw [if_neg (by decide)]; exact ih' false
      | true =>
        rw [if_pos rfl, and_bit x i (by omega) (by omega)]
        cases hx' : x.testBit i with
        | true =>
          have hp2 := pow_lt6 (i := i) (by omega)
          rw [if_pos (bi_one.2 hx'), shl1 i (by omega), bxor x (2 ^ i) (by omega) (by omega)]
          rw [h _ (Cb.flip_lt hx hlt), Option.bind_some]
          refine (ih' _).trans ?_
          simp [minAt, hx']
        | false =>
          rw [if_neg (fun e => by rw [bi_one.1 e] at hx'; cases hx')]
          refine (ih' true).trans ?_
          simp [minAt, hx']
  have key : ∀ n x : Nat, x + n = 2 ^ m → ∀ out, impl_leastThat.l p m n (x : Int) out = some (out ++ found (Cb.isMin m so) (2 ^ m) x) := by
    intro n
    induction n with
    | zero =>
      intro x hx out
      rw [show x = 2 ^ m from by omega, found_end, List.append_nil]
      rfl
    | succ n ih =>
      intro x hx out
      have hlt : x < 2 ^ m := by omega
      unfold impl_leastThat.l
      rw [h x hlt, Option.bind_some]
      have := inner x hlt m 0 (by omega) (so x)
      rw [show ((0 : Nat) : Int) = 0 from rfl] at this
      rw [this, Option.bind_some, ← isMin_from, found_step _ hlt]
      have ih' := ih (x + 1) (by omega)
      cases hq : Cb.isMin m so x with
      | true =>
        rw [if_pos rfl, if_pos rfl]
        refine (ih' _).trans ?_
        rw [List.append_assoc]
        rfl
      | false =>
        rw [if_neg (by decide), if_neg (by decide)]
        exact ih' _
  have := key (2 ^ m) 0 (by omega) []
  rw [List.nil_append, found_all] at this
  exact this
theorem impl_LeastParts_ev (t : Int) (l : List Int) (s : Int) : Ev (fun k => impl_LeastParts.f k t l s) (if (baseOk t l && setOk t s) = true then casts (Cb.mins l.length (so t l s.toNat)) else []) := by
  unfold impl_LeastParts.f
  refine ev_bindc (isBase_eq t l) ?_
  cases hb : baseOk t l with
  | false => exact ev_neg (by decide) (by rw [Bool.false_and, if_neg (by decide)]; exact Ev.now _)
  | true =>
    refine ev_pos rfl (ev_bindc (isSet_eq t s) ?_)
    cases hs : setOk t s with
    | false => exact ev_neg (by decide) (by rw [if_neg (by decide)]; exact Ev.now _)
    | true =>
      obtain ⟨n, rfl, _⟩ := setOk_nat hs
      obtain ⟨_, _, hl⟩ := baseOk_iff.1 hb
      obtain ⟨q1, q2⟩ := pow6 hl
      rw [if_pos (show (true && true) = true from rfl), Int.toNat_natCast]
      refine ev_pos rfl ?_
      have each : ∃ K, ∀ k, K ≤ k → ∀ x : Nat, x < 2 ^ l.length → impl_LeastParts.p k t l (n : Int) (x : Int) = some (so t l n x) := by
        have one : ∀ x : Nat, x < 2 ^ l.length → ∃ K, ∀ k, K ≤ k → impl_LeastParts.p k t l (n : Int) (x : Int) = some (so t l n x) := by
          intro x hx
          obtain ⟨K, hK⟩ := partWorlds_ev hb (p := x) (by omega)
          refine ⟨K, fun k hk => ?_⟩
          unfold impl_LeastParts.p
          rw [show impl_partWorlds.f k t l (x : Int) = _ from hK k hk, Option.bind_some]
          congr 1
          rw [Bool.eq_iff_iff, decide_eq_true_eq, andNot_so]
        have upto : ∀ N, N ≤ 2 ^ l.length → ∃ K, ∀ k, K ≤ k → ∀ x : Nat, x < N → impl_LeastParts.p k t l (n : Int) (x : Int) = some (so t l n x) := by
          intro N
          induction N with
          | zero => intro _; exact ⟨0, fun _ _ x hx => absurd hx (Nat.not_lt_zero x)⟩
          | succ N ih =>
            intro hN
            obtain ⟨K1, h1⟩ := ih (by omega)
            obtain ⟨K2, h2⟩ := one N (by omega)
            refine ⟨max K1 K2, fun k hk x hx => ?_⟩
            rcases Nat.lt_or_ge x N with c | c
            · exact h1 k (by omega) x c
            · rw [show x = N from by omega]; exact h2 k (by omega)
        exact upto _ (Nat.le_refl _)
      obtain ⟨K, hK⟩ := each
      exact ⟨K, fun k hk => leastThat_eq hl (hK k hk)⟩
theorem spec_LeastParts_ev (t : Int) {l : List Int} (s : Int) (hn : l.length ≤ 9223372036854775807) : Ev (fun k => spec_LeastParts.f k t l s) (if (baseOk t l && setOk t s) = true then casts (Cb.mins l.length (so t l s.toNat)) else []) := by
  unfold spec_LeastParts.f
  refine ev_bindc rfl (Ev.bind (BaseOk_ev t hn) ?_)
  cases hb : baseOk t l with
  | false => exact ev_ff (Ev.step (f := fun _ => some []) (fun k => rfl) (ev_eq (Ev.now _) (by rw [Bool.false_and, if_neg (by decide)])))
  | true =>
    refine ev_tt (ev_bindc (SetOk_eq t s) ?_)
    cases hs : setOk t s with
    | false => exact Ev.step (f := fun _ => some []) (fun k => rfl) (ev_eq (Ev.now _) (by rw [if_neg (by decide)]))
    | true =>
      refine Ev.step (f := fun k => spec_LeastParts.l0 k t l s [] 0) (fun k => rfl) ?_
      rw [if_pos (show (true && true) = true from rfl)]
      obtain ⟨n, rfl, hn1, _⟩ := setOk_nat hs
      rw [Int.toNat_natCast]
      obtain ⟨_, _, hl⟩ := baseOk_iff.1 hb
      obtain ⟨q1, q2⟩ := pow6 hl
      have hsh := shlen hl
      have fin : casts ((List.range (2 ^ l.length)).filter (Cb.isMin l.length (so t l n))) = casts (Cb.mins l.length (so t l n)) := rfl
      generalize hP : 2 ^ l.length = P at q1 q2 hsh fin
      have key : ∀ x, x ≤ P → ∀ out : List Int, out.length ≤ x → Ev (fun k => spec_LeastParts.l0 k t l (n : Int) out (x : Int)) (out ++ found (Cb.isMin l.length (so t l n)) P x) := by
        apply down
        · intro out _
          exact Ev.step (fun k => rfl) (ev_neg (by rw [hsh]; omega) (ev_eq (Ev.now _) (by rw [found_end, List.append_nil])))
        · intro x hx ih out ho
          refine Ev.step (fun k => rfl) (ev_pos (by rw [hsh]; omega) (Ev.bind (l9Tells_ev hb x n) ?_))
          have inner : ∀ i, i ≤ l.length → ∀ c : Bool, Ev (fun k => spec_LeastParts.l1 k t l (n : Int) out (x : Int) c (i : Int)) (out ++ (if (c && from_ (minAt (so t l n) x) l.length i) = true then (x : Int) :: found (Cb.isMin l.length (so t l n)) P (x + 1) else found (Cb.isMin l.length (so t l n)) P (x + 1))) := by
            apply down
            · intro c
              refine Ev.step (fun k => rfl) (ev_neg (by omega) ?_)
              rw [from_end, Bool.and_true, w1 hx (by omega)]
              cases c with
              | true =>
                refine ev_pos rfl (ev_pos (by omega) (ev_eq (ih _ (by rw [List.length_append]; simp; omega)) ?_))
                rw [if_pos rfl, List.append_assoc]
                rfl
              | false => exact ev_neg (by decide) (ev_eq (ih _ (by omega)) (by rw [if_neg (by decide)]))
            · intro i hi ihi c
              refine Ev.step (fun k => rfl) (ev_pos (by omega) (ev_pos (by omega) ?_))
              rw [mod_bit x i (by omega), from_step _ hi, w1 hi (by omega)]
              cases hx' : x.testBit i with
              | false =>
                refine ev_neg (fun h => by rw [bi_one.1 h] at hx'; cases hx') (ev_eq (ihi c) ?_)
                simp [minAt, hx']
              | true =>
                obtain ⟨e, e'⟩ := bit_out (by omega) (by omega) hx'
                have hp2 := pow_lt6 (i := i) (by omega)
                have e2 : wrap64 ((x : Int) - shl .i64 1 (i : Int)) = ((x ^^^ 2 ^ i : Nat) : Int) := by
                  rw [shl1 i (by omega), ← e, Int.natCast_sub e']
                  generalize 2 ^ i = z at hp2 e'
                  exact w64 (by omega) (by omega)
                rw [e2]
                refine ev_pos (bi_one.2 hx') (Ev.bind (l9Tells_ev hb (x ^^^ 2 ^ i) n) ?_)
                cases hs : so t l n (x ^^^ 2 ^ i) with
                | false =>
                  refine ev_neg (by decide) (ev_eq (ihi c) ?_)
                  simp [minAt, hs]
                | true =>
                  refine ev_pos rfl (ev_eq (ihi false) ?_)
                  simp [minAt, hs, hx']
          refine ev_eq (inner 0 (Nat.zero_le _) _) ?_
          rw [found_step _ hx, isMin_from]
      have := key 0 (Nat.zero_le _) [] (Nat.zero_le _)
      rw [List.nil_append, found_all, fin] at this
      exact this
end Go.Proofs.Yteiehniidihmdaa.Pl
