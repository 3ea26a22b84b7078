/- Families of parts: as rows of numbers; what follows always; what is sure. -/
import Derived.Test.YteiehniidihmdaaPx18
import Derived.Test.YteiehniidihmdaaPx26
import Derived.Test.YteiehniidihmdaaPso
import Derived.Test.YteiehniidihmdaaPmeet
namespace Go.Proofs.Yteiehniidihmdaa.Pl
open Go.RowKit Go.Proofs.YteiehniidihmdaaW.PrintWords Go.Proofs.YteiehniidihmdaaW.PrintLast Go.Proofs.YteiehniidihmdaaW.PrintMore Go.Proofs.Yteiehniidihmdaa.P Go.Proofs.Yteiehniidihmdaa.Mt
theorem shared_ev {a b : Nat} (ha : a < 64) : Ev (fun k => laws_sharedBits.f k (a : Int) (b : Int)) ((a &&& b : Nat) : Int) := by
  unfold laws_sharedBits.f
  have key : ∀ (i : Nat), i ≤ 6 → Ev (fun k => laws_sharedBits.l0 k (a : Int) (b : Int) (((a &&& b) % 2 ^ i : Nat) : Int) (i : Int)) ((a &&& b : Nat) : Int) := by
    apply down
    · refine Ev.step (fun k => rfl) (ev_neg (by omega) (ev_eq (Ev.now _) ?_))
      have : a &&& b < 2 ^ 6 := Nat.lt_of_le_of_lt Nat.and_le_left ha
      rw [Nat.mod_eq_of_lt this]
    · intro i hi ih
      have hp : (2 : Nat) ^ i ≤ 2 ^ 5 := Nat.pow_le_pow_right (by decide) (by omega)
      have hm : (a &&& b) % 2 ^ i < 2 ^ i := Nat.mod_lt _ (Nat.two_pow_pos i)
      have off : (a &&& b).testBit i = false → (((a &&& b) % 2 ^ (i + 1) : Nat) : Int) = (((a &&& b) % 2 ^ i : Nat) : Int) := by
        intro h
        rw [bit_mod, bi_bit, h]
        simp
      rw [Nat.testBit_and] at off
      refine Ev.step (fun k => rfl) (ev_pos (by omega) (ev_pos (by omega) ?_))
      rw [mod_bit a i (by omega), mod_bit b i (by omega), w1 hi (by omega)]
      cases h1 : a.testBit i with
      | false =>
        refine ev_neg (fun e => by rw [bi_one.1 e] at h1; cases h1) ?_
        rw [← off (by rw [h1]; rfl)]
        exact ih
      | true =>
        refine ev_pos (bi_one.2 h1) ?_
        cases h2 : b.testBit i with
        | false =>
          refine ev_neg (fun e => by rw [bi_one.1 e] at h2; cases h2) ?_
          rw [← off (by rw [h1, h2]; rfl)]
          exact ih
        | true =>
          refine ev_pos (bi_one.2 h2) ?_
          have e : wrap64 ((((a &&& b) % 2 ^ i : Nat) : Int) + shl .i64 1 (i : Int)) = (((a &&& b) % 2 ^ (i + 1) : Nat) : Int) := by
            rw [bit_mod, bi_bit, Nat.testBit_and, h1, h2, shl1 i (by omega)]
            simp only [Bool.and_self, if_true, Nat.mul_one]
            generalize (a &&& b) % 2 ^ i = y at hm
            generalize 2 ^ i = z at hm hp
            rw [w64 (by omega) (by omega)]
            omega
          rw [e]
          exact ih
  have := key 0 (Nat.zero_le _)
  simpa [Nat.mod_one] using this
theorem hasInt_ev {l : List Int} (x : Int) (hn : l.length ≤ 9223372036854775807) : Ev (fun k => laws_hasInt.f k l x) (decide (x ∈ l)) := by
  unfold laws_hasInt.f
  have key : ∀ i, i ≤ l.length → Ev (fun k => laws_hasInt.l0 k l x (i : Int)) (decide (x ∈ l.drop i)) := by
    apply down
    · refine Ev.step (fun k => rfl) (ev_neg (by omega) (ev_eq (Ev.now _) ?_))
      rw [List.drop_length]
      exact (decide_eq_false (by simp)).symm
    · intro i hi ih
      refine Ev.step (fun k => rfl) (ev_pos (by omega) (ev_pos (by omega) ?_))
      rw [rd_at hi, w1 hi hn, List.drop_eq_getElem_cons hi]
      by_cases e : l[i] = x
      · refine ev_pos e (ev_eq (Ev.now _) ?_)
        exact (decide_eq_true (by rw [e]; exact List.mem_cons_self)).symm
      · refine ev_neg e (ev_eq ih ?_)
        exact decide_eq_decide.2 ⟨fun k => List.mem_cons_of_mem _ k, fun k => (List.mem_cons.1 k).resolve_left fun h => e h.symm⟩
  have := key 0 (Nat.zero_le _)
  simpa using this
theorem sameInts_ev {l m : List Int} (hn : l.length ≤ 9223372036854775807) : Ev (fun k => laws_sameInts.f k l m) (decide (l = m)) := by
  unfold laws_sameInts.f
  by_cases hl : l.length = m.length
  · refine ev_pos (by omega) ?_
    have key : ∀ i, i ≤ l.length → Ev (fun k => laws_sameInts.l0 k l m (i : Int)) (decide (l.drop i = m.drop i)) := by
      apply down
      · refine Ev.step (fun k => rfl) (ev_neg (by omega) (ev_eq (Ev.now _) ?_))
        rw [List.drop_length, hl, List.drop_length, decide_eq_true rfl]
      · intro i hi ih
        have hm : i < m.length := by omega
        refine Ev.step (fun k => rfl) (ev_pos (by omega) (ev_pos (by omega) (ev_pos (by omega) ?_)))
        rw [rd_at hi, rd_at hm, w1 hi hn, List.drop_eq_getElem_cons hi, List.drop_eq_getElem_cons hm]
        by_cases e : l[i] = m[i]
        · refine ev_pos e (ev_eq ih ?_)
          exact decide_eq_decide.2 ⟨fun k => by rw [e, k], fun k => (List.cons.inj k).2⟩
        · refine ev_neg e (ev_eq (Ev.now _) ?_)
          exact (decide_eq_false (fun k => e (List.cons.inj k).1)).symm
    have := key 0 (Nat.zero_le _)
    simpa using this
  · refine ev_neg (by omega) (ev_eq (Ev.now _) ?_)
    exact (decide_eq_false (fun k => hl (by rw [k]))).symm
theorem sameInts_same {l : List Int} (hn : l.length ≤ 9223372036854775807) : Ev (fun k => laws_sameInts.f k l l) true := ev_eq (sameInts_ev hn) (decide_eq_true rfl)


theorem nats_casts (ps : List Nat) : nats (casts ps) = ps := by
  unfold nats casts
  rw [List.map_map]
  exact (List.map_congr_left (fun x _ => Int.toNat_natCast x)).trans (List.map_id _)
theorem casts_nats {n : Nat} {l : List Int} (h : ∀ p, p ∈ l → partOk n p = true) : casts (nats l) = l := by
  unfold nats casts
  rw [List.map_map]
  refine (List.map_congr_left (fun x hx => ?_)).trans (List.map_id _)
  obtain ⟨q, e, _⟩ := partOk_nat (h x hx)
  rw [e]
  rfl
theorem mem_casts {ps : List Nat} {x : Nat} : (x : Int) ∈ casts ps ↔ x ∈ ps := by
  unfold casts
  rw [List.mem_map]
  constructor
  · rintro ⟨y, hy, e⟩
    rwa [← Int.ofNat_inj.1 e]
  · exact fun h => ⟨x, h, rfl⟩
theorem partOk_lt {n x : Nat} (h : x < 2 ^ n) : partOk n (x : Int) = true := decide_eq_true ⟨by omega, by omega⟩
theorem casts_ok {n : Nat} {ps : List Nat} (h : ∀ p, p ∈ ps → p < 2 ^ n) : ∀ p, p ∈ casts ps → partOk n p = true := by
  intro p hp
  obtain ⟨y, hy, rfl⟩ := List.mem_map.1 hp
  exact partOk_lt (h y hy)
theorem meetsAll_ok {n : Nat} (hn : n ≤ 6) {l : List Int} (h : ∀ p, p ∈ l → partOk n p = true) : meetsAll (n : Int) l = casts (Cb.mins n (Cb.meets (nats l))) := by
  unfold meetsAll
  rw [if_pos (by simp only [Bool.and_eq_true, decide_eq_true_eq, List.all_eq_true]; exact ⟨by omega, h⟩)]
  rfl
theorem meetsAll_casts {n : Nat} (hn : n ≤ 6) {ps : List Nat} (h : ∀ p, p ∈ ps → p < 2 ^ n) : meetsAll (n : Int) (casts ps) = casts (Cb.mins n (Cb.meets ps)) := by
  rw [meetsAll_ok hn (casts_ok h), nats_casts]
theorem only_zero {L : List Nat} (nd : L.Nodup) (h : ∀ x, x ∈ L ↔ x = 0) : L = [0] := by
  match L, nd, h with
  | [], _, h => exact absurd ((h 0).2 rfl) (by simp)
  | [a], _, h => rw [(h a).1 (by simp)]
  | a :: b :: r, nd, h =>
    have ea := (h a).1 (by simp)
    have eb := (h b).1 (by simp)
    subst ea eb
    simp at nd
/-! ### what always is so -/
theorem mins_always {n : Nat} {so : Nat → Bool} (h : ∀ x, so x = true) : Cb.mins n so = [0] := by
  refine only_zero (Cb.nodup_mins n so) fun x => ?_
  rw [Cb.mem_mins]
  constructor
  · rintro ⟨hx, _, hm⟩
    apply Nat.eq_of_testBit_eq
    intro i
    rw [Nat.zero_testBit]
    cases hb : x.testBit i with
    | false => rfl
    | true =>
      have := hm i (Cb.bit_lt hx hb) hb
      rw [h] at this
      cases this
  · rintro rfl
    exact ⟨Nat.two_pow_pos n, h 0, fun i _ hb => by simp at hb⟩
theorem maxs_always {n : Nat} {so : Nat → Bool} (h : ∀ x, so x = true) : Cb.maxs n so = [] := by
  apply List.eq_nil_iff_forall_not_mem.2
  intro x hx
  have := (Cb.mem_maxs.1 hx).2.1
  rw [h] at this
  cases this
theorem so_always (t : Int) (l : List Int) (x : Nat) : so t l (all t) x = true := so_iff.2 (by
  rw [← worlds_zero t l]
  exact worlds_sub fun j _ e => by simp at e)
theorem so_zero {t : Int} (h : 1 ≤ t ∧ t ≤ 3) {l : List Int} {s : Nat} (hs : s ≤ all t) (ne : s ≠ all t) : so t l s 0 = false := by
  cases e : so t l s 0 with
  | false => rfl
  | true =>
    have h1 := so_iff.1 e
    rw [worlds_zero] at h1
    have h2 := Cb.sub_and.2 h1
    rw [all_and h hs] at h2
    exact absurd h2 ne
/-! ### what is common -/
theorem common_sub : ∀ (l : List Nat) (a : Nat), Cb.Sub (common a l) a
  | [], a => Cb.Sub.refl a
  | g :: r, a => (common_sub r (a &&& g)).trans (and_sub_left _ _)
theorem common_mem : ∀ (l : List Nat) (a g : Nat), g ∈ l → Cb.Sub (common a l) g
  | g' :: r, a, g, h => by
    show Cb.Sub (common (a &&& g') r) g
    rcases List.mem_cons.1 h with rfl | h
    · exact (common_sub r _).trans (and_sub_right _ _)
    · exact common_mem r _ g h
theorem common_bit : ∀ (l : List Nat) (a i : Nat), a.testBit i = true → (∀ g, g ∈ l → g.testBit i = true) → (common a l).testBit i = true
  | [], _, _, h, _ => h
  | g :: r, a, i, h, k => by
    show (common (a &&& g) r).testBit i = true
    exact common_bit r _ i (by rw [Nat.testBit_and, h, k g (by simp)]; rfl) fun x hx => k x (List.mem_cons_of_mem _ hx)
theorem common_lt {n : Nat} (l : List Nat) : common (2 ^ n - 1) l < 2 ^ n := by
  have := (common_sub l (2 ^ n - 1)).le
  have := Nat.two_pow_pos n
  omega
theorem rest_cast {n x : Nat} (hn : n ≤ 6) (hx : x < 2 ^ n) : wrap64 (wrap64 (shl .i64 1 (n : Int) - 1) - (x : Int)) = ((Cb.rest n x : Nat) : Int) := by
  have h2 := (pow6 hn).2
  rw [shl_full (by omega), Cb.rest_sub hx, w64 (by omega) (by omega)]
  omega
theorem sames {l : List Int} (hn : l.length ≤ 9223372036854775807) : Ev (fun k => laws_sameInts.f k l l) true := ev_eq (sameInts_ev hn) (decide_eq_true rfl)
/-- Bits that a number shares with any number, be it below 0. -/
def within (a : Nat) (b : Int) : Bool := if 0 ≤ b then decide (a &&& b.toNat = a) else decide (a = 0)
theorem tmod_neg {x : Int} (h : x < 0) : Int.tmod x 2 ≠ 1 := by
  have e : x = -(-x) := by omega
  rw [e, Int.neg_tmod, Int.tmod_eq_emod_of_nonneg (by omega)]
  omega
theorem shr_neg {b : Int} (h : b < 0) (i : Nat) (hi : i ≤ 62) : Int.tmod (shr .i64 b (i : Int)) 2 ≠ 1 := by
  apply tmod_neg
  unfold shr
  rw [show min ((i : Int)).toNat IntKind.i64.bits = i from by simp [IntKind.bits]; omega, pow_cast]
  exact Int.ediv_neg_of_neg_of_pos h (by have := Nat.two_pow_pos i; omega)
theorem shared_neg {a : Nat} {b : Int} (h : b < 0) : Ev (fun k => laws_sharedBits.f k (a : Int) b) 0 := by
  unfold laws_sharedBits.f
  have key : ∀ (i : Nat), i ≤ 6 → Ev (fun k => laws_sharedBits.l0 k (a : Int) b 0 (i : Int)) 0 := by
    apply down
    · exact Ev.step (fun k => rfl) (ev_neg (by omega) (Ev.now _))
    · intro i hi ih
      refine Ev.step (fun k => rfl) (ev_pos (by omega) (ev_pos (by omega) ?_))
      rw [w1 hi (by omega)]
      by_cases e : Int.tmod (shr .i64 (a : Int) (i : Int)) 2 = 1
      · exact ev_pos e (ev_neg (shr_neg h i (by omega)) ih)
      · exact ev_neg e ih
  exact key 0 (Nat.zero_le _)
theorem shared_any {a : Nat} (ha : a < 64) (b : Int) : ∃ r : Int, Ev (fun k => laws_sharedBits.f k (a : Int) b) r ∧ (r = (a : Int) ↔ within a b = true) := by
  by_cases h : 0 ≤ b
  · obtain ⟨n, rfl⟩ := Int.eq_ofNat_of_zero_le h
    refine ⟨_, shared_ev (b := n) ha, ?_⟩
    unfold within
    rw [if_pos h, decide_eq_true_iff]
    exact Int.ofNat_inj
  · refine ⟨0, shared_neg (by omega), ?_⟩
    unfold within
    rw [if_neg h, decide_eq_true_iff]
    omega
end Go.Proofs.Yteiehniidihmdaa.Pl
