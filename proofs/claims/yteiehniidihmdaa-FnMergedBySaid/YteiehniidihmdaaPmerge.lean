/- Weights of rows, what each world weighs, and the worlds that weigh least. -/
import Derived.Test.YteiehniidihmdaaPx20
import Derived.Test.YteiehniidihmdaaPx29
import Derived.Test.YteiehniidihmdaaPdist
namespace Go.Proofs.Yteiehniidihmdaa.Pl
open Go.RowKit Go.Proofs.YteiehniidihmdaaW.PrintWords Go.Proofs.YteiehniidihmdaaW.PrintLast Go.Proofs.YteiehniidihmdaaW.PrintMore Go.Proofs.Yteiehniidihmdaa.P Go.Proofs.Yteiehniidihmdaa.Mt

/-! ### weights -/
def wgt (m : Int) (r : List Nat) : Nat := if m = 0 then r.sum else if m = 1 then r.foldl max 0 else r.foldl (fun a d => 10 * a + d) 0
def wgtOk (l : List Nat) : Bool :=
  let r := srt l
  decide (spec_l8Weight.f 20 (casts r) 0 = some (wgt 0 r : Int)) && decide (spec_l8Weight.f 20 (casts r) 1 = some (wgt 1 r : Int)) && decide (spec_l8Weight.f 20 (casts r) 2 = some (wgt 2 r : Int))
  && decide (impl_sumOf.f 20 (casts r) = some (wgt 0 r : Int)) && decide (rd (casts r) 0 = (wgt 1 r : Int)) && decide (srt r = r) && decide (r.length = l.length) && decide (wgt 1 r ≤ wgt 0 r ∧ wgt 0 r ≤ wgt 1 r * l.length ∧ wgt 2 r ≤ 10000) && r.all (fun x => decide (x < 4))
theorem wgt4 : four wgtOk = true := by decide +kernel
theorem wgt_facts {l : List Nat} (h : Row l) : (∀ m : Int, 0 ≤ m → m ≤ 2 → spec_l8Weight.f 20 (casts (srt l)) m = some (wgt m (srt l) : Int)) ∧ impl_sumOf.f 20 (casts (srt l)) = some (wgt 0 (srt l) : Int) ∧
    rd (casts (srt l)) 0 = (wgt 1 (srt l) : Int) ∧ srt (srt l) = srt l ∧ (srt l).length = l.length ∧ wgt 1 (srt l) ≤ wgt 0 (srt l) ∧ wgt 0 (srt l) ≤ wgt 1 (srt l) * l.length ∧ Row (srt l) := by
  have := four_row wgt4 h
  unfold wgtOk at this
  simp only [Bool.and_eq_true, decide_eq_true_eq, List.all_eq_true] at this
  obtain ⟨⟨⟨⟨⟨⟨⟨⟨a, b⟩, c⟩, d⟩, e⟩, f⟩, g⟩, i⟩, j⟩ := this
  refine ⟨fun m h0 h2 => ?_, d, e, f, g, i.1, i.2.1, by rw [g]; exact h.1, by rw [g]; exact h.2.1, j⟩
  have : m = 0 ∨ m = 1 ∨ m = 2 := by omega
  rcases this with rfl | rfl | rfl
  · exact a
  · exact b
  · exact c
theorem weight_ev {l : List Nat} (h : Row l) {m : Int} (h0 : 0 ≤ m) (h2 : m ≤ 2) : Ev (fun k => spec_l8Weight.f k (casts (srt l)) m) (wgt m (srt l) : Int) := Ev.of (fun k => spec_l8Weight.mono _ _ k) ((wgt_facts h).1 m h0 h2)
theorem sumOf_ev {l : List Nat} (h : Row l) : Ev (fun k => impl_sumOf.f k (casts (srt l))) (wgt 0 (srt l) : Int) := Ev.of (fun k => impl_sumOf.mono _ k) (wgt_facts h).2.1
/-! ### regret -/
def weighs (t : Int) (l : List Int) (m : Int) (w : Nat) : Nat := wgt m (srt (dist t l w))
def regret (t : Int) (l : List Int) (w : Int) : Int × Int := if mindsOk t l = true ∧ 0 ≤ w ∧ w < (wn t : Int) then ((weighs t l 0 w.toNat : Int), (weighs t l 1 w.toNat : Int)) else (-1, -1)
theorem srt_ne {l : List Nat} (h : Row l) : ¬ ((casts (srt l)).length : Int) = 0 := by
  rw [casts_length, (wgt_facts h).2.2.2.2.1]
  have := h.1
  omega
theorem spec_RegretOf_ev (t : Int) {l : List Int} (w : Int) (hn : l.length ≤ 9223372036854775807) : Ev (fun k => spec_RegretOf.f k t l w) (regret t l w) := by
  unfold spec_RegretOf.f regret
  refine Ev.bind (spec_DistancesOf_ev t w hn) ?_
  unfold rowOf
  by_cases h : mindsOk t l = true ∧ 0 ≤ w ∧ w < (wn t : Int)
  · have hr := dist_row h.1 (w := w.toNat) (by omega)
    rw [if_pos h, if_pos h]
    exact ev_neg (srt_ne hr) (Ev.bind (weight_ev hr (m := 0) (by omega) (by omega)) (Ev.bind (weight_ev hr (m := 1) (by omega) (by omega)) (Ev.now _)))
  · rw [if_neg h, if_neg h]
    exact ev_pos rfl (Ev.now _)
theorem impl_RegretOf_ev (t : Int) (l : List Int) (w : Int) : Ev (fun k => impl_RegretOf.f k t l w) (regret t l w) := by
  unfold impl_RegretOf.f regret
  refine ev_bindc (areMinds_eq t l) ?_
  by_cases h : mindsOk t l = true
  · have ht := (mindsOk_iff.1 h).2.1
    refine ev_pos h (ev_bindc (isWorld_eq ht w) ?_)
    by_cases hw : 0 ≤ w ∧ w < (wn t : Int)
    · rw [if_pos ⟨h, hw⟩, decide_eq_true hw]
      obtain ⟨n, rfl⟩ := Int.eq_ofNat_of_zero_le hw.1
      have hr := dist_row h (w := n) (by omega)
      refine Ev.step (fun k => rfl) ?_
      simp only [impl_RegretOf.j0]
      refine ev_neg (by decide) (Ev.bind (distancesOf_ev h (w := n) (by omega)) (Ev.bind (sumOf_ev hr) (ev_pos ?_ (ev_eq (Ev.now _) ?_))))
      · have := srt_ne hr
        omega
      · rw [(wgt_facts hr).2.2.1]
        rfl
    · rw [if_neg (fun x => hw x.2), decide_eq_false hw]
      exact Ev.step (fun k => rfl) (Ev.now _)
  · rw [if_neg (fun x => h x.1)]
    exact ev_neg h (Ev.step (fun k => rfl) (Ev.now _))

/-! ### the least ones -/
/-- The first world that weighs least so far, and all of them. -/
def run (a : Nat) (f : Nat → Nat) : Nat → Option Nat × Nat
  | 0 => (none, 0)
  | i + 1 => if a.testBit i = true then (match (run a f i).1 with
    | none => (some i, 2 ^ i)
    | some b => if f i < f b then (some i, 2 ^ i) else if f i = f b then (some b, (run a f i).2 + 2 ^ i) else (some b, (run a f i).2)) else run a f i
def least (a : Nat) (f : Nat → Nat) (n : Nat) : Nat := (run a f n).2
theorem add_pow {S i : Nat} (h : S < 2 ^ i) : S + 2 ^ i = S ||| 2 ^ i := by
  have := Nat.two_pow_add_eq_or_of_lt h 1
  rw [Nat.mul_one] at this
  rw [Nat.add_comm, this, Nat.or_comm]
theorem add_bit {S i : Nat} (h : S < 2 ^ i) (j : Nat) : (S + 2 ^ i).testBit j = (S.testBit j || decide (i = j)) := by
  rw [add_pow h, Nat.testBit_or, Nat.testBit_two_pow]
theorem run_best (a : Nat) (f : Nat → Nat) : ∀ i, (run a f i).2 < 2 ^ i ∧ (match (run a f i).1 with
    | none => (run a f i).2 = 0 ∧ ∀ w, w < i → a.testBit w = false
    | some b => b < i ∧ a.testBit b = true ∧ (∀ w, w < i → a.testBit w = true → f b ≤ f w) ∧ ∀ w, (run a f i).2.testBit w = true ↔ w < i ∧ a.testBit w = true ∧ f w = f b)
  | 0 => ⟨Nat.two_pow_pos 0, rfl, fun w hw => by omega⟩
  | i + 1 => by
    obtain ⟨h1, h2⟩ := run_best a f i
    have hp : 2 ^ i < 2 ^ (i + 1) := Nat.pow_lt_pow_right (by decide) (by omega)
    have hq : 2 ^ (i + 1) = 2 ^ i + 2 ^ i := by rw [Nat.pow_succ]; omega
    by_cases ha : a.testBit i = true
    · unfold run
      rw [if_pos ha]
      cases hb : (run a f i).1 with
      | none =>
        rw [hb] at h2
        refine ⟨hp, by omega, ha, fun w hw hw2 => ?_, fun w => ?_⟩
        · by_cases e : w = i
          · rw [e]; exact Nat.le_refl _
          · rw [h2.2 w (by omega)] at hw2; cases hw2
        · show (2 ^ i).testBit w = true ↔ _
          rw [Nat.testBit_two_pow, decide_eq_true_iff]
          constructor
          · rintro rfl; exact ⟨by omega, ha, rfl⟩
          · rintro ⟨x, y, _⟩
            by_cases e : w = i
            · exact e.symm
            · rw [h2.2 w (by omega)] at y; cases y
      | some b =>
        rw [hb] at h2
        obtain ⟨k1, k2, k3, k4⟩ := h2
        show _ ∧ _
        by_cases c1 : f i < f b
        · simp only [if_pos c1]
          refine ⟨hp, by omega, ha, fun w hw hw2 => ?_, fun w => ?_⟩
          · by_cases e : w = i
            · rw [e]; exact Nat.le_refl _
            · have := k3 w (by omega) hw2; omega
          · rw [Nat.testBit_two_pow, decide_eq_true_iff]
            constructor
            · rintro rfl; exact ⟨by omega, ha, rfl⟩
            · rintro ⟨x, y, z⟩
              by_cases e : w = i
              · exact e.symm
              · have := k3 w (by omega) y; omega
        · simp only [if_neg c1]
          by_cases c2 : f i = f b
          · simp only [if_pos c2]
            refine ⟨by omega, by omega, k2, fun w hw hw2 => ?_, fun w => ?_⟩
            · by_cases e : w = i
              · rw [e, c2]; exact Nat.le_refl _
              · exact k3 w (by omega) hw2
            · rw [add_bit h1, Bool.or_eq_true, decide_eq_true_iff, k4]
              constructor
              · rintro (⟨x, y, z⟩ | rfl)
                · exact ⟨by omega, y, z⟩
                · exact ⟨by omega, ha, c2⟩
              · rintro ⟨x, y, z⟩
                by_cases e : w = i
                · exact Or.inr e.symm
                · exact Or.inl ⟨by omega, y, z⟩
          · simp only [if_neg c2]
            refine ⟨by omega, by omega, k2, fun w hw hw2 => ?_, fun w => ?_⟩
            · by_cases e : w = i
              · rw [e]; omega
              · exact k3 w (by omega) hw2
            · rw [k4]
              constructor
              · rintro ⟨x, y, z⟩; exact ⟨by omega, y, z⟩
              · rintro ⟨x, y, z⟩
                by_cases e : w = i
                · rw [e] at z; exact absurd z c2
                · exact ⟨by omega, y, z⟩
    · unfold run
      rw [if_neg ha]
      refine ⟨by omega, ?_⟩
      cases hb : (run a f i).1 with
      | none =>
        rw [hb] at h2
        refine ⟨h2.1, fun w hw => ?_⟩
        by_cases e : w = i
        · rw [e]; exact Bool.eq_false_iff.2 ha
        · exact h2.2 w (by omega)
      | some b =>
        rw [hb] at h2
        obtain ⟨k1, k2, k3, k4⟩ := h2
        refine ⟨by omega, k2, fun w hw hw2 => ?_, fun w => ?_⟩
        · by_cases e : w = i
          · rw [e] at hw2; exact absurd hw2 ha
          · exact k3 w (by omega) hw2
        · rw [k4]
          constructor
          · rintro ⟨x, y, z⟩; exact ⟨by omega, y, z⟩
          · rintro ⟨x, y, z⟩
            by_cases e : w = i
            · rw [e] at y; exact absurd y ha
            · exact ⟨by omega, y, z⟩
theorem least_lt (a : Nat) (f : Nat → Nat) (n : Nat) : least a f n < 2 ^ n := (run_best a f n).1
theorem least_bit {a : Nat} {f : Nat → Nat} {n w : Nat} : (least a f n).testBit w = true ↔ w < n ∧ a.testBit w = true ∧ ∀ v, v < n → a.testBit v = true → f w ≤ f v := by
  obtain ⟨h1, h2⟩ := run_best a f n
  unfold least
  cases hb : (run a f n).1 with
  | none =>
    rw [hb] at h2
    rw [h2.1]
    constructor
    · intro h; simp at h
    · rintro ⟨x, y, _⟩
      rw [h2.2 w x] at y
      cases y
  | some b =>
    rw [hb] at h2
    obtain ⟨k1, k2, k3, k4⟩ := h2
    rw [k4]
    constructor
    · rintro ⟨x, y, z⟩
      exact ⟨x, y, fun v hv hv2 => by rw [z]; exact k3 v hv hv2⟩
    · rintro ⟨x, y, z⟩
      exact ⟨x, y, Nat.le_antisymm (z b k1 k2) (k3 w x y)⟩
theorem least_some {a : Nat} {f : Nat → Nat} {n w : Nat} (hw : w < n) (h : a.testBit w = true) : ∃ v, (least a f n).testBit v = true := by
  obtain ⟨h1, h2⟩ := run_best a f n
  cases hb : (run a f n).1 with
  | none =>
    rw [hb, ] at h2
    rw [h2.2 w hw] at h
    cases h
  | some b =>
    rw [hb] at h2
    exact ⟨b, (h2.2.2.2 b).2 ⟨h2.1, h2.2.1, rfl⟩⟩
end Go.Proofs.Yteiehniidihmdaa.Pl
