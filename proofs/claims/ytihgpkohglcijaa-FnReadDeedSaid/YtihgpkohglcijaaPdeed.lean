/- Plain laws: texts of deeds. -/
import Derived.Test.YtihgpkohglcijaaPx2
import Derived.Test.YtihgpkohglcijaaPbase
namespace Go.Proofs.Ytihgpkohglcijaa.Pl
open Go.RowKit Go.Proofs.YtihgpkohglcijaaW.PrintWords Go.Proofs.YtihgpkohglcijaaW.PrintLast Go.Proofs.YtihgpkohglcijaaW.PrintMore Go.Proofs.Ytihgpkohglcijaa.P Go.Proofs.Ytihgpkohglcijaa.Mt

/-! ### printable texts -/
def plain (s : ByteArray) : Bool := (List.range s.size).all fun (j : Nat) => decide (32 ≤ bt s (j : Int) ∧ bt s (j : Int) ≤ 126)
def plainFrom (s : ByteArray) (i : Nat) : Bool := (List.range' i (s.size - i)).all fun (j : Nat) => decide (32 ≤ bt s (j : Int) ∧ bt s (j : Int) ≤ 126)
theorem plainFrom_end (s : ByteArray) : plainFrom s s.size = true := by unfold plainFrom; rw [Nat.sub_self]; rfl
theorem plainFrom_step (s : ByteArray) {i : Nat} (h : i < s.size) : plainFrom s i = (decide (32 ≤ bt s (i : Int) ∧ bt s (i : Int) ≤ 126) && plainFrom s (i + 1)) := by
  unfold plainFrom
  rw [show s.size - i = (s.size - (i + 1)) + 1 from by omega, List.range'_succ, List.all_cons]
theorem plainFrom_all (s : ByteArray) : plainFrom s 0 = plain s := by
  unfold plainFrom plain
  rw [Nat.sub_zero, List.range_eq_range']
theorem l10Plain_ev {s : ByteArray} (hs : s.size ≤ 9223372036854775807) : Ev (fun k => spec_l10Plain.f k s) (plain s && decide (s.size ≠ 0)) := by
  unfold spec_l10Plain.f
  rw [← plainFrom_all]
  have key : ∀ i, i ≤ s.size → Ev (fun k => spec_l10Plain.l0 k s (i : Int)) (plainFrom s i && decide (s.size ≠ 0)) := by
    apply down
    · refine Ev.step (fun k => rfl) (ev_neg (by omega) (ev_eq (Ev.now _) ?_))
      rw [plainFrom_end, Bool.true_and]
      exact decide_eq_decide.2 (by omega)
    · intro i hi ih
      refine Ev.step (fun k => rfl) (ev_pos (by omega) (ev_pos (by omega) ?_))
      rw [plainFrom_step s hi]
      by_cases h1 : bt s (i : Int) < 32
      · rw [decide_eq_false (by omega)]
        exact ev_pos h1 (Ev.now _)
      · by_cases h2 : bt s (i : Int) > 126
        · rw [decide_eq_false (by omega)]
          exact ev_neg h1 (ev_pos h2 (Ev.now _))
        · rw [decide_eq_true (by omega), w1 hi hs]
          exact ev_neg h1 (ev_neg h2 ih)
  exact key 0 (Nat.zero_le _)
theorem isPrintable_ev {s : ByteArray} (hs : s.size ≤ 9223372036854775807) : Ev (fun k => impl_isPrintable.f k s) (plain s) := by
  unfold impl_isPrintable.f
  rw [← plainFrom_all]
  have key : ∀ i, i ≤ s.size → Ev (fun k => impl_isPrintable.l0 k s (s.size : Int) (i : Int)) (plainFrom s i) := by
    apply down
    · refine Ev.step (fun k => rfl) (ev_neg (by omega) (ev_eq (Ev.now _) ?_))
      rw [plainFrom_end]
    · intro i hi ih
      refine Ev.step (fun k => rfl) (ev_pos (by omega) (ev_pos (by omega) (ev_pos (by omega) ?_)))
      rw [plainFrom_step s hi]
      by_cases h1 : bt s (i : Int) < 32
      · rw [decide_eq_false (by omega)]
        exact ev_pos h1 (Ev.now _)
      · by_cases h2 : bt s (i : Int) > 126
        · rw [decide_eq_false (by omega)]
          exact ev_neg h1 (ev_pos h2 (Ev.now _))
        · rw [decide_eq_true (by omega), w1 hi hs]
          exact ev_neg h1 (ev_neg h2 ih)
  exact key 0 (Nat.zero_le _)

/-! ### the text of a deed -/
def sFirst : ByteArray := ⟨#[102, 105, 114, 115, 116, 32]⟩
def sAll : ByteArray := ⟨#[97, 108, 108, 32]⟩
def sBack : ByteArray := ⟨#[98, 97, 99, 107]⟩
def deedT (kind : Int) (s : ByteArray) : ByteArray :=
  if kind = 2 ∧ s.size = 0 then sBack else if plain s = true ∧ s.size ≠ 0 then (if kind = 0 then sFirst ++ s else if kind = 1 then sAll ++ s else ⟨#[]⟩) else ⟨#[]⟩
theorem nil_iff (kind : Int) (s : ByteArray) : (kind == 2 && (s.toList == ([] : List UInt8))) = true ↔ kind = 2 ∧ s.size = 0 := by
  rw [Bool.and_eq_true, beq_iff_eq, beq_iff_eq, toList_nil]
theorem first_cat (s : ByteArray) : ((⟨#[102, 105, 114, 115, 116]⟩ : ByteArray) ++ (⟨#[32]⟩ : ByteArray)) ++ s = sFirst ++ s := by congr 1
theorem all_cat (s : ByteArray) : ((⟨#[97, 108, 108]⟩ : ByteArray) ++ (⟨#[32]⟩ : ByteArray)) ++ s = sAll ++ s := by congr 1
theorem spec_DeedText_ev (kind : Int) {s : ByteArray} (hs : s.size ≤ 9223372036854775000) : Ev (fun k => spec_DeedText.f k kind s) (deedT kind s) := by
  unfold spec_DeedText.f deedT
  refine ev_bindc (l1In_eq _ _ _) ?_
  have off : (¬ (plain s = true ∧ s.size ≠ 0) ∨ (kind ≠ 0 ∧ kind ≠ 1)) → Ev (fun k => spec_DeedText.j0 k false kind s) (if kind = 2 ∧ s.size = 0 then sBack else if plain s = true ∧ s.size ≠ 0 then (if kind = 0 then sFirst ++ s else if kind = 1 then sAll ++ s else ⟨#[]⟩) else ⟨#[]⟩) := by
    intro h
    refine Ev.step (fun k => rfl) ?_
    simp only [spec_DeedText.j0]
    refine ev_neg Bool.false_ne_true ?_
    by_cases h2 : kind = 2 ∧ s.size = 0
    · rw [if_pos h2]
      exact ev_pos ((nil_iff kind s).2 h2) (Ev.now _)
    · rw [if_neg h2]
      refine ev_neg (fun x => h2 ((nil_iff kind s).1 x)) (ev_eq (Ev.now _) ?_)
      rcases h with h | h
      · rw [if_neg h]
      · rw [if_neg h.1, if_neg h.2, ite_self]
  by_cases h : 0 ≤ kind ∧ kind ≤ 1
  · refine ev_pos (decide_eq_true h) (Ev.bind (l10Plain_ev (by omega)) ?_)
    by_cases hp : plain s = true ∧ s.size ≠ 0
    · rw [hp.1, decide_eq_true hp.2, if_neg (by omega), if_pos ⟨rfl, hp.2⟩]
      refine Ev.step (fun k => rfl) ?_
      simp only [spec_DeedText.j0]
      have hk : kind = 0 ∨ kind = 1 := by omega
      rcases hk with rfl | rfl
      · exact ev_pos rfl (ev_bindc rfl (ev_pos (by omega) (ev_pos (by decide) (ev_pos (by decide) (ev_pos (by rw [ByteArray.size_append]; show 6 + s.size ≤ _; omega) (ev_eq (Ev.now _) (first_cat s)))))))
      · exact ev_pos rfl (ev_bindc rfl (ev_pos (by omega) (ev_pos (by decide) (ev_pos (by decide) (ev_pos (by rw [ByteArray.size_append]; show 4 + s.size ≤ _; omega) (ev_eq (Ev.now _) (all_cat s)))))))
    · have e : (plain s && decide (s.size ≠ 0)) = false := by
        rw [Bool.eq_false_iff]
        intro x
        rw [Bool.and_eq_true, decide_eq_true_iff] at x
        exact hp x
      rw [e]
      exact off (Or.inl hp)
  · exact ev_neg (by rw [decide_eq_false h]; decide) (off (Or.inr (by omega)))
theorem impl_deedText_ev (kind : Int) {s : ByteArray} (hs : s.size ≤ 9223372036854775000) : Ev (fun k => impl_deedText.f k kind s) (deedT kind s) := by
  unfold impl_deedText.f deedT
  by_cases h2 : kind = 2 ∧ s.size = 0
  · rw [if_pos h2]
    exact ev_pos ((nil_iff kind s).2 h2) (Ev.now _)
  rw [if_neg h2]
  refine ev_neg (fun x => h2 ((nil_iff kind s).1 x)) ?_
  by_cases h0 : s.size = 0
  · rw [if_neg (fun x => x.2 h0)]
    refine ev_pos ((toList_nil s).2 h0) (Ev.step (fun k => rfl) ?_)
    simp only [impl_deedText.j0]
    exact ev_pos trivial (Ev.now _)
  · refine ev_neg (fun x => h0 ((toList_nil s).1 x)) (Ev.bind (isPrintable_ev (by omega)) ?_)
    cases hp : plain s with
    | false =>
      rw [if_neg (fun x => Bool.false_ne_true x.1)]
      refine Ev.step (fun k => rfl) ?_
      simp only [impl_deedText.j0, Bool.not_false]
      exact ev_pos trivial (Ev.now _)
    | true =>
      rw [if_pos ⟨rfl, h0⟩]
      refine Ev.step (fun k => rfl) ?_
      simp only [impl_deedText.j0, Bool.not_true]
      refine ev_neg Bool.false_ne_true ?_
      by_cases k0 : kind = 0
      · exact ev_pos k0 (ev_pos (by omega) (ev_eq (Ev.now _) (if_pos k0).symm))
      · refine ev_neg k0 ?_
        by_cases k1 : kind = 1
        · exact ev_pos k1 (ev_pos (by omega) (ev_eq (Ev.now _) ((if_neg k0).trans (if_pos k1)).symm))
        · exact ev_neg k1 (ev_eq (Ev.now _) ((if_neg k0).trans (if_neg k1)).symm)
theorem impl_DeedText_ev (kind : Int) {s : ByteArray} (hs : s.size ≤ 9223372036854775000) : Ev (fun k => impl_DeedText.f k kind s) (deedT kind s) := Ev.bind (impl_deedText_ev kind hs) (Ev.now _)
end Go.Proofs.Ytihgpkohglcijaa.Pl
