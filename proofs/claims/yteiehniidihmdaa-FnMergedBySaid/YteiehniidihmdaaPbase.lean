/- Plain laws on sets of worlds and on the laws' own helpers (copies, comparisons, marks), over the printed functions. -/
import Derived.Test.YteiehniidihmdaaPx1
import Derived.Test.YteiehniidihmdaaPx2
import Derived.Test.YteiehniidihmdaaPx16
import Derived.Test.YteiehniidihmdaaMath
import Derived.Test.YteiehniidihmdaaHof
namespace Go.Proofs.Yteiehniidihmdaa.Pl
open Go.RowKit Go.Proofs.YteiehniidihmdaaW.PrintWords Go.Proofs.YteiehniidihmdaaW.PrintLast Go.Proofs.YteiehniidihmdaaW.PrintMore Go.Proofs.Yteiehniidihmdaa.P Go.Proofs.Yteiehniidihmdaa.Mt

/-! ### small answers -/
theorem l1In_eq (a b c : Int) : spec_l1In.f a b c = some (decide (b ≤ a ∧ a ≤ c)) := by
  unfold spec_l1In.f
  by_cases h : a ≥ b
  · rw [if_pos h]
    congr 1
    exact decide_eq_decide.2 ⟨fun k => ⟨h, k⟩, fun k => k.2⟩
  · rw [if_neg h]
    congr 1
    symm
    exact decide_eq_false (fun k => h k.1)
theorem areThings_eq (a : Int) : impl_areThings.f a = some (decide (1 ≤ a ∧ a ≤ 3)) := by
  unfold impl_areThings.f
  by_cases h : a ≥ 1
  · rw [if_pos h]
    congr 1
    exact decide_eq_decide.2 ⟨fun k => ⟨h, k⟩, fun k => k.2⟩
  · rw [if_neg h]
    congr 1
    symm
    exact decide_eq_false (fun k => h k.1)
/-- The set of all worlds. -/
def all (t : Int) : Nat := if t = 1 then 3 else if t = 2 then 15 else 255
theorem all_lt (t : Int) : all t < 256 := by unfold all; split <;> (try split) <;> omega
theorem three {t : Int} (h : 1 ≤ t ∧ t ≤ 3) : t = 1 ∨ t = 2 ∨ t = 3 := by omega
theorem l1All_eq {t : Int} (h : 1 ≤ t ∧ t ≤ 3) : spec_l1All.f t = some (all t : Int) := by
  rcases three h with rfl | rfl | rfl <;> decide +kernel
theorem allWorlds_eq {t : Int} (h : 1 ≤ t ∧ t ≤ 3) : impl_allWorlds.f t = some (all t : Int) := by
  rcases three h with rfl | rfl | rfl <;> decide +kernel
def setOk (t s : Int) : Bool := decide ((1 ≤ t ∧ t ≤ 3) ∧ 0 ≤ s ∧ s ≤ all t)
theorem SetOk_eq (t s : Int) : spec_SetOk.f t s = some (setOk t s) := by
  unfold spec_SetOk.f setOk
  rw [l1In_eq, Option.bind_some]
  by_cases h : 1 ≤ t ∧ t ≤ 3
  · rw [decide_eq_true h, if_pos rfl, l1All_eq h, Option.bind_some, l1In_eq, Option.bind_some]
    congr 1
    exact decide_eq_decide.2 ⟨fun k => ⟨h, k⟩, fun k => k.2⟩
  · rw [decide_eq_false h, if_neg (by decide)]
    congr 1
    symm
    exact decide_eq_false (fun k => h k.1)
theorem isSet_eq (t s : Int) : impl_isSet.f t s = some (setOk t s) := by
  unfold impl_isSet.f setOk
  rw [areThings_eq, Option.bind_some]
  by_cases h : 1 ≤ t ∧ t ≤ 3
  · rw [decide_eq_true h, if_pos rfl]
    by_cases h0 : s ≥ 0
    · rw [if_pos h0, allWorlds_eq h, Option.bind_some]
      congr 1
      exact decide_eq_decide.2 ⟨fun k => ⟨h, h0, k⟩, fun k => k.2.2⟩
    · rw [if_neg h0]
      congr 1
      symm
      exact decide_eq_false (fun k => h0 k.2.1)
  · rw [decide_eq_false h, if_neg (by decide)]
    congr 1
    symm
    exact decide_eq_false (fun k => h k.1)
theorem setOk_nat {t s : Int} (h : setOk t s = true) : ∃ n : Nat, s = n ∧ n < 256 ∧ n ≤ all t ∧ 1 ≤ t ∧ t ≤ 3 := by
  have k := of_decide_eq_true h
  have := all_lt t
  exact ⟨s.toNat, by omega, by omega, by omega, k.1.1, k.1.2⟩

/-! ### lists -/
theorem rd_at {l : List Int} {i : Nat} (h : i < l.length) : rd l (i : Int) = l[i] := by
  unfold rd
  rw [Int.toNat_natCast, List.getD_eq_getElem?_getD, List.getElem?_eq_getElem h]
  rfl
theorem rd_mem {l : List Int} {i : Nat} (h : i < l.length) : rd l (i : Int) ∈ l := by rw [rd_at h]; exact List.getElem_mem h
theorem idxL_any {α : Type} {p : α → Option Bool} {q : α → Bool} : ∀ (l : List α) (i : Int), 0 ≤ i → (∀ x, x ∈ l → p x = some (q x)) → ∃ j, Hof.idxL p l i = some j ∧ decide (0 ≤ j) = l.any q
  | [], i, h0, h => ⟨-1, rfl, rfl⟩
  | x :: xs, i, h0, h => by
    obtain ⟨j, hj, e⟩ := idxL_any xs (i + 1) (by omega) (fun y hy => h y (List.mem_cons_of_mem _ hy))
    unfold Hof.idxL
    rw [h x List.mem_cons_self, Option.bind_some]
    cases hq : q x with
    | true => exact ⟨i, by rw [if_pos rfl], by rw [List.any_cons, hq, Bool.true_or]; exact decide_eq_true h0⟩
    | false => exact ⟨j, by rw [if_neg (by decide)]; exact hj, by rw [List.any_cons, hq, Bool.false_or]; exact e⟩
theorem contL_any {α : Type} {p : α → Option Bool} {q : α → Bool} {l : List α} (h : ∀ x, x ∈ l → p x = some (q x)) : Hof.contL p l = some (l.any q) := by
  obtain ⟨j, hj, e⟩ := idxL_any l 0 (Int.le_refl _) h
  unfold Hof.contL
  rw [hj, Option.bind_some, e]
/-- A loop over a list: what holds of the rest. -/
theorem down {P : Nat → Prop} {n : Nat} (h0 : P n) (h1 : ∀ i, i < n → P (i + 1) → P i) : ∀ i, i ≤ n → P i := by
  have key : ∀ d i, i + d = n → P i := by
    intro d
    induction d with
    | zero => intro i hi; rw [show i = n from by omega]; exact h0
    | succ d ih => intro i hi; exact h1 i (by omega) (ih (i + 1) (by omega))
  intro i hi
  exact key (n - i) i (by omega)
theorem w1 {i n : Nat} (h : i < n) (hn : n ≤ 9223372036854775807) : wrap64 ((i : Int) + 1) = ((i + 1 : Nat) : Int) := by rw [w64 (by omega) (by omega)]; rfl

/-! ### copies and comparisons -/
theorem toIntS_ev {l : List Int} (hn : l.length ≤ 35184372088832) : Ev (fun k => laws_toIntS.f k l) l := by
  unfold laws_toIntS.f
  refine ev_pos (by omega) (ev_pos (by simpa using hn) ?_)
  have key : ∀ i, i ≤ l.length → Ev (fun k => laws_toIntS.l0 k l (l.take i ++ List.replicate (l.length - i) 0) (i : Int)) l := by
    apply down
    · refine Ev.step (fun k => rfl) (ev_neg (by omega) (ev_eq (Ev.now _) ?_))
      rw [Nat.sub_self, List.replicate_zero, List.append_nil, List.take_length]
    · intro i hi ih
      refine Ev.step (fun k => rfl) (ev_pos (by omega) (ev_pos (by omega) (ev_pos ?_ ?_)))
      · rw [List.length_append, List.length_take, List.length_replicate]; omega
      · rw [w1 hi (by omega), Int.toNat_natCast, rd_at hi]
        have e : (l.take i ++ List.replicate (l.length - i) 0).set i l[i] = l.take (i + 1) ++ List.replicate (l.length - (i + 1)) 0 := by
          rw [List.set_append_right _ _ (by rw [List.length_take]; omega), List.length_take, show i - min i l.length = 0 from by omega, show l.length - i = (l.length - (i + 1)) + 1 from by omega, List.replicate_succ, List.set_cons_zero, List.take_succ_eq_append_getElem hi, List.append_assoc]
          rfl
        rw [e]
        exact ih
  have := key 0 (Nat.zero_le _)
  simpa using this
theorem eqIntS_ev {l m : List Int} (hn : l.length ≤ 9223372036854775807) : Ev (fun k => laws_eqIntS.f k l m) (decide (l = m)) := by
  unfold laws_eqIntS.f
  by_cases hl : l.length = m.length
  · refine ev_pos (by omega) ?_
    have key : ∀ i, i ≤ l.length → Ev (fun k => laws_eqIntS.l0 k l m (i : Int)) (decide (l.drop i = m.drop i)) := by
      apply down
      · refine Ev.step (fun k => rfl) (ev_neg (by omega) (ev_eq (Ev.now _) ?_))
        rw [List.drop_length, hl, List.drop_length, decide_eq_true rfl]
      · intro i hi ih
        have hm : i < m.length := by omega
        refine Ev.step (fun k => rfl) (ev_pos (by omega) (ev_pos (by omega) (ev_pos (by omega) ?_)))
        rw [rd_at hi, rd_at hm, w1 hi hn, List.drop_eq_getElem_cons hi, List.drop_eq_getElem_cons hm]
        by_cases e : l[i] = m[i]
        · refine ev_pos e (ev_eq ih ?_)
          exact decide_eq_decide.2 ⟨fun k => by rw [e, k], fun k => (List.cons.inj k).2⟩
        · refine ev_neg e (ev_eq (Ev.now _) ?_)
          exact (decide_eq_false (fun k => e (List.cons.inj k).1)).symm
    have := key 0 (Nat.zero_le _)
    simpa using this
  · refine ev_neg (by omega) (ev_eq (Ev.now _) ?_)
    exact (decide_eq_false (fun k => hl (by rw [k]))).symm
theorem eqIntS_same {l : List Int} (hn : l.length ≤ 9223372036854775807) : Ev (fun k => laws_eqIntS.f k l l) true := ev_eq (eqIntS_ev hn) (decide_eq_true rfl)

/-! ### marks -/
def marks (n : Nat) : List Int := (List.range n).map fun (j : Nat) => (j : Int) + 1
theorem marks_length (n : Nat) : (marks n).length = n := by simp [marks]
theorem rd_marks {n i : Nat} (h : i < n) : rd (marks n) (i : Int) = (i : Int) + 1 := by
  rw [rd_at (by rw [marks_length]; exact h)]
  simp [marks]
theorem markIntS_ev {l : List Int} (hn : l.length ≤ 35184372088832) : Ev (fun k => laws_markIntS.f k l 1) (((l.length : Int) + 1), marks l.length) := by
  unfold laws_markIntS.f
  have key : ∀ i, i ≤ l.length → Ev (fun k => laws_markIntS.l0 k (marks i ++ l.drop i) ((i : Int) + 1) (i : Int)) (((l.length : Int) + 1), marks l.length) := by
    apply down
    · refine Ev.step (fun k => rfl) (ev_neg (by rw [List.length_append, marks_length, List.length_drop]; omega) (ev_eq (Ev.now _) ?_))
      rw [List.drop_length, List.append_nil]
    · intro i hi ih
      refine Ev.step (fun k => rfl) (ev_pos (by rw [List.length_append, marks_length, List.length_drop]; omega) (ev_pos (by omega) ?_))
      have e : (marks i ++ l.drop i).set i ((i : Int) + 1) = marks (i + 1) ++ l.drop (i + 1) := by
        rw [List.set_append_right _ _ (by rw [marks_length]; omega), marks_length, Nat.sub_self, List.drop_eq_getElem_cons hi, List.set_cons_zero]
        simp [marks, List.range_succ]
      rw [Int.toNat_natCast, e, w1 hi (by omega), w64 (by omega) (by omega)]
      exact ih
  have := key 0 (Nat.zero_le _)
  simpa [marks] using this
theorem heldIntS_ev {n : Nat} (hn : n ≤ 35184372088832) : Ev (fun k => laws_heldIntS.f k (marks n) 1) ((n : Int) + 1) := by
  unfold laws_heldIntS.f
  have key : ∀ i, i ≤ n → Ev (fun k => laws_heldIntS.l0 k (marks n) ((i : Int) + 1) (i : Int)) ((n : Int) + 1) := by
    apply down
    · exact Ev.step (fun k => rfl) (ev_neg (by rw [marks_length]; omega) (Ev.now _))
    · intro i hi ih
      refine Ev.step (fun k => rfl) (ev_pos (by rw [marks_length]; omega) (ev_pos (by omega) (ev_pos (rd_marks hi) ?_)))
      rw [w1 hi (by omega), w64 (by omega) (by omega)]
      exact ih
  have := key 0 (Nat.zero_le _)
  simpa using this
def casts (l : List Nat) : List Int := l.map fun (x : Nat) => (x : Int)
theorem casts_length (l : List Nat) : (casts l).length = l.length := by simp [casts]
end Go.Proofs.Yteiehniidihmdaa.Pl
