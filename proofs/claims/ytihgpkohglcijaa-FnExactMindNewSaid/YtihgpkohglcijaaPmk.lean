/- Plain laws: marks in rows of numbers. -/
import Derived.Test.YtihgpkohglcijaaPx15
import Derived.Test.YtihgpkohglcijaaPint
namespace Go.Proofs.Ytihgpkohglcijaa.Pl
open Go.RowKit Go.Proofs.YtihgpkohglcijaaW.PrintWords Go.Proofs.YtihgpkohglcijaaW.PrintLast Go.Proofs.YtihgpkohglcijaaW.PrintMore Go.Proofs.Ytihgpkohglcijaa.P Go.Proofs.Ytihgpkohglcijaa.Mt
def marks (n : Nat) : List Int := (List.range n).map fun (j : Nat) => (j : Int) + 1
theorem marks_length (n : Nat) : (marks n).length = n := by simp [marks]
theorem rd_marks {n i : Nat} (h : i < n) : rd (marks n) (i : Int) = (i : Int) + 1 := by
  rw [rd_at (by rw [marks_length]; exact h)]
  simp [marks]
theorem markIntS_ev {l : List Int} (hn : l.length ≤ 35184372088832) : Ev (fun k => laws_markIntS.f k l 1) (((l.length : Int) + 1), marks l.length) := by
  unfold laws_markIntS.f
  have key : ∀ i, i ≤ l.length → Ev (fun k => laws_markIntS.l0 k (marks i ++ l.drop i) ((i : Int) + 1) (i : Int)) (((l.length : Int) + 1), marks l.length) := by
    apply down
    · refine Ev.step (fun k => rfl) (ev_neg (by rw [List.length_append, marks_length, List.length_drop]; omega) (ev_eq (Ev.now _) ?_))
      rw [List.drop_length, List.append_nil]
    · intro i hi ih
      refine Ev.step (fun k => rfl) (ev_pos (by rw [List.length_append, marks_length, List.length_drop]; omega) (ev_pos (by omega) ?_))
      have e : (marks i ++ l.drop i).set i ((i : Int) + 1) = marks (i + 1) ++ l.drop (i + 1) := by
        rw [List.set_append_right _ _ (by rw [marks_length]; omega), marks_length, Nat.sub_self, List.drop_eq_getElem_cons hi, List.set_cons_zero]
        simp [marks, List.range_succ]
      rw [Int.toNat_natCast, e, w1 hi (by omega), w64 (by omega) (by omega)]
      exact ih
  have := key 0 (Nat.zero_le _)
  simpa [marks] using this
theorem heldIntS_ev {n : Nat} (hn : n ≤ 35184372088832) : Ev (fun k => laws_heldIntS.f k (marks n) 1) ((n : Int) + 1) := by
  unfold laws_heldIntS.f
  have key : ∀ i, i ≤ n → Ev (fun k => laws_heldIntS.l0 k (marks n) ((i : Int) + 1) (i : Int)) ((n : Int) + 1) := by
    apply down
    · exact Ev.step (fun k => rfl) (ev_neg (by rw [marks_length]; omega) (Ev.now _))
    · intro i hi ih
      refine Ev.step (fun k => rfl) (ev_pos (by rw [marks_length]; omega) (ev_pos (by omega) (ev_pos (rd_marks hi) ?_)))
      rw [w1 hi (by omega), w64 (by omega) (by omega)]
      exact ih
  have := key 0 (Nat.zero_le _)
  simpa using this
end Go.Proofs.Ytihgpkohglcijaa.Pl
