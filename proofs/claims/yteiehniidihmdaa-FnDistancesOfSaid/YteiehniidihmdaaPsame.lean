/- Comparisons of lists in the laws. -/
import Derived.Test.YteiehniidihmdaaPx18
import Derived.Test.YteiehniidihmdaaPbase
namespace Go.Proofs.Yteiehniidihmdaa.Pl
open Go.RowKit Go.Proofs.YteiehniidihmdaaW.PrintWords Go.Proofs.YteiehniidihmdaaW.PrintLast Go.Proofs.YteiehniidihmdaaW.PrintMore Go.Proofs.Yteiehniidihmdaa.P Go.Proofs.Yteiehniidihmdaa.Mt
theorem sameInts_ev {l m : List Int} (hn : l.length ≤ 9223372036854775807) : Ev (fun k => laws_sameInts.f k l m) (decide (l = m)) := by
  unfold laws_sameInts.f
  by_cases hl : l.length = m.length
  · refine ev_pos (by omega) ?_
    have key : ∀ i, i ≤ l.length → Ev (fun k => laws_sameInts.l0 k l m (i : Int)) (decide (l.drop i = m.drop i)) := by
      apply down
      · refine Ev.step (fun k => rfl) (ev_neg (by omega) (ev_eq (Ev.now _) ?_))
        rw [List.drop_length, hl, List.drop_length, decide_eq_true rfl]
      · intro i hi ih
        have hm : i < m.length := by omega
        refine Ev.step (fun k => rfl) (ev_pos (by omega) (ev_pos (by omega) (ev_pos (by omega) ?_)))
        rw [rd_at hi, rd_at hm, w1 hi hn, List.drop_eq_getElem_cons hi, List.drop_eq_getElem_cons hm]
        by_cases e : l[i] = m[i]
        · refine ev_pos e (ev_eq ih ?_)
          exact decide_eq_decide.2 ⟨fun k => by rw [e, k], fun k => (List.cons.inj k).2⟩
        · refine ev_neg e (ev_eq (Ev.now _) ?_)
          exact (decide_eq_false (fun k => e (List.cons.inj k).1)).symm
    have := key 0 (Nat.zero_le _)
    simpa using this
  · refine ev_neg (by omega) (ev_eq (Ev.now _) ?_)
    exact (decide_eq_false (fun k => hl (by rw [k]))).symm
theorem sameInts_same {l : List Int} (hn : l.length ≤ 9223372036854775807) : Ev (fun k => laws_sameInts.f k l l) true := ev_eq (sameInts_ev hn) (decide_eq_true rfl)
theorem sames {l : List Int} (hn : l.length ≤ 9223372036854775807) : Ev (fun k => laws_sameInts.f k l l) true := ev_eq (sameInts_ev hn) (decide_eq_true rfl)
end Go.Proofs.Yteiehniidihmdaa.Pl
