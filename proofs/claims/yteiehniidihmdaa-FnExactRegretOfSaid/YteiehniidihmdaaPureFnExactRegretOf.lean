/- For every input the program's RegretOf answers as the reference's, and its arguments stay as they were. No condition. -/
import Derived.Test.YteiehniidihmdaaPx49
import Derived.Test.YteiehniidihmdaaPmerge
namespace Go.Proofs.Yteiehniidihmdaa.Pure
open Go.RowKit Go.Proofs.YteiehniidihmdaaW.PrintWords Go.Proofs.YteiehniidihmdaaW.PrintLast Go.Proofs.YteiehniidihmdaaW.PrintMore Go.Proofs.Yteiehniidihmdaa.P Go.Proofs.Yteiehniidihmdaa.Mt Go.Proofs.Yteiehniidihmdaa.Pl
theorem FnExactRegretOf : laws_FnExactRegretOf.Pure := by
  intro t l s _ _ _ _ _
  refine Ev.rounds (g := fun k => laws_FnExactRegretOf.f k t l s) ?_
  unfold laws_FnExactRegretOf.f
  by_cases h : (l.length : Int) > 1048576
  · exact ev_pos h (Ev.now _)
  · have hl : l.length ≤ 35184372088832 := by omega
    refine ev_neg h ?_
    refine Ev.bind (toIntS_ev hl) ?_
    refine Ev.bind (spec_RegretOf_ev t s (by omega)) ?_
    refine Ev.bind (toIntS_ev hl) ?_
    refine Ev.bind (impl_RegretOf_ev t l s) ?_
    refine ev_pos rfl ?_
    have e : ((regret t l s).2 != (regret t l s).2) = false := by simp
    rw [e]
    refine Ev.step (fun k => rfl) ?_
    simp only [laws_FnExactRegretOf.j0]
    refine ev_neg Bool.false_ne_true ?_
    refine Ev.bind (toIntS_ev hl) ?_
    refine Ev.bind (eqIntS_same (by omega)) ?_
    exact ev_tt (Ev.now _)
end Go.Proofs.Yteiehniidihmdaa.Pure
