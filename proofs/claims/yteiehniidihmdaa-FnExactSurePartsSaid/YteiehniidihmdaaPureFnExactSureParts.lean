/- For every input the program's SureParts answers as the reference's, and its arguments stay as they were. No condition. -/
import Derived.Test.YteiehniidihmdaaPx43
import Derived.Test.YteiehniidihmdaaPmeet
namespace Go.Proofs.Yteiehniidihmdaa.Pure
open Go.RowKit Go.Proofs.YteiehniidihmdaaW.PrintWords Go.Proofs.YteiehniidihmdaaW.PrintLast Go.Proofs.YteiehniidihmdaaW.PrintMore Go.Proofs.Yteiehniidihmdaa.P Go.Proofs.Yteiehniidihmdaa.Mt Go.Proofs.Yteiehniidihmdaa.Pl
theorem FnExactSureParts : laws_FnExactSureParts.Pure := by
  intro t l s _ _ _ _ _
  refine Ev.rounds (g := fun k => laws_FnExactSureParts.f k t l s) ?_
  unfold laws_FnExactSureParts.f
  by_cases h : (l.length : Int) > 1048576
  · exact ev_pos h (Ev.now _)
  · have hl : l.length ≤ 35184372088832 := by omega
    refine ev_neg h ?_
    refine Ev.bind (toIntS_ev hl) ?_
    refine Ev.bind (spec_SureParts_ev t s (by omega)) ?_
    refine Ev.bind (toIntS_ev hl) ?_
    refine Ev.bind (impl_SureParts_ev t l s) ?_
    refine ev_pos rfl ?_
    refine Ev.bind (toIntS_ev hl) ?_
    refine Ev.bind (eqIntS_same (by omega)) ?_
    refine ev_tt ?_
    exact Ev.now _
end Go.Proofs.Yteiehniidihmdaa.Pure
