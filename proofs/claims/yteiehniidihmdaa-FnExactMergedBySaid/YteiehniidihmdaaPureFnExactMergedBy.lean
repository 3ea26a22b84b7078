/- For every input the program's MergedBy answers as the reference's, and its arguments stay as they were. No condition. -/
import Derived.Test.YteiehniidihmdaaPx51
import Derived.Test.YteiehniidihmdaaPmby
namespace Go.Proofs.Yteiehniidihmdaa.Pure
open Go.RowKit Go.Proofs.YteiehniidihmdaaW.PrintWords Go.Proofs.YteiehniidihmdaaW.PrintLast Go.Proofs.YteiehniidihmdaaW.PrintMore Go.Proofs.Yteiehniidihmdaa.P Go.Proofs.Yteiehniidihmdaa.Mt Go.Proofs.Yteiehniidihmdaa.Pl
theorem FnExactMergedBy : laws_FnExactMergedBy.Pure := by
  intro t l a m _ _ _ _ _ _
  refine Ev.rounds (g := fun k => laws_FnExactMergedBy.f k t l a m) ?_
  unfold laws_FnExactMergedBy.f
  by_cases h : (l.length : Int) > 1048576
  · exact ev_pos h (Ev.now _)
  · have hl : l.length ≤ 35184372088832 := by omega
    refine ev_neg h ?_
    refine Ev.bind (toIntS_ev hl) ?_
    refine Ev.bind (spec_MergedBy_ev t a m (by omega)) ?_
    refine Ev.bind (toIntS_ev hl) ?_
    refine Ev.bind (impl_MergedBy_ev t l a m) ?_
    refine ev_pos rfl ?_
    refine Ev.bind (toIntS_ev hl) ?_
    refine Ev.bind (eqIntS_same (by omega)) ?_
    refine ev_tt ?_
    exact Ev.now _
end Go.Proofs.Yteiehniidihmdaa.Pure
