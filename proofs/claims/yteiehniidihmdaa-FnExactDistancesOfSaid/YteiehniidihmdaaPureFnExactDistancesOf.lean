/- For every input the program's DistancesOf answers as the reference's, its arguments stay as they were, and its answer shares no memory with them or with another answer. No condition. -/
import Derived.Test.YteiehniidihmdaaPx48
import Derived.Test.YteiehniidihmdaaPdist
namespace Go.Proofs.Yteiehniidihmdaa.Pure
open Go.RowKit Go.Proofs.YteiehniidihmdaaW.PrintWords Go.Proofs.YteiehniidihmdaaW.PrintLast Go.Proofs.YteiehniidihmdaaW.PrintMore Go.Proofs.Yteiehniidihmdaa.P Go.Proofs.Yteiehniidihmdaa.Mt Go.Proofs.Yteiehniidihmdaa.Pl
theorem FnExactDistancesOf : laws_FnExactDistancesOf.Pure := by
  intro t l s _ _ _ _ _
  refine Ev.rounds (g := fun k => laws_FnExactDistancesOf.f k t l s) ?_
  unfold laws_FnExactDistancesOf.f
  by_cases h : (l.length : Int) > 1048576
  · exact ev_pos h (Ev.now _)
  · have hl : l.length ≤ 35184372088832 := by omega
    have hr := rowOf_len t l s
    refine ev_neg h ?_
    refine Ev.bind (toIntS_ev hl) ?_
    refine Ev.bind (spec_DistancesOf_ev t s (by omega)) ?_
    refine Ev.bind (toIntS_ev hl) ?_
    refine Ev.bind (impl_DistancesOf_ev t l s) ?_
    refine Ev.bind (eqIntS_same (by omega)) ?_
    refine ev_tt ?_
    refine Ev.bind (toIntS_ev hl) ?_
    refine Ev.bind (eqIntS_same (by omega)) ?_
    refine ev_tt ?_
    refine Ev.bind (markIntS_ev hl) ?_
    refine ev_neg (by show ¬ ((l.length : Int) + 1 < 0); omega) ?_
    refine Ev.bind (eqIntS_same (by omega)) ?_
    refine Ev.step (fun k => rfl) ?_
    refine Ev.bind (markIntS_ev (by omega)) ?_
    refine Ev.bind (heldIntS_ev (by omega)) ?_
    refine ev_neg (by omega) ?_
    refine ev_pos rfl ?_
    refine Ev.bind (toIntS_ev hl) ?_
    refine Ev.bind (impl_DistancesOf_ev t l s) ?_
    refine Ev.bind (eqIntS_same (by omega)) ?_
    refine ev_tt ?_
    refine Ev.bind (heldIntS_ev (by omega)) ?_
    refine ev_neg (by omega) ?_
    refine ev_pos rfl ?_
    exact Ev.now _
end Go.Proofs.Yteiehniidihmdaa.Pure
