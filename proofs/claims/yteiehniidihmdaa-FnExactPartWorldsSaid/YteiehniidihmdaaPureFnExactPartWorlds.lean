/- For every input the program's PartWorlds answers as the reference's, and its arguments stay as they were. No condition. -/
import Derived.Test.YteiehniidihmdaaPx33
import Derived.Test.YteiehniidihmdaaPok
namespace Go.Proofs.Yteiehniidihmdaa.Pure
open Go.RowKit Go.Proofs.YteiehniidihmdaaW.PrintWords Go.Proofs.YteiehniidihmdaaW.PrintLast Go.Proofs.YteiehniidihmdaaW.PrintMore Go.Proofs.Yteiehniidihmdaa.P Go.Proofs.Yteiehniidihmdaa.Mt Go.Proofs.Yteiehniidihmdaa.Pl
theorem FnExactPartWorlds : laws_FnExactPartWorlds.Pure := by
  intro a l p _ _ _ _ _
  refine Ev.rounds (g := fun k => laws_FnExactPartWorlds.f k a l p) ?_
  unfold laws_FnExactPartWorlds.f
  by_cases h : (l.length : Int) > 1048576
  · exact ev_pos h (Ev.now _)
  · have hl : l.length ≤ 35184372088832 := by omega
    refine ev_neg h (Ev.bind (toIntS_ev hl) (Ev.bind (PartWorlds_ev a p (by omega)) (Ev.bind (toIntS_ev hl) (Ev.bind (impl_PartWorlds_ev a l p) (ev_pos rfl (Ev.bind (toIntS_ev hl) (Ev.bind (eqIntS_same (by omega)) (ev_pos rfl (Ev.now _)))))))))
end Go.Proofs.Yteiehniidihmdaa.Pure
