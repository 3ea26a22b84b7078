/- For every input the program's AgreeOn answers as the reference's, and its arguments stay as they were. No condition. -/
import Derived.Test.YteiehniidihmdaaPx32
import Derived.Test.YteiehniidihmdaaPok
namespace Go.Proofs.Yteiehniidihmdaa.Pure
open Go.RowKit Go.Proofs.YteiehniidihmdaaW.PrintWords Go.Proofs.YteiehniidihmdaaW.PrintLast Go.Proofs.YteiehniidihmdaaW.PrintMore Go.Proofs.Yteiehniidihmdaa.P Go.Proofs.Yteiehniidihmdaa.Mt Go.Proofs.Yteiehniidihmdaa.Pl
theorem FnExactAgreeOn : laws_FnExactAgreeOn.Pure := by
  intro a l _ _ _ _
  refine Ev.rounds (g := fun k => laws_FnExactAgreeOn.f k a l) ?_
  unfold laws_FnExactAgreeOn.f
  by_cases h : (l.length : Int) > 1048576
  · exact ev_pos h (Ev.now _)
  · have hl : l.length ≤ 35184372088832 := by omega
    refine ev_neg h (Ev.bind (toIntS_ev hl) (Ev.bind (AgreeOn_ev a (by omega)) (Ev.bind (toIntS_ev hl) (Ev.bind (impl_AgreeOn_ev a (by omega)) (ev_pos rfl (Ev.bind (toIntS_ev hl) (Ev.bind (eqIntS_same (by omega)) (ev_pos rfl (Ev.now _)))))))))
end Go.Proofs.Yteiehniidihmdaa.Pure
