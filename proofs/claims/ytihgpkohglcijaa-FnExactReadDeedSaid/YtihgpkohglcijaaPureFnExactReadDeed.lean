/- For every text the program reads the deed that the reference reads. -/
import Derived.Test.YtihgpkohglcijaaPx2
import Derived.Test.YtihgpkohglcijaaPx6
import Derived.Test.YtihgpkohglcijaaPread
namespace Go.Proofs.Ytihgpkohglcijaa.Pure
open Go.RowKit Go.Proofs.YtihgpkohglcijaaW.PrintWords Go.Proofs.YtihgpkohglcijaaW.PrintLast Go.Proofs.YtihgpkohglcijaaW.PrintMore Go.Proofs.Ytihgpkohglcijaa.P Go.Proofs.Ytihgpkohglcijaa.Mt Go.Proofs.Ytihgpkohglcijaa.Pl
theorem FnExactReadDeed : laws_FnExactReadDeed.Pure := by
  intro s hs
  refine Ev.rounds (g := fun k => laws_FnExactReadDeed.f k s) ?_
  unfold laws_FnExactReadDeed.f
  by_cases h : (s.size : Int) > 1048576
  · exact ev_pos h (Ev.now _)
  · refine ev_neg h (Ev.bind (spec_ReadDeed_ev (s := s) (by omega)) (Ev.bind (impl_ReadDeed_ev (s := s) (by omega)) ?_))
    have e : laws_eqDeed.f (rdeed s).1 (rdeed s).2.1 (rdeed s).1 (rdeed s).2.1 = some true := by unfold laws_eqDeed.f; rw [if_pos rfl, if_pos rfl]
    exact ev_bindc e (ev_tt (ev_neg (by simp) (Ev.now _)))
end Go.Proofs.Ytihgpkohglcijaa.Pure
