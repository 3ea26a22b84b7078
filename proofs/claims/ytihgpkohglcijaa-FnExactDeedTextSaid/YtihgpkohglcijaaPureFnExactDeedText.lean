/- For every deed the program's text is the reference's. -/
import Derived.Test.YtihgpkohglcijaaPx2
import Derived.Test.YtihgpkohglcijaaPx4
import Derived.Test.YtihgpkohglcijaaPdeed
namespace Go.Proofs.Ytihgpkohglcijaa.Pure
open Go.RowKit Go.Proofs.YtihgpkohglcijaaW.PrintWords Go.Proofs.YtihgpkohglcijaaW.PrintLast Go.Proofs.YtihgpkohglcijaaW.PrintMore Go.Proofs.Ytihgpkohglcijaa.P Go.Proofs.Ytihgpkohglcijaa.Mt Go.Proofs.Ytihgpkohglcijaa.Pl
theorem FnExactDeedText : laws_FnExactDeedText.Pure := by
  intro kind s _ hs
  refine Ev.rounds (g := fun k => laws_FnExactDeedText.f k kind s) ?_
  unfold laws_FnExactDeedText.f
  have hm : maxLen = 9223372036854775807 := rfl
  by_cases h : (s.size : Int) > 1048576
  · have : laws_szDeed.f kind s 1048576 = some (-1) := by
      unfold laws_szDeed.f
      rw [w64 (by omega) (by omega), if_pos (by omega)]
    exact ev_bindc this (ev_pos (by decide) (Ev.now _))
  · have : laws_szDeed.f kind s 1048576 = some (1048576 - (s.size : Int)) := by
      unfold laws_szDeed.f
      rw [w64 (by omega) (by omega), if_neg (by omega)]
    exact ev_bindc this (ev_neg (by omega) (ev_bindc rfl (Ev.bind (spec_DeedText_ev kind (s := s) (by omega)) (ev_bindc rfl (Ev.bind (impl_DeedText_ev kind (s := s) (by omega)) (ev_pos rfl (Ev.now _)))))))
end Go.Proofs.Ytihgpkohglcijaa.Pure
