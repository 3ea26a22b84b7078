/- For every text the program reads the deeds and the length that the reference reads, and its answer shares no memory with another answer. -/
import Derived.Test.YtihgpkohglcijaaPx8
import Derived.Test.YtihgpkohglcijaaPrj
namespace Go.Proofs.Ytihgpkohglcijaa.Pure
open Go.RowKit Go.Proofs.YtihgpkohglcijaaW.PrintWords Go.Proofs.YtihgpkohglcijaaW.PrintLast Go.Proofs.YtihgpkohglcijaaW.PrintMore Go.Proofs.Ytihgpkohglcijaa.P Go.Proofs.Ytihgpkohglcijaa.Mt Go.Proofs.Ytihgpkohglcijaa.Pl
theorem FnExactReadJournal : laws_FnExactReadJournal.Pure := by
  intro s hs
  refine Ev.rounds (g := fun k => laws_FnExactReadJournal.f k s) ?_
  unfold laws_FnExactReadJournal.f
  by_cases h : (s.size : Int) > 1048576
  · exact ev_pos h (Ev.now _)
  · have h1 : s.size ≤ 1048576 := by omega
    obtain ⟨f, hm, hh⟩ := marks_ev
    have hl := rj_len s
    refine ev_neg h (Ev.bind (spec_ReadJournal_ev h1) (Ev.bind (impl_ReadJournal_ev h1) (Ev.bind (eqDeedS_same (by omega)) (ev_tt ?_))))
    refine Ev.step (fun k => rfl) ?_
    simp only [laws_FnExactReadJournal.j0]
    refine ev_neg (by simp) (Ev.bind (hm (rj s).1 (by omega)) (Ev.bind (hh _ (by omega)) (ev_neg (by omega) (ev_pos rfl (Ev.bind (impl_ReadJournal_ev h1) (Ev.bind (eqDeedS_same (by omega)) (ev_tt ?_)))))))
    refine Ev.step (fun k => rfl) ?_
    simp only [laws_FnExactReadJournal.j1]
    exact ev_neg (by simp) (Ev.bind (hh _ (by omega)) (ev_neg (by omega) (ev_pos rfl (Ev.now _))))
end Go.Proofs.Ytihgpkohglcijaa.Pure
