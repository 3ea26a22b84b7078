/- For every list of deeds the program's text of the journal is the reference's, and the list stays as it was. -/
import Derived.Test.YtihgpkohglcijaaPx5
import Derived.Test.YtihgpkohglcijaaPjour
namespace Go.Proofs.Ytihgpkohglcijaa.Pure
open Go.RowKit Go.Proofs.YtihgpkohglcijaaW.PrintWords Go.Proofs.YtihgpkohglcijaaW.PrintLast Go.Proofs.YtihgpkohglcijaaW.PrintMore Go.Proofs.Ytihgpkohglcijaa.P Go.Proofs.Ytihgpkohglcijaa.Mt Go.Proofs.Ytihgpkohglcijaa.Pl
theorem FnExactJournalText : laws_FnExactJournalText.Pure := by
  intro l ⟨hl, hx⟩
  have hm : maxLen = 9223372036854775807 := rfl
  refine Ev.rounds (g := fun k => laws_FnExactJournalText.f k l) ?_
  unfold laws_FnExactJournalText.f
  obtain ⟨r, hr, hb⟩ := szDeedS_ev (l := l) (by omega) (fun x h => (hx x h).2)
  refine Ev.bind hr ?_
  by_cases h : r < 0
  · exact ev_pos h (Ev.now _)
  · have h1 : l.length ≤ 1048576 := by omega
    have h2 : sumS (l.map conv) ≤ 1048576 := by rw [sum_conv]; omega
    have h3 : (l.map conv).length ≤ 1048576 := by rw [List.length_map]; exact h1
    have tt := toDeedS_ev (l := l) (by omega)
    exact ev_neg h (Ev.bind tt (Ev.bind (spec_JournalText_ev h3 h2) (Ev.bind tt (Ev.bind (impl_JournalText_ev h3 h2) (ev_pos rfl (Ev.bind tt (Ev.bind (eqDeedS_same (by omega)) (ev_tt (Ev.now _)))))))))
end Go.Proofs.Ytihgpkohglcijaa.Pure
