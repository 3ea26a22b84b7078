/- The draw of distances: minds, and a world. -/
import Derived.Test.YteiehniidihmdaaPx29
import Derived.Test.YteiehniidihmdaaPdraw
namespace Go.Proofs.Yteiehniidihmdaa.Pl
open Go.RowKit Go.Proofs.YteiehniidihmdaaW.PrintWords Go.Proofs.YteiehniidihmdaaW.PrintLast Go.Proofs.YteiehniidihmdaaW.PrintMore Go.Proofs.Yteiehniidihmdaa.P Go.Proofs.Yteiehniidihmdaa.Mt

theorem specWorldsOf_eq (t : Int) : ∃ n, spec_WorldsOf.f t = some n := by
  unfold spec_WorldsOf.f
  rw [l1In_eq, Option.bind_some]
  by_cases h : 1 ≤ t ∧ t ≤ 3
  · rw [decide_eq_true h, if_pos rfl, if_pos (by omega)]
    exact ⟨_, rfl⟩
  · rw [decide_eq_false h]
    exact ⟨_, rfl⟩
theorem drawDistancesOf {c : List Int} (h : ∀ x ∈ c, (Lit.int .u8 x).wf = true) : ∃ t l w, Ev (fun k => spec_DrawDistancesOf.f k c) (t, l, w) ∧ l.length ≤ 5 := by
  obtain ⟨b, ho, hb⟩ := open_ev h
  obtain ⟨t, l, p', hl, _, _, q⟩ := minds_ev hb (p := 0) (by omega) (by omega) (a := 4) (by omega) (by omega) 14
  obtain ⟨n, hn⟩ := specWorldsOf_eq t
  obtain ⟨x, hx, _⟩ := pick_ev hb (p := p') (by omega) (by omega) (wrap64 ((mx n 1) + 1))
  obtain ⟨y, hy, _⟩ := pick_ev hb (p := p' + 1) (by omega) (by omega) 20
  exact ⟨t, l, _, ev_bindc ho (Ev.bind hl (ev_bindc hn (Ev.bind hx (Ev.bind hy (Ev.now _))))), by omega⟩
end Go.Proofs.Yteiehniidihmdaa.Pl
