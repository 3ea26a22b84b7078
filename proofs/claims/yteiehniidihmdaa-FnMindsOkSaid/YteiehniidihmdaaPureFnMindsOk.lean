/- Of minds that are right the first one alone is right. -/
import Derived.Test.YteiehniidihmdaaPx35
import Derived.Test.YteiehniidihmdaaPok
import Derived.Test.YteiehniidihmdaaPdraw
namespace Go.Proofs.Yteiehniidihmdaa.Pure
open Go.RowKit Go.Proofs.YteiehniidihmdaaW.PrintWords Go.Proofs.YteiehniidihmdaaW.PrintLast Go.Proofs.YteiehniidihmdaaW.PrintMore Go.Proofs.Yteiehniidihmdaa.P Go.Proofs.Yteiehniidihmdaa.Mt Go.Proofs.Yteiehniidihmdaa.Pl
theorem drawMindsOk {c : List Int} (h : ∀ x ∈ c, (Lit.int .u8 x).wf = true) : ∃ t l, Ev (fun k => spec_DrawMindsOk.f k c) (t, l) ∧ l.length ≤ 5 := by
  obtain ⟨b, ho, hb⟩ := open_ev h
  obtain ⟨t, l, p', hl, _, _, q⟩ := minds_ev hb (p := 0) (by omega) (by omega) (a := 4) (by omega) (by omega) 4
  exact ⟨t, l, ev_bindc ho (Ev.bind hl (Ev.now _)), by omega⟩
theorem FnMindsOk : laws_FnMindsOk.Pure := by
  intro c _ _ hc
  refine Ev.rounds (g := fun k => laws_FnMindsOk.f k c) ?_
  unfold laws_FnMindsOk.f
  by_cases h : (c.length : Int) > 1048576
  · exact ev_pos h (Ev.now _)
  obtain ⟨t, l, hd, hl⟩ := drawMindsOk hc
  refine ev_neg h (Ev.bind hd (ev_bindc (impl_MindsOk_eq t l) (Ev.bind (MindsOk_ev t (l := l) (by omega)) (ev_neg (by simp) ?_))))
  have hno : mindsOk t [] = false := by
    cases e : mindsOk t [] with
    | false => rfl
    | true => have := (mindsOk_iff.1 e).2.2.1; simp at this
  by_cases hm : mindsOk t l = true
  · obtain ⟨a, b, c1, c2⟩ := mindsOk_iff.1 hm
    have h1 : mindsOk t (l.take 1) = true := mindsOk_iff.2 ⟨fun s hs => a s (List.mem_of_mem_take hs), b, by rw [List.length_take]; omega, by rw [List.length_take]; omega⟩
    exact ev_pos hm (ev_pos (by show (1 : Int) ≤ (l.length : Int); omega) (ev_bindc (impl_MindsOk_eq _ _) (ev_pos h1 (ev_bindc (impl_MindsOk_eq _ _) (ev_neg (by rw [hno]; decide) (ev_bindc alive_eq (Ev.now _)))))))
  · exact ev_neg hm (ev_bindc (impl_MindsOk_eq _ _) (ev_neg (by rw [hno]; decide) (ev_bindc alive_eq (Ev.now _))))
end Go.Proofs.Yteiehniidihmdaa.Pure
