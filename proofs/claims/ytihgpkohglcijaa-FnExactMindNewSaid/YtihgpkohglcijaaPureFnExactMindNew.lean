/- For every rank the program makes the mind that the reference makes; nothing of it is shared. -/
import Derived.Test.YtihgpkohglcijaaPx15
import Derived.Test.YtihgpkohglcijaaPx16
import Derived.Test.YtihgpkohglcijaaPnew
import Derived.Test.YtihgpkohglcijaaPmk
namespace Go.Proofs.Ytihgpkohglcijaa.Pure
open Go.RowKit Go.Proofs.YtihgpkohglcijaaW.PrintWords Go.Proofs.YtihgpkohglcijaaW.PrintLast Go.Proofs.YtihgpkohglcijaaW.PrintMore Go.Proofs.Ytihgpkohglcijaa.P Go.Proofs.Ytihgpkohglcijaa.Mt Go.Proofs.Ytihgpkohglcijaa.Pl
theorem newMind_form (t : Int) (l : List Int) : ∃ q g, newMind t l = (q, g, []) ∧ g.length ≤ 8 := by
  unfold newMind
  by_cases h : rankOk t l = true
  · rw [if_pos h]
    exact ⟨t, tidyL l, rfl, by rw [tidyL_length]; exact rank_short h⟩
  · rw [if_neg h]
    exact ⟨0, [], rfl, by simp⟩
theorem FnExactMindNew : laws_FnExactMindNew.Pure := by
  intro t l _ hl _ _
  refine Ev.rounds (g := fun k => laws_FnExactMindNew.f k t l) ?_
  unfold laws_FnExactMindNew.f
  by_cases hlen : (l.length : Int) > 1048576
  · exact ev_pos hlen (Ev.now _)
  · obtain ⟨q, g, e, hg⟩ := newMind_form t l
    have hto := toIntS_ev (l := l) (by omega)
    have hs := spec_MindNew_ev t (l := l) (by omega)
    have hi := impl_MindNew_ev t (l := l) (by omega)
    rw [e] at hs hi
    have heq := eqMind_same q (l := g) (ls := []) (by omega) (by simp) (by simp)
    have hmk := markIntS_ev (l := g) (by omega)
    have hheld : Ev (fun k => laws_heldMind.f k q (marks g.length) [] 1) ((g.length : Int) + 1) := by
      unfold laws_heldMind.f
      refine Ev.bind (heldIntS_ev (by omega)) (ev_neg (by omega) (Ev.bind (?_ : Ev _ ((g.length : Int) + 1)) (ev_neg (by omega) (Ev.now _))))
      unfold laws_heldIntSS.f
      exact Ev.step (fun k => rfl) (ev_neg (by simp) (Ev.now _))
    have hmm : Ev (fun k => laws_markMind.f k q g [] 1) ((g.length : Int) + 1, marks g.length) := by
      unfold laws_markMind.f
      refine Ev.bind hmk (ev_bindc (a := (g.length : Int) + 1) ?_ (Ev.now _))
      show laws_markIntSS.f [] ((g.length : Int) + 1) = _
      unfold laws_markIntSS.f
      rw [if_pos rfl]
    have hj : Ev (fun k => laws_FnExactMindNew.j0 k t l false q g [] q g []) true := by
      refine Ev.step (fun k => rfl) (Ev.bind hmm (Ev.bind hheld (ev_neg (by omega) (ev_pos rfl ?_))))
      exact Ev.bind hto (Ev.bind hi (Ev.bind heq (ev_tt (Ev.bind hheld (ev_neg (by omega) (ev_pos rfl (Ev.now _)))))))
    refine ev_neg hlen (Ev.bind hto (Ev.bind hs (Ev.bind hto (Ev.bind hi (Ev.bind heq (ev_tt (Ev.bind hto (Ev.bind (eqIntS_same (by omega)) (ev_tt (Ev.bind (markIntS_ev (l := l) (by omega)) ?_))))))))))
    exact ev_neg (by show ¬ (l.length : Int) + 1 < 0; omega) (Ev.bind heq hj)
end Go.Proofs.Ytihgpkohglcijaa.Pure
