/- For every mind the program says what the reference says. -/
import Derived.Test.YtihgpkohglcijaaPx15
import Derived.Test.YtihgpkohglcijaaPmind
namespace Go.Proofs.Ytihgpkohglcijaa.Pure
open Go.RowKit Go.Proofs.YtihgpkohglcijaaW.PrintWords Go.Proofs.YtihgpkohglcijaaW.PrintLast Go.Proofs.YtihgpkohglcijaaW.PrintMore Go.Proofs.Ytihgpkohglcijaa.P Go.Proofs.Ytihgpkohglcijaa.Mt Go.Proofs.Ytihgpkohglcijaa.Pl
theorem FnExactMindValid : laws_FnExactMindValid.Pure := by
  intro t l ls _ hl hls
  refine Ev.rounds (g := fun k => laws_FnExactMindValid.f k t l ls) ?_
  unfold laws_FnExactMindValid.f
  have h1 : l.length ≤ 9223372036854775807 := hl.1
  have h2 : ls.length ≤ 9223372036854775807 := hls.1
  have h3 : ∀ y ∈ ls, y.length ≤ 9223372036854775807 := fun y hy => (hls.2 y hy).1
  obtain ⟨r, e, h⟩ := szMind_c t h1 h2 h3
  refine Ev.bind e ?_
  by_cases hr : r < 0
  · exact ev_pos hr (Ev.now _)
  · obtain ⟨a, b, c⟩ := h.resolve_left hr
    have hto := toMind_ev t (l := l) (ls := ls) (by omega) (by omega) (fun y hy => by have := c y hy; omega)
    refine ev_neg hr (Ev.bind hto (Ev.bind (spec_MindValid_ev t h1 h2 h3) (Ev.bind hto (Ev.bind (impl_MindValid_ev t h1 h3) (ev_neg (by simp) (Ev.bind hto (Ev.bind (eqMind_same t h1 h2 h3) (ev_tt (Ev.now _)))))))))
end Go.Proofs.Ytihgpkohglcijaa.Pure
