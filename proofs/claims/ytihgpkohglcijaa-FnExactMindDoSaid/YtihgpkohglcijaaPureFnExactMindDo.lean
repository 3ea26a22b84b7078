/- For every mind and deed the program does what the reference does; nothing of what it gives is shared. -/
import Derived.Test.YtihgpkohglcijaaPx2
import Derived.Test.YtihgpkohglcijaaPx17
import Derived.Test.YtihgpkohglcijaaPdx
import Derived.Test.YtihgpkohglcijaaPdoi
import Derived.Test.YtihgpkohglcijaaPmks
namespace Go.Proofs.Ytihgpkohglcijaa.Pure
open Go.RowKit Go.Proofs.YtihgpkohglcijaaW.PrintWords Go.Proofs.YtihgpkohglcijaaW.PrintLast Go.Proofs.YtihgpkohglcijaaW.PrintMore Go.Proofs.Ytihgpkohglcijaa.P Go.Proofs.Ytihgpkohglcijaa.Mt Go.Proofs.Ytihgpkohglcijaa.Pl
theorem gives_len (t : Int) (l : List Int) (ls : List (List Int)) (a : Int) (s : ByteArray) : ∃ q m ms b, (if mindOk t l ls = true then mdo t l ls a s else (0, [], [], false)) = (q, m, ms, b) ∧ m.length ≤ 1048576 ∧ ms.length ≤ 1048576 ∧ ∀ y ∈ ms, y.length ≤ 1048576 := by
 have hl : ∀ {t : Int} {l : List Int}, tidyOk t l = true → l.length ≤ 8 := by
  intro t l h
  obtain ⟨_, h1, _⟩ := rankOk_iff.1 (tidyOk_iff.1 h).1
  have := (wn_le t).1
  omega
 by_cases h : mindOk t l ls = true
 ·rw [if_pos h]
  have ok := mdo_ok h a s
  generalize mdo t l ls a s = g at ok
  obtain ⟨q, m, ms, b⟩ := g
  obtain ⟨o1, o2, o3⟩ := mindOk_iff.1 ok
  exact ⟨q, m, ms, b, rfl, by have := hl o1; dsimp only at this; omega, by dsimp only at o2; omega, fun y hy => by have := hl (o3 y hy); omega⟩
 ·rw [if_neg h]
  exact ⟨_, _, _, _, rfl, by simp, by simp, by simp⟩
theorem FnExactMindDo : laws_FnExactMindDo.Pure := by
 intro t l ls a s _ hl hls _ _
 refine Ev.rounds (g := fun k => laws_FnExactMindDo.f k t l ls a s) ?_
 unfold laws_FnExactMindDo.f
 have h1 : l.length ≤ 9223372036854775807 := hl.1
 have h2 : ls.length ≤ 9223372036854775807 := hls.1
 have h3 : ∀ y ∈ ls, y.length ≤ 9223372036854775807 := fun y hy => (hls.2 y hy).1
 obtain ⟨r, e, h⟩ := szMind_c t h1 h2 h3
 refine Ev.bind e ?_
 by_cases hr : r < 0
 ·exact ev_pos hr (Ev.now _)
 ·obtain ⟨b1, b2, b3⟩ := h.resolve_left hr
  refine ev_neg hr ?_
  by_cases hw : wrap64 (r - (s.size : Int)) < 0
  ·exact ev_bindc (show laws_szDeed.f a s r = some (-1) from if_pos hw) (ev_pos (by decide) (Ev.now _))
  ·refine ev_bindc (show laws_szDeed.f a s r = some _ from if_neg hw) (ev_neg hw ?_)
   obtain ⟨q, m, ms, b, eg, g1, g2, g3⟩ := gives_len t l ls a s
   have hto := toMind_ev t (l := l) (ls := ls) (by omega) (by omega) (fun y hy => by have := b3 y hy; omega)
   have hd : laws_toDeed.f a s = some (a, s) := rfl
   have hs := spec_MindDo_ev (t := t) (l := l) (ls := ls) h1 h2 h3 a s
   have hi := impl_MindDo_ev (t := t) (l := l) (ls := ls) h1 h3 a s
   rw [eg] at hs hi
   have hq := eqMind_same q (l := m) (ls := ms) (by omega) (by omega) (fun y hy => by have := g3 y hy; omega)
   have hx := eqMind_same t (l := l) (ls := ls) h1 h2 h3
   have mx := markMind_ev t (l := l) (ls := ls) b1 b2 b3
   have mg := markMind_ev q (l := m) (ls := ms) g1 g2 g3
   have hg := heldMind_ev q (l := m) (ls := ms) g1 g2 g3
   have ex := endF_ge ls (1 + (l.length : Int))
   have eg := endF_ge ms (1 + (m.length : Int))
   refine Ev.bind hto (ev_bindc hd (Ev.bind hs (Ev.bind hto (ev_bindc hd (Ev.bind hi (Ev.bind hq (ev_tt (ev_neg (by simp) (Ev.bind hto (Ev.bind hx (ev_tt (Ev.bind mx (ev_neg (by dsimp only; omega) (Ev.bind hq (ev_tt (Ev.bind mg (Ev.bind hg (ev_neg (by omega) (ev_pos rfl ?_)))))))))))))))))))
   exact Ev.bind hto (ev_bindc hd (Ev.bind hi (Ev.bind hq (ev_tt (ev_neg (by simp) (Ev.bind hg (ev_neg (by omega) (ev_pos rfl (Ev.now _)))))))))
end Go.Proofs.Ytihgpkohglcijaa.Pure
