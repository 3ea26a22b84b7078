/- For every mind and list of deeds the program does what the reference does; nothing of what it gives is shared. -/
import Derived.Test.YtihgpkohglcijaaPx0
import Derived.Test.YtihgpkohglcijaaPx19
import Derived.Test.YtihgpkohglcijaaPrun
import Derived.Test.YtihgpkohglcijaaPdl
namespace Go.Proofs.Ytihgpkohglcijaa.Pure
open Go.RowKit Go.Proofs.YtihgpkohglcijaaW.PrintWords Go.Proofs.YtihgpkohglcijaaW.PrintLast Go.Proofs.YtihgpkohglcijaaW.PrintMore Go.Proofs.Ytihgpkohglcijaa.P Go.Proofs.Ytihgpkohglcijaa.Mt Go.Proofs.Ytihgpkohglcijaa.Pl
theorem gives_len (t : Int) (l : List Int) (ls : List (List Int)) (d : List S26) : ∃ q m ms b, (if mindOk t l ls = true ∧ d.length ≤ 40 then mrun d t l ls 0 else (0, [], [], 0)) = (q, m, ms, b) ∧ m.length ≤ 1048576 ∧ ms.length ≤ 1048576 ∧ ∀ y ∈ ms, y.length ≤ 1048576 := by
  by_cases h : mindOk t l ls = true ∧ d.length ≤ 40
  · rw [if_pos h]
    have ok := mrun_ok d 0 h.1
    generalize mrun d t l ls 0 = g at ok
    obtain ⟨q, m, ms, b⟩ := g
    obtain ⟨o1, o2, o3⟩ := mind_lens ok
    exact ⟨q, m, ms, b, rfl, by dsimp only at o1; omega, by dsimp only at o2; omega, fun y hy => by have := o3 y hy; omega⟩
  · rw [if_neg h]
    exact ⟨_, _, _, _, rfl, by simp, by simp, by simp⟩
theorem FnExactMindRun : laws_FnExactMindRun.Pure := by
  intro t l ls d _ hl hls hd
  refine Ev.rounds (g := fun k => laws_FnExactMindRun.f k t l ls d) ?_
  unfold laws_FnExactMindRun.f
  have h1 : l.length ≤ 9223372036854775807 := hl.1
  have h2 : ls.length ≤ 9223372036854775807 := hls.1
  have h3 : ∀ y ∈ ls, y.length ≤ 9223372036854775807 := fun y hy => (hls.2 y hy).1
  have h4 : d.length ≤ 9223372036854775807 := hd.1
  obtain ⟨r, e, h⟩ := szMind_d t h1 h2 h3
  refine Ev.bind e ?_
  by_cases hr : r < 0
  · exact ev_pos hr (Ev.now _)
  · obtain ⟨b4, b5, b1, b2, b3⟩ := h.resolve_left hr
    refine ev_neg hr ?_
    obtain ⟨r2, e2, h⟩ := szDeedS_d (l := d) b4 b5 h4
    refine Ev.bind e2 ?_
    by_cases hw : r2 < 0
    · exact ev_pos hw (Ev.now _)
    · have b6 := h.resolve_left hw
      refine ev_neg hw ?_
      have hlen : (d.map conv).length = d.length := List.length_map ..
      obtain ⟨q, m, ms, b, eg, g1, g2, g3⟩ := gives_len t l ls (d.map conv)
      have hto := toMind_ev t (l := l) (ls := ls) (by omega) (by omega) (fun y hy => by have := b3 y hy; omega)
      have hdd := toDeedS_ev (l := d) (by omega)
      have hs := spec_MindRun_ev (t := t) (l := l) (ls := ls) (q := d.map conv) h1 h2 h3 (by omega)
      have hi := impl_MindRun_ev (t := t) (l := l) (ls := ls) (q := d.map conv) h1 h3 (by omega)
      rw [eg] at hs hi
      have hq := eqMind_same q (l := m) (ls := ms) (by omega) (by omega) (fun y hy => by have := g3 y hy; omega)
      have hx := eqMind_same t (l := l) (ls := ls) h1 h2 h3
      have hxd := eqDeedS_same (l := d.map conv) (by omega)
      have mx := markMind_ev t (l := l) (ls := ls) b1 b2 b3
      have mg := markMind_ev q (l := m) (ls := ms) g1 g2 g3
      have hg := heldMind_ev q (l := m) (ls := ms) g1 g2 g3
      have ex := endF_ge ls (1 + (l.length : Int))
      have ey := endF_le ls (1 + (l.length : Int)) b3
      have eg := endF_ge ms (1 + (m.length : Int))
      obtain ⟨y, my⟩ := markDeedS_ev (l := d.map conv) (a := endF (1 + (l.length : Int)) ls) (by omega) (by omega) (by omega)
      refine Ev.bind hto (Ev.bind hdd (Ev.bind hs (Ev.bind hto (Ev.bind hdd (Ev.bind hi (Ev.bind hq (ev_tt (ev_pos rfl (Ev.bind hto (Ev.bind hx (ev_tt (Ev.bind hdd (Ev.bind hxd (ev_tt (Ev.bind mx (Ev.bind my (ev_neg (by dsimp only; omega) (Ev.bind hq (ev_tt (Ev.bind mg (Ev.bind hg (ev_neg (by omega) (ev_pos rfl ?_)))))))))))))))))))))))
      exact Ev.bind hto (Ev.bind hdd (Ev.bind hi (Ev.bind hq (ev_tt (ev_pos rfl (Ev.bind hg (ev_neg (by omega) (ev_pos rfl (Ev.now _)))))))))
end Go.Proofs.Ytihgpkohglcijaa.Pure
