/- Bases may be empty, and lose their first set. -/
import Derived.Test.YteiehniidihmdaaPx3
import Derived.Test.YteiehniidihmdaaPx36
import Derived.Test.YteiehniidihmdaaPok
import Derived.Test.YteiehniidihmdaaPlaw
import Derived.Test.YteiehniidihmdaaPdraw
namespace Go.Proofs.Yteiehniidihmdaa.Pure
open Go.RowKit Go.Proofs.YteiehniidihmdaaW.PrintWords Go.Proofs.YteiehniidihmdaaW.PrintLast Go.Proofs.YteiehniidihmdaaW.PrintMore Go.Proofs.Yteiehniidihmdaa.P Go.Proofs.Yteiehniidihmdaa.Mt Go.Proofs.Yteiehniidihmdaa.Pl
theorem drawBaseOk {c : List Int} (h : ∀ x ∈ c, (Lit.int .u8 x).wf = true) : ∃ t l, Ev (fun k => spec_DrawBaseOk.f k c) (t, l) ∧ l.length ≤ 7 := by
  obtain ⟨b, ho, hb⟩ := open_ev h
  obtain ⟨t, l, p', hl, _, _, q⟩ := base_ev hb (p := 0) (by omega) (by omega) 4
  exact ⟨t, l, ev_bindc ho (Ev.bind hl (Ev.now _)), q⟩
theorem FnBaseOk : laws_FnBaseOk.Pure := by
  intro c _ _ hc
  refine Ev.rounds (g := fun k => laws_FnBaseOk.f k c) ?_
  unfold laws_FnBaseOk.f
  by_cases h : (c.length : Int) > 1048576
  · exact ev_pos h (Ev.now _)
  obtain ⟨t, l, hd, hl⟩ := drawBaseOk hc
  refine ev_neg h (Ev.bind hd (ev_bindc (impl_BaseOk_eq t l) (Ev.bind (BaseOk_ev t (l := l) (by omega)) (ev_neg (by simp) (ev_bindc (impl_BaseOk_eq t []) ?_)))))
  obtain ⟨n, hn, e⟩ : ∃ n, impl_WorldsOf.f t = some n ∧ baseOk t [] = decide (n > 0) := by
    by_cases ht : 1 ≤ t ∧ t ≤ 3
    · obtain ⟨n, hn, hp⟩ := worldsOf_in ht
      exact ⟨n, hn, by rw [decide_eq_true hp]; exact baseOk_iff.2 ⟨by simp, ht, by simp⟩⟩
    · refine ⟨-1, worldsOf_out ht, ?_⟩
      cases e : baseOk t [] with
      | false => rfl
      | true => exact absurd (baseOk_iff.1 e).2.1 ht
  refine ev_bindc hn (ev_pos (by rw [e]; exact beq_self_eq_true _) ?_)
  by_cases hb : baseOk t l = true
  · refine ev_pos hb ?_
    by_cases h0 : (l.length : Int) = 0
    · exact ev_pos h0 (ev_bindc alive_eq (Ev.now _))
    · obtain ⟨a, b, c1⟩ := baseOk_iff.1 hb
      have h1 : baseOk t (l.drop 1) = true := baseOk_iff.2 ⟨fun s hs => a s (List.mem_of_mem_drop hs), b, by rw [List.length_drop]; omega⟩
      exact ev_neg h0 (ev_pos (by show (1 : Int) ≤ (l.length : Int); omega) (ev_bindc (impl_BaseOk_eq _ _) (ev_pos h1 (ev_bindc alive_eq (Ev.now _)))))
  · exact ev_neg hb (ev_bindc alive_eq (Ev.now _))
end Go.Proofs.Yteiehniidihmdaa.Pure
