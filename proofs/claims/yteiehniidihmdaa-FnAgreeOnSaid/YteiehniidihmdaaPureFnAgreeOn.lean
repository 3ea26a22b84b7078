/- Agreement of the first one and of all others. -/
import Derived.Test.YteiehniidihmdaaPx41
import Derived.Test.YteiehniidihmdaaPx42
import Derived.Test.YteiehniidihmdaaPmono
import Derived.Test.YteiehniidihmdaaPdraw
namespace Go.Proofs.Yteiehniidihmdaa.Pure
open Go.RowKit Go.Proofs.YteiehniidihmdaaW.PrintWords Go.Proofs.YteiehniidihmdaaW.PrintLast Go.Proofs.YteiehniidihmdaaW.PrintMore Go.Proofs.Yteiehniidihmdaa.P Go.Proofs.Yteiehniidihmdaa.Mt Go.Proofs.Yteiehniidihmdaa.Pl
theorem drawAgreeOn {c : List Int} (h : ∀ x ∈ c, (Lit.int .u8 x).wf = true) : ∃ t l, Ev (fun k => spec_DrawAgreeOn.f k c) (t, l) ∧ l.length ≤ 5 := by
  obtain ⟨b, ho, hb⟩ := open_ev h
  obtain ⟨t, l, p', hl, _, _, q⟩ := minds_ev hb (p := 0) (by omega) (by omega) (a := 4) (by omega) (by omega) 9
  exact ⟨t, l, ev_bindc ho (Ev.bind hl (Ev.now _)), by omega⟩
theorem FnAgreeOn : laws_FnAgreeOn.Pure := by
  intro c _ _ hc
  refine Ev.rounds (g := fun k => laws_FnAgreeOn.f k c) ?_
  unfold laws_FnAgreeOn.f
  by_cases h : (c.length : Int) > 1048576
  · exact ev_pos h (Ev.now _)
  obtain ⟨t, l, hd, hl⟩ := drawAgreeOn hc
  refine ev_neg h (Ev.bind hd (Ev.bind (impl_AgreeOn_ev t (l := l) (by omega)) (Ev.bind (AgreeOn_ev t (l := l) (by omega)) (ev_pos rfl ?_))))
  by_cases hm : mindsOk t l = true
  · obtain ⟨a, b, c1, c2⟩ := mindsOk_iff.1 hm
    rw [if_pos hm]
    refine ev_neg (by omega) ?_
    by_cases h2 : (l.length : Int) < 2
    · refine ev_pos h2 (ev_pos (by show (0 : Int) < (l.length : Int); omega) (ev_pos ?_ (Ev.now _)))
      obtain ⟨s, hs⟩ : ∃ s, l = [s] := List.length_eq_one_iff.1 (by omega)
      subst hs
      obtain ⟨n, en, _, hn, _⟩ := setOk_nat (a s (by simp)).1
      show ((agree (all t) [s] : Nat) : Int) = s
      rw [en]
      show ((all t &&& n : Nat) : Int) = n
      rw [all_and b hn]
    · refine ev_neg h2 (ev_pos (by show (l.length : Int) ≥ 2; omega) (ev_pos (by show (0 : Int) < (l.length : Int); omega) (ev_pos (by show (1 : Int) ≤ (l.length : Int); omega) ?_)))
      match l, hm, h2, a, c2 with
      | s :: r, hm, h2, a, c2 =>
        obtain ⟨n, en, hn, _⟩ := setOk_nat (a s (by simp)).1
        have h1 : mindsOk t r = true := mindsOk_iff.2 ⟨fun x hx => a x (List.mem_cons_of_mem _ hx), b, by simp at h2; omega, by simp at c2; omega⟩
        refine Ev.bind (impl_AgreeOn_ev t (l := r) (by simp at c2; omega)) ?_
        rw [if_pos h1, en]
        refine Ev.bind (both_ev (a := n) (b := agree (all t) r) hn) (ev_eq (Ev.now _) ?_)
        rw [agree_cons]
        exact beq_self_eq_true _
  · rw [if_neg hm]
    exact ev_pos (by omega) (ev_pos rfl (ev_bindc alive_eq (Ev.now _)))
end Go.Proofs.Yteiehniidihmdaa.Pure
