/- For every drawn rank the program makes the mind that the reference makes, and it is a mind. -/
import Derived.Test.YtihgpkohglcijaaPx17
import Derived.Test.YtihgpkohglcijaaPx18
import Derived.Test.YtihgpkohglcijaaPx19
import Derived.Test.YtihgpkohglcijaaPsame
import Derived.Test.YtihgpkohglcijaaPdraw
namespace Go.Proofs.Ytihgpkohglcijaa.Pure
open Go.RowKit Go.Proofs.YtihgpkohglcijaaW.PrintWords Go.Proofs.YtihgpkohglcijaaW.PrintLast Go.Proofs.YtihgpkohglcijaaW.PrintMore Go.Proofs.Ytihgpkohglcijaa.P Go.Proofs.Ytihgpkohglcijaa.Mt Go.Proofs.Ytihgpkohglcijaa.Pl
theorem FnMindNew : laws_FnMindNew.Pure := by
  intro c _ _ hc
  refine Ev.rounds (g := fun k => laws_FnMindNew.f k c) ?_
  unfold laws_FnMindNew.f
  by_cases hlen : (c.length : Int) > 1048576
  · exact ev_pos hlen (Ev.now _)
  · obtain ⟨b, hb, hcode⟩ := open_ev hc
    obtain ⟨t, p1, ht, a1, a2⟩ := things_ev hcode (p := 0) (by omega) (by omega) 9
    obtain ⟨l, p2, hl, b1, b2, hn⟩ := rank_ev hcode (p := p1) (by omega) (by omega) t 9
    have hd : Ev (fun k => spec_DrawMindNew.f k c) (t, l) := by
      unfold spec_DrawMindNew.f
      exact ev_bindc hb (Ev.bind ht (Ev.bind hl (Ev.now _)))
    have hn' : l.length ≤ 9223372036854775807 := by omega
    refine ev_neg hlen (Ev.bind hd (Ev.bind (impl_MindNew_ev t hn') (Ev.bind (spec_MindNew_ev t hn') ?_)))
    have hr := RankOk_ev t hn'
    by_cases h : rankOk t l = true
    · have en : newMind t l = (t, tidyL l, []) := if_pos h
      have h8 := rank_short h
      have ht8 : (tidyL l).length ≤ 8 := by rw [tidyL_length]; exact h8
      have h0 : ∀ x ∈ l, 0 ≤ x := fun x hx => ((rankOk_iff.1 h).2.2.1 x hx).1
      rw [en]
      rw [h] at hr
      have hm : mindOk t (tidyL l) [] = true := by unfold mindOk; rw [tidyOk_tidy h]; rfl
      have hv := impl_MindValid_ev t (l := tidyL l) (ls := []) (by omega) (by simp)
      rw [hm] at hv
      have hso : Ev (fun k => impl_SameOrder.f k t (tidyL l) l) true := by
        unfold impl_SameOrder.f
        have i1 := isRank_ev t (l := tidyL l) (by omega)
        rw [rankOk_tidy h] at i1
        have i2 := isRank_ev t (l := l) (by omega)
        rw [h] at i2
        have i3 := tidy_ev (l := tidyL l) ht8 (fun x hx => ((rankOk_iff.1 (rankOk_tidy h)).2.2.1 x hx).1)
        rw [tidyL_tidyL h0] at i3
        refine Ev.bind i1 (ev_tt (Ev.bind i2 (ev_tt (Ev.bind i3 (Ev.bind (tidy_ev h8 h0) (Ev.bind (Equal_ev (by omega)) (ev_eq (Ev.now _) (decide_eq_true rfl))))))))
      exact Ev.bind (sameMind_same t (l := tidyL l) (ls := []) (by omega) (by simp) (by simp)) (ev_tt (Ev.bind hr (ev_tt (Ev.bind hv (ev_tt (Ev.bind hso (ev_tt (Ev.now _))))))))
    · have en : newMind t l = (0, [], []) := if_neg h
      rw [en]
      have hf : rankOk t l = false := by cases e : rankOk t l with | true => exact absurd e h | false => rfl
      rw [hf] at hr
      have hno : Ev (fun k => laws_noMind.f k 0 [] []) true := by
        unfold laws_noMind.f
        exact Ev.bind (sameMind_same 0 (by simp) (by simp) (by simp)) (Ev.now _)
      exact Ev.bind (sameMind_same 0 (l := []) (ls := []) (by simp) (by simp) (by simp)) (ev_tt (Ev.bind hr (ev_ff (Ev.bind hno (ev_tt (ev_bindc alive_eq (Ev.now _)))))))
end Go.Proofs.Ytihgpkohglcijaa.Pure
