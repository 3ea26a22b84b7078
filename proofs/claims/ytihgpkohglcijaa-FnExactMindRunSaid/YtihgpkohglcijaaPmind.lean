/- Plain laws: minds: the laws' copies, comparisons and sizes of rows of rows. -/
import Derived.Test.YtihgpkohglcijaaPx3
import Derived.Test.YtihgpkohglcijaaPx4
import Derived.Test.YtihgpkohglcijaaPim
import Derived.Test.YtihgpkohglcijaaPint
namespace Go.Proofs.Ytihgpkohglcijaa.Pl
open Go.RowKit Go.Proofs.YtihgpkohglcijaaW.PrintWords Go.Proofs.YtihgpkohglcijaaW.PrintLast Go.Proofs.YtihgpkohglcijaaW.PrintMore Go.Proofs.Ytihgpkohglcijaa.P Go.Proofs.Ytihgpkohglcijaa.Mt
/-! ### the laws' own helpers -/
theorem szIntS_c {l : List Int} {a : Int} (hn : l.length ≤ 9223372036854775807) (h0 : 0 ≤ a) (h1 : a ≤ 1048576) : ∃ r, laws_szIntS.f l a = some r ∧ (r < 0 ∨ (0 ≤ r ∧ r ≤ a ∧ (l.length : Int) ≤ a)) := by
 unfold laws_szIntS.f
 rw [w64 (n := a - (l.length : Int)) (by omega) (by omega)]
 by_cases h : a - (l.length : Int) < 0
 ·exact ⟨-1, if_pos h, Or.inl (by omega)⟩
 ·exact ⟨_, if_neg h, Or.inr (by omega)⟩
theorem szIntSS_c {ls : List (List Int)} {a : Int} (hs : ls.length ≤ 9223372036854775807) (hl : ∀ y ∈ ls, y.length ≤ 9223372036854775807) (h0 : 0 ≤ a) (h1 : a ≤ 1048576) : ∃ r, Ev (fun k => laws_szIntSS.f k ls a) r ∧ (r < 0 ∨ (0 ≤ r ∧ r ≤ a ∧ (ls.length : Int) ≤ a ∧ ∀ y ∈ ls, (y.length : Int) ≤ a)) := by
 unfold laws_szIntSS.f
 rw [w64 (n := a - (ls.length : Int)) (by omega) (by omega)]
 by_cases h : a - (ls.length : Int) < 0
 ·exact ⟨-1, ev_pos h (Ev.now _), Or.inl (by omega)⟩
 ·have key : ∀ i, i ≤ ls.length → ∀ b : Int, 0 ≤ b → b ≤ a → ∃ r, Ev (fun k => laws_szIntSS.l0 k ls b (i : Int)) r ∧ (r < 0 ∨ (0 ≤ r ∧ r ≤ a ∧ ∀ y ∈ ls.drop i, (y.length : Int) ≤ a)) := by
   apply down
   ·intro b hb hb1
    exact ⟨b, Ev.step (fun k => rfl) (ev_neg (by omega) (Ev.now _)), Or.inr ⟨hb, hb1, fun y hy => by rw [List.drop_length] at hy; simp at hy⟩⟩
   ·intro i hi ih b hb hb1
    obtain ⟨c, e, hc⟩ := szIntS_c (a := b) (hl _ (List.getElem_mem hi)) hb (by omega)
    by_cases hc0 : c < 0
    ·refine ⟨-1, Ev.step (fun k => rfl) (ev_pos (by omega) (ev_pos (by omega) ?_)), Or.inl (by omega)⟩
     rw [rdLL_at hi]
     exact ev_bindc e (ev_pos hc0 (Ev.now _))
    ·obtain ⟨r, h2, h3⟩ := ih c (by omega) (by omega)
     refine ⟨r, Ev.step (fun k => rfl) (ev_pos (by omega) (ev_pos (by omega) ?_)), ?_⟩
     ·rw [rdLL_at hi]
      refine ev_bindc e (ev_neg hc0 ?_)
      rw [w1 hi hs]
      exact h2
     ·rcases h3 with h3 | ⟨h3, h4, h5⟩
      ·exact Or.inl h3
      ·refine Or.inr ⟨h3, h4, fun y hy => ?_⟩
       rw [List.drop_eq_getElem_cons hi] at hy
       rcases List.mem_cons.1 hy with rfl | hy
       ·omega
       ·exact h5 y hy
  obtain ⟨r, h2, h3⟩ := key 0 (Nat.zero_le _) (a - (ls.length : Int)) (by omega) (by omega)
  refine ⟨r, ev_neg h h2, ?_⟩
  rcases h3 with h3 | ⟨h3, h4, h5⟩
  ·exact Or.inl h3
  ·exact Or.inr ⟨h3, h4, by omega, by rw [List.drop_zero] at h5; exact h5⟩
theorem szMind_c (t : Int) {l : List Int} {ls : List (List Int)} (hn : l.length ≤ 9223372036854775807) (hs : ls.length ≤ 9223372036854775807) (hl : ∀ y ∈ ls, y.length ≤ 9223372036854775807) : ∃ r, Ev (fun k => laws_szMind.f k t l ls 1048576) r ∧ (r < 0 ∨ (l.length ≤ 1048576 ∧ ls.length ≤ 1048576 ∧ ∀ y ∈ ls, y.length ≤ 1048576)) := by
 unfold laws_szMind.f
 obtain ⟨r, e, h⟩ := szIntS_c (l := l) (a := 1048576) hn (by omega) (by omega)
 by_cases hr : r < 0
 ·exact ⟨-1, ev_bindc e (ev_pos hr (Ev.now _)), Or.inl (by omega)⟩
 ·obtain ⟨q, e2, h2⟩ := szIntSS_c (ls := ls) (a := r) hs hl (by omega) (by omega)
  by_cases hq : q < 0
  ·exact ⟨-1, ev_bindc e (ev_neg hr (Ev.bind e2 (ev_pos hq (Ev.now _)))), Or.inl (by omega)⟩
  ·refine ⟨q, ev_bindc e (ev_neg hr (Ev.bind e2 (ev_neg hq (Ev.now _)))), Or.inr ?_⟩
   rcases h2 with h2 | ⟨h3, h4, h5, h6⟩
   ·exact absurd h2 hq
   ·exact ⟨by omega, by omega, fun y hy => by have := h6 y hy; omega⟩
theorem toIntSS_ev {l : List (List Int)} (hn : l.length ≤ 11728124029610) (hl : ∀ y ∈ l, y.length ≤ 35184372088832) : Ev (fun k => laws_toIntSS.f k l) l := by
 unfold laws_toIntSS.f
 refine ev_pos (by omega) (ev_pos (by simpa using hn) ?_)
 have key : ∀ i, i ≤ l.length → Ev (fun k => laws_toIntSS.l0 k l (l.take i ++ List.replicate (l.length - i) []) (i : Int)) l := by
  apply down
  ·refine Ev.step (fun k => rfl) (ev_neg (by omega) (ev_eq (Ev.now _) ?_))
   rw [Nat.sub_self, List.replicate_zero, List.append_nil, List.take_length]
  ·intro i hi ih
   refine Ev.step (fun k => rfl) (ev_pos (by omega) (ev_pos (by omega) ?_))
   rw [rdLL_at hi]
   refine Ev.bind (toIntS_ev (hl _ (List.getElem_mem hi))) (ev_pos ?_ ?_)
   ·rw [List.length_append, List.length_take, List.length_replicate]; omega
   ·rw [w1 hi (by omega), Int.toNat_natCast]
    have e : (l.take i ++ List.replicate (l.length - i) []).set i l[i] = l.take (i + 1) ++ List.replicate (l.length - (i + 1)) [] := by
     rw [List.set_append_right _ _ (by rw [List.length_take]; omega), List.length_take, show i - min i l.length = 0 from by omega, show l.length - i = (l.length - (i + 1)) + 1 from by omega, List.replicate_succ, List.set_cons_zero, List.take_succ_eq_append_getElem hi, List.append_assoc]
     rfl
    rw [e]
    exact ih
 have := key 0 (Nat.zero_le _)
 simpa using this
theorem toMind_ev (t : Int) {l : List Int} {ls : List (List Int)} (h1 : l.length ≤ 35184372088832) (h2 : ls.length ≤ 11728124029610) (h3 : ∀ y ∈ ls, y.length ≤ 35184372088832) : Ev (fun k => laws_toMind.f k t l ls) (t, l, ls) := by
 unfold laws_toMind.f
 exact Ev.bind (toIntS_ev h1) (Ev.bind (toIntSS_ev h2 h3) (Ev.now _))
theorem eqIntSS_ev {l m : List (List Int)} (hn : l.length ≤ 9223372036854775807) (hl : ∀ y ∈ l, y.length ≤ 9223372036854775807) : Ev (fun k => laws_eqIntSS.f k l m) (decide (l = m)) := by
 unfold laws_eqIntSS.f
 by_cases hlm : l.length = m.length
 ·refine ev_pos (by omega) ?_
  have key : ∀ i, i ≤ l.length → Ev (fun k => laws_eqIntSS.l0 k l m (i : Int)) (decide (l.drop i = m.drop i)) := by
   apply down
   ·refine Ev.step (fun k => rfl) (ev_neg (by omega) (ev_eq (Ev.now _) ?_))
    rw [List.drop_length, hlm, List.drop_length, decide_eq_true rfl]
   ·intro i hi ih
    have hm : i < m.length := by omega
    refine Ev.step (fun k => rfl) (ev_pos (by omega) (ev_pos (by omega) (ev_pos (by omega) ?_)))
    rw [rdLL_at hi, rdLL_at hm, w1 hi hn, List.drop_eq_getElem_cons hi, List.drop_eq_getElem_cons hm]
    refine Ev.bind (eqIntS_ev (m := m[i]) (hl _ (List.getElem_mem hi))) ?_
    by_cases e : l[i] = m[i]
    ·rw [decide_eq_true e]
     refine ev_tt (ev_eq ih ?_)
     exact decide_eq_decide.2 ⟨fun k => by rw [e, k], fun k => (List.cons.inj k).2⟩
    ·rw [decide_eq_false e]
     refine ev_ff (ev_eq (Ev.now _) ?_)
     exact (decide_eq_false (fun k => e (List.cons.inj k).1)).symm
  have := key 0 (Nat.zero_le _)
  simpa using this
 ·refine ev_neg (by omega) (ev_eq (Ev.now _) ?_)
  exact (decide_eq_false (fun k => hlm (by rw [k]))).symm
theorem eqMind_same (t : Int) {l : List Int} {ls : List (List Int)} (hn : l.length ≤ 9223372036854775807) (hs : ls.length ≤ 9223372036854775807) (hl : ∀ y ∈ ls, y.length ≤ 9223372036854775807) : Ev (fun k => laws_eqMind.f k t l ls t l ls) true := by
 unfold laws_eqMind.f
 refine ev_pos rfl (Ev.bind (eqIntS_same hn) (ev_tt (Ev.bind (eqIntSS_ev (m := ls) hs hl) ?_)))
 rw [decide_eq_true rfl]
 exact ev_tt (Ev.now _)
end Go.Proofs.Ytihgpkohglcijaa.Pl
