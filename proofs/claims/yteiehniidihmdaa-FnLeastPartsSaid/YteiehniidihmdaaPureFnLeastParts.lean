/- Least parts meet all that is left out. -/
import Derived.Test.YteiehniidihmdaaPx45
import Derived.Test.YteiehniidihmdaaPfam
import Derived.Test.YteiehniidihmdaaPdraw
namespace Go.Proofs.Yteiehniidihmdaa.Pure
open Go.RowKit Go.Proofs.YteiehniidihmdaaW.PrintWords Go.Proofs.YteiehniidihmdaaW.PrintLast Go.Proofs.YteiehniidihmdaaW.PrintMore Go.Proofs.Yteiehniidihmdaa.P Go.Proofs.Yteiehniidihmdaa.Mt Go.Proofs.Yteiehniidihmdaa.Pl
theorem drawLeastParts {c : List Int} (h : ∀ x ∈ c, (Lit.int .u8 x).wf = true) : ∃ t l s, Ev (fun k => spec_DrawLeastParts.f k c) (t, l, s) ∧ l.length ≤ 7 := by
  obtain ⟨b, ho, hb⟩ := open_ev h
  obtain ⟨t, l, s, p', hl, _, _, q⟩ := given_ev hb (p := 0) (by omega) (by omega)
  exact ⟨t, l, s, ev_bindc ho (Ev.bind hl (Ev.now _)), q⟩
theorem turn_ev {l : List Int} (hl : l.length ≤ 6) (so : Nat → Bool) (up : Cb.Up l.length so) :
    Ev (fun k => laws_FnLeastParts.l0 k l (casts (Cb.mins l.length so)) [] (casts (Cb.maxs l.length so)) 0) true := by
  have h6 := pow6 hl
  have hm := maxs_len l.length so
  have hn := mins_len l.length so
  have key : ∀ i, i ≤ (Cb.maxs l.length so).length → Ev (fun k => laws_FnLeastParts.l0 k l (casts (Cb.mins l.length so)) (casts (((Cb.maxs l.length so).take i).map (Cb.rest l.length))) (casts (Cb.maxs l.length so)) (i : Int)) true := by
    apply down
    · refine Ev.step (fun k => rfl) (ev_neg (by rw [casts_length]; omega) (ev_bindc (impl_MeetsAll_eq _ _) ?_))
      rw [List.take_length, meetsAll_casts hl, Cb.least_of_left up]
      · exact Ev.bind (sames (by rw [casts_length]; omega)) (Ev.now _)
      · intro p hp
        obtain ⟨g, hg, rfl⟩ := List.mem_map.1 hp
        exact Cb.rest_lt (Cb.mem_maxs.1 hg).1
    · intro i hi ih
      refine Ev.step (fun k => rfl) (ev_pos (by rw [casts_length]; omega) (ev_pos (by omega) (ev_pos (by rw [casts_length, List.length_map, List.length_take]; omega) ?_)))
      rw [rd_casts hi, rest_cast hl (maxs_lt hi), w1 hi (by omega)]
      have e : casts (((Cb.maxs l.length so).take i).map (Cb.rest l.length)) ++ [((Cb.rest l.length (Cb.maxs l.length so)[i] : Nat) : Int)] = casts (((Cb.maxs l.length so).take (i + 1)).map (Cb.rest l.length)) := by
        rw [List.take_succ_eq_append_getElem hi, List.map_append]
        unfold casts
        rw [List.map_append]
        rfl
      rw [e]
      exact ih
  exact key 0 (Nat.zero_le _)
theorem FnLeastParts : laws_FnLeastParts.Pure := by
  intro c _ _ hc
  refine Ev.rounds (g := fun k => laws_FnLeastParts.f k c) ?_
  unfold laws_FnLeastParts.f
  by_cases h : (c.length : Int) > 1048576
  · exact ev_pos h (Ev.now _)
  obtain ⟨t, l, s, hd, hl⟩ := drawLeastParts hc
  refine ev_neg h (Ev.bind hd (Ev.bind (impl_LeastParts_ev t l s) (Ev.bind (spec_LeastParts_ev t (l := l) s (by omega)) ?_)))
  by_cases hg : (baseOk t l && setOk t s) = true
  · rw [if_pos hg]
    obtain ⟨hb, hs⟩ := Bool.and_eq_true_iff.1 hg
    obtain ⟨_, ht, h6⟩ := baseOk_iff.1 hb
    obtain ⟨n, rfl, hn, hle, _⟩ := setOk_nat hs
    rw [Int.toNat_natCast]
    have hp := pow6 h6
    have hm := mins_len l.length (so t l n)
    refine Ev.bind (sames (by rw [casts_length]; omega)) (ev_pos rfl (Ev.bind (BaseOk_ev t (l := l) (by omega)) (ev_pos hb (ev_bindc (SetOk_eq _ _) ?_))))
    show Ev (fun k => laws_FnLeastParts.j0 k t l (n : Int) (casts (Cb.mins l.length (so t l n))) (!setOk t n)) true
    rw [hs, Bool.not_true]
    refine Ev.step (fun k => rfl) ?_
    simp only [laws_FnLeastParts.j0]
    refine ev_neg Bool.false_ne_true (ev_bindc (whole_eq ht) ?_)
    by_cases e : (n : Int) = (all t : Int)
    · refine ev_pos e (Ev.bind (sameInts_ev (by rw [casts_length]; omega)) (ev_eq (Ev.now _) ?_))
      have e := Int.ofNat_inj.1 e
      subst e
      rw [mins_always (so_always t l)]
      rfl
    · refine ev_neg e (Ev.bind (impl_GreatestParts_ev t l _) ?_)
      rw [if_pos hg]
      exact turn_ev h6 _ (so_up t l n _)
  · rw [if_neg hg]
    refine Ev.bind (sames (by simp)) (ev_pos rfl (Ev.bind (BaseOk_ev t (l := l) (by omega)) ?_))
    by_cases hb : baseOk t l = true
    · refine ev_pos hb (ev_bindc (SetOk_eq _ _) ?_)
      have hs : setOk t s = false := by
        cases e : setOk t s with
        | false => rfl
        | true => exact absurd (by rw [hb, e]; rfl) hg
      show Ev (fun k => laws_FnLeastParts.j0 k t l s [] (!setOk t s)) true
      rw [hs, Bool.not_false]
      exact Ev.step (fun k => rfl) (ev_bindc alive_eq (Ev.now _))
    · exact ev_neg hb (Ev.step (fun k => rfl) (ev_bindc alive_eq (Ev.now _)))
end Go.Proofs.Yteiehniidihmdaa.Pure
