/- What greatest parts leave out meets every least part. -/
import Derived.Test.YteiehniidihmdaaPx46
import Derived.Test.YteiehniidihmdaaPfam
import Derived.Test.YteiehniidihmdaaPdraw
namespace Go.Proofs.Yteiehniidihmdaa.Pure
open Go.RowKit Go.Proofs.YteiehniidihmdaaW.PrintWords Go.Proofs.YteiehniidihmdaaW.PrintLast Go.Proofs.YteiehniidihmdaaW.PrintMore Go.Proofs.Yteiehniidihmdaa.P Go.Proofs.Yteiehniidihmdaa.Mt Go.Proofs.Yteiehniidihmdaa.Pl
theorem drawGreatestParts {c : List Int} (h : ∀ x ∈ c, (Lit.int .u8 x).wf = true) : ∃ t l s, Ev (fun k => spec_DrawGreatestParts.f k c) (t, l, s) ∧ l.length ≤ 7 := by
  obtain ⟨b, ho, hb⟩ := open_ev h
  obtain ⟨t, l, s, p', hl, _, _, q⟩ := given_ev hb (p := 0) (by omega) (by omega)
  exact ⟨t, l, s, ev_bindc ho (Ev.bind hl (Ev.now _)), q⟩
theorem all_ev {n : Nat} (hn : n ≤ 6) (so : Nat → Bool) (up : Cb.Up n so) :
    Ev (fun k => laws_FnGreatestParts.l0 k (casts (Cb.maxs n so)) ((2 ^ n - 1 : Nat) : Int) (casts (Cb.mins n (Cb.meets (Cb.mins n so)))) 0) true := by
  have h6 := pow6 hn
  have hm := maxs_len n so
  have hk := mins_len n (Cb.meets (Cb.mins n so))
  have nd : (Cb.maxs n so).Nodup := List.Pairwise.filter _ List.nodup_range
  have key : ∀ i, i ≤ (Cb.maxs n so).length → Ev (fun k => laws_FnGreatestParts.l0 k (casts (Cb.maxs n so)) ((2 ^ n - 1 : Nat) : Int) (casts (Cb.mins n (Cb.meets (Cb.mins n so)))) (i : Int)) true := by
    apply down
    · refine Ev.step (fun k => rfl) (ev_neg (by rw [casts_length]; omega) (ev_eq (Ev.now _) ?_))
      rw [casts_length, casts_length, Cb.length_left up]
      exact beq_self_eq_true _
    · intro i hi ih
      have hg := maxs_lt hi
      refine Ev.step (fun k => rfl) (ev_pos (by rw [casts_length]; omega) (ev_pos (by omega) (Ev.bind (hasInt_ev _ (by rw [casts_length]; omega)) (ev_pos ?_ ?_))))
      · have e : wrap64 (((2 ^ n - 1 : Nat) : Int) - rd (casts (Cb.maxs n so)) (i : Int)) = ((Cb.rest n (Cb.maxs n so)[i] : Nat) : Int) := by
          rw [rd_casts hi, Cb.rest_sub hg, w64 (by omega) (by omega)]
          omega
        rw [e]
        exact decide_eq_true (mem_casts.2 ((Cb.left_of_least up hg).2 (List.getElem_mem hi)))
      · have inner : ∀ j, j ≤ (Cb.maxs n so).length → Ev (fun k => laws_FnGreatestParts.l1 k (casts (Cb.maxs n so)) ((2 ^ n - 1 : Nat) : Int) (casts (Cb.mins n (Cb.meets (Cb.mins n so)))) (i : Int) (j : Int)) true := by
          apply down
          · refine Ev.step (fun k => rfl) (ev_neg (by rw [casts_length]; omega) ?_)
            rw [w1 hi (by omega)]
            exact ih
          · intro j hj ih2
            refine Ev.step (fun k => rfl) (ev_pos (by rw [casts_length]; omega) ?_)
            rw [w1 hj (by omega)]
            by_cases e : j = i
            · exact ev_pos (by omega) ih2
            · refine ev_neg (by omega) (ev_pos (by omega) (ev_pos (by rw [casts_length]; omega) (ev_pos (by omega) ?_)))
              rw [rd_casts hi, rd_casts hj]
              refine Ev.bind (shared_ev (a := (Cb.maxs n so)[i]) (b := (Cb.maxs n so)[j]) (by omega)) (ev_neg ?_ ih2)
              intro e2
              have hsub : Cb.Sub (Cb.maxs n so)[i] (Cb.maxs n so)[j] := Cb.sub_and.1 (Int.ofNat_inj.1 e2)
              have := Cb.max_anti up (List.getElem_mem hi) (maxs_lt hj) (Cb.mem_maxs.1 (List.getElem_mem hj)).2.1 hsub
              rcases Nat.lt_or_gt_of_ne e with hlt | hlt
              · exact (List.pairwise_iff_getElem.1 nd) j i hj hi hlt this.symm
              · exact (List.pairwise_iff_getElem.1 nd) i j hi hj hlt this
        exact inner 0 (Nat.zero_le _)
  exact key 0 (Nat.zero_le _)
theorem FnGreatestParts : laws_FnGreatestParts.Pure := by
  intro c _ _ hc
  refine Ev.rounds (g := fun k => laws_FnGreatestParts.f k c) ?_
  unfold laws_FnGreatestParts.f
  by_cases h : (c.length : Int) > 1048576
  · exact ev_pos h (Ev.now _)
  obtain ⟨t, l, s, hd, hl⟩ := drawGreatestParts hc
  refine ev_neg h (Ev.bind hd (Ev.bind (impl_GreatestParts_ev t l s) (Ev.bind (spec_GreatestParts_ev t (l := l) s (by omega)) ?_)))
  by_cases hg : (baseOk t l && setOk t s) = true
  · rw [if_pos hg]
    obtain ⟨hb, hs⟩ := Bool.and_eq_true_iff.1 hg
    obtain ⟨_, ht, h6⟩ := baseOk_iff.1 hb
    obtain ⟨n, rfl, hn, hle, _⟩ := setOk_nat hs
    rw [Int.toNat_natCast]
    have hp := pow6 h6
    have hm := maxs_len l.length (so t l n)
    refine Ev.bind (sames (by rw [casts_length]; omega)) (ev_pos rfl (Ev.bind (BaseOk_ev t (l := l) (by omega)) (ev_pos hb (ev_bindc (SetOk_eq _ _) ?_))))
    show Ev (fun k => laws_FnGreatestParts.j0 k t l (n : Int) (casts (Cb.maxs l.length (so t l n))) (!setOk t n)) true
    rw [hs, Bool.not_true]
    refine Ev.step (fun k => rfl) (Ev.bind (impl_LeastParts_ev t l _) ?_)
    rw [if_pos hg]
    refine ev_bindc (impl_MeetsAll_eq _ _) (ev_bindc (whole_eq ht) ?_)
    by_cases e : (n : Int) = (all t : Int)
    · refine ev_pos e (ev_eq (Ev.now _) ?_)
      have e := Int.ofNat_inj.1 e
      subst e
      rw [maxs_always (so_always t l)]
      rfl
    · refine ev_neg e ?_
      rw [shl_full (by omega), meetsAll_casts h6 (fun p hp => (Cb.mem_mins.1 hp).1)]
      exact all_ev h6 _ (so_up t l n _)
  · rw [if_neg hg]
    refine Ev.bind (sames (by simp)) (ev_pos rfl (Ev.bind (BaseOk_ev t (l := l) (by omega)) ?_))
    by_cases hb : baseOk t l = true
    · refine ev_pos hb (ev_bindc (SetOk_eq _ _) ?_)
      have hs : setOk t s = false := by
        cases e : setOk t s with
        | false => rfl
        | true => exact absurd (by rw [hb, e]; rfl) hg
      show Ev (fun k => laws_FnGreatestParts.j0 k t l s [] (!setOk t s)) true
      rw [hs, Bool.not_false]
      exact Ev.step (fun k => rfl) (ev_bindc alive_eq (Ev.now _))
    · exact ev_neg hb (Ev.step (fun k => rfl) (ev_bindc alive_eq (Ev.now _)))
end Go.Proofs.Yteiehniidihmdaa.Pure
