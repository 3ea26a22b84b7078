/- What is in no least part is sure. -/
import Derived.Test.YteiehniidihmdaaPx47
import Derived.Test.YteiehniidihmdaaPfam
import Derived.Test.YteiehniidihmdaaPdraw
namespace Go.Proofs.Yteiehniidihmdaa.Pure
open Go.RowKit Go.Proofs.YteiehniidihmdaaW.PrintWords Go.Proofs.YteiehniidihmdaaW.PrintLast Go.Proofs.YteiehniidihmdaaW.PrintMore Go.Proofs.Yteiehniidihmdaa.P Go.Proofs.Yteiehniidihmdaa.Mt Go.Proofs.Yteiehniidihmdaa.Pl
theorem drawSureParts {c : List Int} (h : ∀ x ∈ c, (Lit.int .u8 x).wf = true) : ∃ t l s, Ev (fun k => spec_DrawSureParts.f k c) (t, l, s) ∧ l.length ≤ 7 := by
  obtain ⟨b, ho, hb⟩ := open_ev h
  obtain ⟨t, l, s, p', hl, _, _, q⟩ := given_ev hb (p := 0) (by omega) (by omega)
  exact ⟨t, l, s, ev_bindc ho (Ev.bind hl (Ev.now _)), q⟩
theorem bits_ev {t : Int} {l : List Int} (hb : baseOk t l = true) {s : Nat} (hs : s ≤ all t) (ne : s ≠ all t) :
    Ev (fun k => laws_FnSureParts.l0 k t l (s : Int) ((common (2 ^ l.length - 1) (Cb.maxs l.length (so t l s)) : Nat) : Int) (casts (Cb.mins l.length (so t l s))) 0) true := by
  obtain ⟨_, ht, h6⟩ := baseOk_iff.1 hb
  have hp := pow6 h6
  have hm := mins_len l.length (so t l s)
  have up := so_up t l s l.length
  have hv := common_lt (n := l.length) (Cb.maxs l.length (so t l s))
  have bit : ∀ i, i < l.length → ((common (2 ^ l.length - 1) (Cb.maxs l.length (so t l s))).testBit i = true ↔ ∀ p, p ∈ Cb.mins l.length (so t l s) → p.testBit i = false) := by
    intro i hi
    rw [← Cb.sure_bit up hi]
    constructor
    · exact fun h g hg => common_mem _ _ g hg i h
    · exact fun h => common_bit _ _ i (full_bit hi) h
  have not : so t l s (common (2 ^ l.length - 1) (Cb.maxs l.length (so t l s))) = false := by
    cases e : so t l s (common (2 ^ l.length - 1) (Cb.maxs l.length (so t l s))) with
    | false => rfl
    | true =>
      obtain ⟨g, hg, _⟩ := Cb.exists_max (n := l.length) (so := so t l s) (x := 0) (Nat.two_pow_pos _) (so_zero ht hs ne)
      have := up _ g (Cb.mem_maxs.1 hg).1 (common_mem _ _ g hg) e
      rw [(Cb.mem_maxs.1 hg).2.1] at this
      cases this
  generalize common (2 ^ l.length - 1) (Cb.maxs l.length (so t l s)) = v at hv bit not
  have key : ∀ i, i ≤ l.length → Ev (fun k => laws_FnSureParts.l0 k t l (s : Int) (v : Int) (casts (Cb.mins l.length (so t l s))) (i : Int)) true := by
    apply down
    · refine Ev.step (fun k => rfl) (ev_neg (by omega) (Ev.bind (impl_PartWorlds_ev t l _) ?_))
      have e : partW t l (v : Int) = ((worlds t l v : Nat) : Int) := by unfold partW; rw [if_pos ⟨hb, by omega, by omega⟩]; rfl
      rw [e]
      refine Ev.bind (within_ev (worlds_lt _ _ _)) (ev_eq (Ev.now _) ?_)
      have : decide (worlds t l v &&& s = worlds t l v) = false := not
      rw [this]
      rfl
    · intro i hi ih
      have inner : ∀ j, j ≤ (Cb.mins l.length (so t l s)).length → ∀ b : Bool, b = ((Cb.mins l.length (so t l s)).take j).any (fun p => p.testBit i) →
          Ev (fun k => laws_FnSureParts.l1 k t l (s : Int) (v : Int) (casts (Cb.mins l.length (so t l s))) (i : Int) b (j : Int)) true := by
        apply down
        · intro b hbb
          rw [List.take_length] at hbb
          refine Ev.step (fun k => rfl) (ev_neg (by rw [casts_length]; omega) (ev_pos (by omega) (ev_neg ?_ ?_)))
          · rw [mod_bit v i (by omega), beq_iff_eq]
            intro e
            have h1 : ((((bi v i : Nat) : Int) == 1) = true) ↔ v.testBit i = true := by rw [beq_iff_eq]; exact bi_one
            rw [← e, bit i hi, hbb, List.any_eq_true] at h1
            by_cases hx : ∃ x, x ∈ Cb.mins l.length (so t l s) ∧ x.testBit i = true
            · obtain ⟨x, hx1, hx2⟩ := hx
              have := h1.1 ⟨x, hx1, hx2⟩ x hx1
              rw [hx2] at this
              cases this
            · refine hx (h1.2 fun p hp => ?_)
              cases e2 : p.testBit i with
              | false => rfl
              | true => exact absurd ⟨p, hp, e2⟩ hx
          · rw [w1 hi (by omega)]
            exact ih
        · intro j hj ih2 b hbb
          refine Ev.step (fun k => rfl) (ev_pos (by rw [casts_length]; omega) ?_)
          rw [w1 hj (by omega)]
          have step : ((Cb.mins l.length (so t l s)).take (j + 1)).any (fun p => p.testBit i) = (b || ((Cb.mins l.length (so t l s))[j]).testBit i) := by
            rw [List.take_succ_eq_append_getElem hj, List.any_append, hbb]
            simp
          by_cases hb1 : b = true
          · refine ev_pos hb1 (ih2 true ?_)
            rw [step, hb1]
            rfl
          · refine ev_neg hb1 (ev_pos (by omega) (ev_pos (by omega) ?_))
            rw [rd_casts hj, mod_bit _ i (by omega)]
            refine ih2 _ ?_
            rw [step, Bool.eq_false_iff.2 hb1, Bool.false_or, Bool.eq_iff_iff, beq_iff_eq]
            exact bi_one
      refine Ev.step (fun k => rfl) (ev_pos (by omega) ?_)
      exact inner 0 (Nat.zero_le _) false (by simp)
  exact key 0 (Nat.zero_le _)
theorem FnSureParts : laws_FnSureParts.Pure := by
  intro c _ _ hc
  refine Ev.rounds (g := fun k => laws_FnSureParts.f k c) ?_
  unfold laws_FnSureParts.f
  by_cases h : (c.length : Int) > 1048576
  · exact ev_pos h (Ev.now _)
  obtain ⟨t, l, s, hd, hl⟩ := drawSureParts hc
  refine ev_neg h (Ev.bind hd (Ev.bind (impl_SureParts_ev t l s) (Ev.bind (spec_SureParts_ev t (l := l) s (by omega)) (ev_pos rfl ?_))))
  by_cases hg : (baseOk t l && setOk t s) = true
  · obtain ⟨hb, hs⟩ := Bool.and_eq_true_iff.1 hg
    obtain ⟨_, ht, h6⟩ := baseOk_iff.1 hb
    obtain ⟨n, rfl, hn, hle, _⟩ := setOk_nat hs
    have e1 : sure t l (n : Int) = ((common (2 ^ l.length - 1) (Cb.maxs l.length (so t l n)) : Nat) : Int) := by unfold sure; rw [if_pos hg]; rfl
    rw [e1]
    refine ev_neg (by omega) (ev_bindc (whole_eq ht) ?_)
    by_cases e : (n : Int) = (all t : Int)
    · refine ev_pos e (ev_eq (Ev.now _) ?_)
      have e := Int.ofNat_inj.1 e
      subst e
      rw [maxs_always (so_always t l), shl_full (by omega)]
      exact beq_self_eq_true _
    · refine ev_neg e (Ev.bind (impl_LeastParts_ev t l _) ?_)
      rw [if_pos hg]
      exact bits_ev hb hle (fun e2 => e (by rw [e2]))
  · have e1 : sure t l s = -1 := by unfold sure; rw [if_neg hg]
    rw [e1]
    exact ev_pos (by omega) (ev_pos rfl (ev_bindc alive_eq (Ev.now _)))
end Go.Proofs.Yteiehniidihmdaa.Pure
