/- Sums and greatest ones. -/
import Derived.Test.YteiehniidihmdaaPx29
import Derived.Test.YteiehniidihmdaaPx52
import Derived.Test.YteiehniidihmdaaPleast
import Derived.Test.YteiehniidihmdaaPdd
namespace Go.Proofs.Yteiehniidihmdaa.Pure
open Go.RowKit Go.Proofs.YteiehniidihmdaaW.PrintWords Go.Proofs.YteiehniidihmdaaW.PrintLast Go.Proofs.YteiehniidihmdaaW.PrintMore Go.Proofs.Yteiehniidihmdaa.P Go.Proofs.Yteiehniidihmdaa.Mt Go.Proofs.Yteiehniidihmdaa.Pl
theorem FnRegretOf : laws_FnRegretOf.Pure := by
  intro c _ _ hc
  refine Ev.rounds (g := fun k => laws_FnRegretOf.f k c) ?_
  unfold laws_FnRegretOf.f
  by_cases h : (c.length : Int) > 1048576
  · exact ev_pos h (Ev.now _)
  obtain ⟨t, l, w, hd, hl⟩ := drawDistancesOf hc
  have hd2 : Ev (fun k => spec_DrawRegretOf.f k c) (t, l, w) := Ev.bind hd (Ev.now _)
  refine ev_neg h (Ev.bind hd2 (Ev.bind (impl_RegretOf_ev t l w) (Ev.bind (spec_RegretOf_ev t (l := l) w (by omega)) (ev_pos rfl ?_))))
  have e : ((regret t l w).2 != (regret t l w).2) = false := by simp
  rw [e]
  refine Ev.step (fun k => rfl) ?_
  simp only [laws_FnRegretOf.j0]
  refine ev_neg Bool.false_ne_true ?_
  by_cases hg : mindsOk t l = true ∧ 0 ≤ w ∧ w < (wn t : Int)
  · obtain ⟨hm, h0, h1⟩ := hg
    obtain ⟨_, ht, c1, c2⟩ := mindsOk_iff.1 hm
    obtain ⟨n, rfl⟩ := Int.eq_ofNat_of_zero_le h0
    have hw : n < wn t := by omega
    have hwn := wn_le ht
    have er : ∀ i : Nat, i < wn t → regret t l (i : Int) = ((weighs t l 0 i : Int), (weighs t l 1 i : Int)) := by
      intro i hi
      unfold regret
      rw [if_pos ⟨hm, by omega, by omega⟩]
      rfl
    rw [er n hw]
    refine ev_neg (by omega) (ev_bindc (whole_eq ht) (Ev.bind (impl_MergedBy_ev t l _ 0) (ev_bindc (whole_eq ht) (Ev.bind (impl_MergedBy_ev t l _ 1) ?_))))
    rw [merged_ok hm (Nat.le_refl _) (by omega) (by omega), merged_ok hm (Nat.le_refl _) (by omega) (by omega)]
    have hA := least_256 ht (all t) (weighs t l 0)
    have hB := least_256 ht (all t) (weighs t l 1)
    have lA : ∀ i, (least (all t) (weighs t l 0) (wn t)).testBit i = true → weighs t l 0 i ≤ weighs t l 0 n := fun i hi => (least_bit.1 hi).2.2 n hw (all_bit ht hw)
    have lB : ∀ i, (least (all t) (weighs t l 1) (wn t)).testBit i = true → weighs t l 1 i ≤ weighs t l 1 n := fun i hi => (least_bit.1 hi).2.2 n hw (all_bit ht hw)
    generalize least (all t) (weighs t l 0) (wn t) = A at hA lA
    generalize least (all t) (weighs t l 1) (wn t) = B at hB lB
    have hwo : spec_WorldsOf.f t = some (wn t : Int) := by
      unfold spec_WorldsOf.f
      rw [l1In_eq, Option.bind_some, decide_eq_true ht, if_pos rfl, if_pos (by omega), wn_shl ht]
    have key : ∀ i, i ≤ wn t → Ev (fun k => laws_FnRegretOf.l0 k t l (weighs t l 0 n : Int) (weighs t l 1 n : Int) (A : Int) (B : Int) (i : Int)) true := by
      apply down
      · refine Ev.step (fun k => rfl) (ev_bindc hwo (ev_neg (by omega) ?_))
        obtain ⟨_, _, _, _, _, f1, f2, _⟩ := wgt_facts (dist_row hm hw)
        have hll : (dist t l n).length = l.length := by unfold dist; rw [List.length_map]
        rw [hll] at f2
        have g1 : weighs t l 1 n ≤ weighs t l 0 n := f1
        have g2 : weighs t l 0 n ≤ weighs t l 1 n * l.length := f2
        have g3 : weighs t l 1 n < 4 := of_decide_eq_true (four_row (p := fun r => decide (wgt 1 (srt r) < 4)) (by decide +kernel) (dist_row hm hw))
        have g4 : weighs t l 1 n * l.length ≤ 12 := by
          have := Nat.mul_le_mul (show weighs t l 1 n ≤ 3 by omega) c2
          omega
        refine ev_pos (by omega) (ev_eq (Ev.now _) ?_)
        have e5 : ((weighs t l 1 n : Int) * (l.length : Int)) = ((weighs t l 1 n * l.length : Nat) : Int) := by simp
        rw [e5, w64 (by omega) (by omega)]
        exact decide_eq_true (by omega)
      · intro i hi ih
        refine Ev.step (fun k => rfl) (ev_bindc hwo (ev_pos (by omega) (Ev.bind (impl_RegretOf_ev t l _) ?_)))
        rw [er i hi, mod_bit A i (by omega), mod_bit B i (by omega), w1 hi (by omega)]
        refine ev_pos (by omega) ?_
        have tail : Ev (fun k => if ((bi B i : Nat) : Int) = 1 then (if ((weighs t l 1 i : Nat) : Int) > ((weighs t l 1 n : Nat) : Int) then some false else laws_FnRegretOf.l0 k t l (weighs t l 0 n : Int) (weighs t l 1 n : Int) (A : Int) (B : Int) ((i + 1 : Nat) : Int)) else laws_FnRegretOf.l0 k t l (weighs t l 0 n : Int) (weighs t l 1 n : Int) (A : Int) (B : Int) ((i + 1 : Nat) : Int)) true := by
          by_cases hb : B.testBit i = true
          · have := lB i hb
            exact ev_pos (bi_one.2 hb) (ev_neg (by omega) ih)
          · exact ev_neg (fun x => hb (bi_one.1 x)) ih
        by_cases ha : A.testBit i = true
        · have := lA i ha
          exact ev_pos (bi_one.2 ha) (ev_neg (by show ¬ ((weighs t l 0 i : Nat) : Int) > ((weighs t l 0 n : Nat) : Int); omega) tail)
        · exact ev_neg (fun x => ha (bi_one.1 x)) tail
    exact key 0 (Nat.zero_le _)
  · have er : regret t l w = (-1, -1) := by unfold regret; rw [if_neg hg]
    rw [er]
    exact ev_pos (by decide) (ev_pos rfl (ev_pos rfl (ev_bindc alive_eq (Ev.now _))))
end Go.Proofs.Yteiehniidihmdaa.Pure
