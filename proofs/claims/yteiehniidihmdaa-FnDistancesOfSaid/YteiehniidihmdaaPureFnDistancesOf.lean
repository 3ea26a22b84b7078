/- In the other order the distances are the same; all are 0 exactly in the worlds of all. -/
import Derived.Test.YteiehniidihmdaaPx50
import Derived.Test.YteiehniidihmdaaPmerge
import Derived.Test.YteiehniidihmdaaPdd
import Derived.Test.YteiehniidihmdaaPmono
import Derived.Test.YteiehniidihmdaaPsame
namespace Go.Proofs.Yteiehniidihmdaa.Pure
open Go.RowKit Go.Proofs.YteiehniidihmdaaW.PrintWords Go.Proofs.YteiehniidihmdaaW.PrintLast Go.Proofs.YteiehniidihmdaaW.PrintMore Go.Proofs.Yteiehniidihmdaa.P Go.Proofs.Yteiehniidihmdaa.Mt Go.Proofs.Yteiehniidihmdaa.Pl
theorem turned {l : List Nat} (h : Row l) : srt l.reverse = srt l := by
  have := four_row (p := fun r => decide (srt r.reverse = srt r)) (by decide +kernel) h
  exact of_decide_eq_true this
theorem zero_iff {l : List Nat} (h : Row l) : rd (casts (srt l)) 0 = 0 ↔ ∀ x, x ∈ l → x = 0 := by
  have := four_row (p := fun r => decide (rd (casts (srt r)) 0 = 0) == r.all (fun x => decide (x = 0))) (by decide +kernel) h
  have := eq_of_beq this
  rw [Bool.eq_iff_iff, decide_eq_true_iff, List.all_eq_true] at this
  rw [this]
  exact ⟨fun k x hx => of_decide_eq_true (k x hx), fun k x hx => decide_eq_true (k x hx)⟩
theorem agree_bit {w : Nat} : ∀ (l : List Int) (a : Nat), (agree a l).testBit w = true ↔ a.testBit w = true ∧ ∀ s, s ∈ l → s.toNat.testBit w = true
  | [], a => by simp [agree]
  | s :: r, a => by
    show (agree (a &&& s.toNat) r).testBit w = true ↔ _
    rw [agree_bit r, Nat.testBit_and, Bool.and_eq_true]
    simp only [List.mem_cons, forall_eq_or_imp]
    exact ⟨fun h => ⟨h.1.1, h.1.2, h.2⟩, fun h => ⟨⟨h.1, h.2.1⟩, h.2.2⟩⟩
theorem all_bit {t : Int} (ht : 1 ≤ t ∧ t ≤ 3) {w : Nat} (hw : w < wn t) : (all t).testBit w = true := by
  have : (List.range (wn t)).all (fun w => (all t).testBit w) = true := by rcases three ht with rfl | rfl | rfl <;> decide +kernel
  exact List.all_eq_true.1 this w (List.mem_range.2 hw)
theorem FnDistancesOf : laws_FnDistancesOf.Pure := by
  intro c _ _ hc
  refine Ev.rounds (g := fun k => laws_FnDistancesOf.f k c) ?_
  unfold laws_FnDistancesOf.f
  by_cases h : (c.length : Int) > 1048576
  · exact ev_pos h (Ev.now _)
  obtain ⟨t, l, w, hd, hl⟩ := drawDistancesOf hc
  have hrl := rowOf_len t l w
  refine ev_neg h (Ev.bind hd (Ev.bind (impl_DistancesOf_ev t l w) (Ev.bind (spec_DistancesOf_ev t (l := l) w (by omega)) (Ev.bind (sames (by omega)) (ev_pos rfl ?_)))))
  by_cases hg : mindsOk t l = true ∧ 0 ≤ w ∧ w < (wn t : Int)
  · obtain ⟨hm, h0, h1⟩ := hg
    obtain ⟨ha, ht, c1, c2⟩ := mindsOk_iff.1 hm
    obtain ⟨n, rfl⟩ := Int.eq_ofNat_of_zero_le h0
    have hw : n < wn t := by omega
    have hr := dist_row hm hw
    have hwn := wn_le ht
    have er : rowOf t l (n : Int) = casts (srt (dist t l n)) := by unfold rowOf; rw [if_pos ⟨hm, h0, h1⟩]; rfl
    have hm' : mindsOk t l.reverse = true := mindsOk_iff.2 ⟨fun s hs => ha s (List.mem_reverse.1 hs), ht, by rw [List.length_reverse]; exact c1, by rw [List.length_reverse]; exact c2⟩
    have er' : rowOf t l.reverse (n : Int) = casts (srt (dist t l n)) := by
      unfold rowOf
      rw [if_pos ⟨hm', h0, h1⟩, ← turned hr]
      unfold dist
      rw [List.map_reverse]
      rfl
    rw [er]
    refine ev_neg (srt_ne hr) ?_
    have key : ∀ d i, d + i = l.length → Ev (fun k => laws_FnDistancesOf.l0 k t l (n : Int) (casts (srt (dist t l n))) ((l.drop i).reverse) ((i : Int) - 1)) true := by
      intro d i
      induction i generalizing d with
      | zero =>
        intro _
        refine Ev.step (fun k => rfl) (ev_neg (by omega) ?_)
        rw [List.drop_zero]
        refine Ev.bind (impl_DistancesOf_ev t l.reverse _) ?_
        rw [er']
        refine Ev.bind (sames (by rw [casts_length, (wgt_facts hr).2.2.2.2.1]; have := hr.2.1; omega)) (ev_pos rfl (ev_pos ?_ (Ev.bind (impl_AgreeOn_ev t (l := l) (by omega)) ?_)))
        · have := srt_ne hr
          omega
        · rw [if_pos hm]
          refine ev_pos h0 (ev_eq (Ev.now _) ?_)
          rw [mod_bit _ n (by omega)]
          refine beq_iff_eq.2 ?_
          rw [Bool.eq_iff_iff, beq_iff_eq, beq_iff_eq, zero_iff hr, bi_one, agree_bit]
          constructor
          · intro hx
            refine ⟨all_bit ht hw, fun s hs => (far_lt hm hs hw).2.2.1 (hx _ (List.mem_map.2 ⟨s, hs, rfl⟩))⟩
          · rintro ⟨_, hx⟩ x hx2
            obtain ⟨s, hs, rfl⟩ := List.mem_map.1 hx2
            exact (far_lt hm hs hw).2.2.2 (hx s hs)
      | succ i ih =>
        intro hd2
        have hi : i < l.length := by omega
        have e : (((i + 1 : Nat) : Int) - 1) = (i : Int) := by omega
        rw [e]
        refine Ev.step (fun k => rfl) (ev_pos (by omega) (ev_pos (by omega) (ev_pos (by omega) (ev_pos (by rw [List.length_reverse, List.length_drop]; omega) ?_))))
        have e2 : (l.drop (i + 1)).reverse ++ [rd l (i : Int)] = (l.drop i).reverse := by
          rw [List.drop_eq_getElem_cons hi, List.reverse_cons, rd_at hi]
        rw [e2, w64 (by omega) (by omega)]
        exact ih (d + 1) (by omega)
    have := key 0 l.length (by omega)
    rw [List.drop_length] at this
    show Ev (fun k => laws_FnDistancesOf.l0 k t l (n : Int) (casts (srt (dist t l n))) [] (wrap64 ((l.length : Int) - 1))) true
    rw [w64 (by omega) (by omega)]
    exact this
  · have er : rowOf t l w = [] := by unfold rowOf; rw [if_neg hg]
    rw [er]
    exact ev_pos rfl (ev_bindc alive_eq (Ev.now _))
end Go.Proofs.Yteiehniidihmdaa.Pure
