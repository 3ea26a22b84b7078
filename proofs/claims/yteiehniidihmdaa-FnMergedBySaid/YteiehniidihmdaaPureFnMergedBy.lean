/- Those who agree get what they want. -/
import Derived.Test.YteiehniidihmdaaPx53
import Derived.Test.YteiehniidihmdaaPx54
import Derived.Test.YteiehniidihmdaaPnear
import Derived.Test.YteiehniidihmdaaPdraw
namespace Go.Proofs.Yteiehniidihmdaa.Pure
open Go.RowKit Go.Proofs.YteiehniidihmdaaW.PrintWords Go.Proofs.YteiehniidihmdaaW.PrintLast Go.Proofs.YteiehniidihmdaaW.PrintMore Go.Proofs.Yteiehniidihmdaa.P Go.Proofs.Yteiehniidihmdaa.Mt Go.Proofs.Yteiehniidihmdaa.Pl
theorem drawMergedBy {c : List Int} (h : ∀ x ∈ c, (Lit.int .u8 x).wf = true) : ∃ t l a m, Ev (fun k => spec_DrawMergedBy.f k c) (t, l, a, m) ∧ l.length ≤ 4 := by
  obtain ⟨b, ho, hb⟩ := open_ev h
  obtain ⟨t, l, p1, hl, _, _, q⟩ := minds_ev hb (p := 0) (by omega) (by omega) (a := 3) (by omega) (by omega) 20
  obtain ⟨a, p2, ha, _⟩ := set_ev hb (p := p1) (by omega) (by omega) t 20
  obtain ⟨x, hx, _⟩ := pick_ev hb (p := p2) (by omega) (by omega) 3
  obtain ⟨y, hy, _⟩ := pick_ev hb (p := p2 + 1) (by omega) (by omega) 20
  exact ⟨t, l, a, _, ev_bindc ho (Ev.bind hl (Ev.bind ha (Ev.bind hx (Ev.bind hy (Ev.now _))))), by omega⟩
section
variable {t : Int} {l : List Int} (hm : mindsOk t l = true) {a : Nat} (ha : a ≤ all t) {m : Int} (h0 : 0 ≤ m) (h2 : m ≤ 2) {c : List Int}
include hm ha h0 h2
theorem part3 : Ev (fun k => laws_FnMergedBy.j3 k c t l (a : Int) m (least a (weighs t l m) (wn t) : Int) false) true := by
  obtain ⟨hs, ht, c1, c2⟩ := mindsOk_iff.1 hm
  have a256 := all_lt t
  have apos : 1 ≤ all t := by rcases three ht with rfl | rfl | rfl <;> decide
  refine Ev.step (fun k => rfl) ?_
  simp only [laws_FnMergedBy.j3]
  refine ev_neg Bool.false_ne_true (ev_bindc (whole_eq ht) (ev_neg (by omega) ?_))
  have hmod : 0 ≤ (c.length : Int) % (all t : Int) ∧ (c.length : Int) % (all t : Int) < (all t : Int) := ⟨Int.emod_nonneg _ (by omega), Int.emod_lt_of_pos _ (by omega)⟩
  obtain ⟨s, es⟩ := Int.eq_ofNat_of_zero_le (show 0 ≤ 1 + (c.length : Int) % (all t : Int) by omega)
  rw [w64 (n := 1 + (c.length : Int) % (all t : Int)) (by omega) (by omega), es]
  refine ev_bindc rfl ?_
  have hs1 : s ≠ 0 := by omega
  have hs2 : s ≤ all t := by omega
  have hm1 : mindsOk t [(s : Int)] = true := mindsOk_iff.2 ⟨fun x hx => by rw [List.mem_singleton.1 hx]; exact ⟨decide_eq_true ⟨ht, by omega, by omega⟩, by omega⟩, ht, by simp, by simp⟩
  refine Ev.bind (impl_MergedBy_ev t _ _ m) (ev_bindc rfl ?_)
  rw [merged_ok hm1 ha h0 h2]
  refine ev_pos (by simp; omega) (ev_bindc rfl (ev_pos (by simp; omega) (ev_bindc rfl ?_)))
  rw [List.nil_append]
  have out : Ev (fun k => laws_FnMergedBy.j4 k t (a : Int) m (least a (weighs t l m) (wn t) : Int) (least a (weighs t [(s : Int)] m) (wn t) : Int) (l ++ [(s : Int)]) true) true := by
    refine Ev.step (fun k => rfl) ?_
    simp only [laws_FnMergedBy.j4]
    exact ev_pos (by first | rfl | trivial) (Ev.now _)
  by_cases e1 : m = 1
  · exact ev_pos e1 out
  refine ev_neg e1 ?_
  by_cases e4 : (((l ++ [(s : Int)]).length : Nat) : Int) > 4
  · exact ev_pos e4 out
  refine ev_neg e4 (Ev.bind (both_ev (b := least a (weighs t [(s : Int)] m) (wn t)) (least_256 ht _ _)) ?_)
  by_cases e0 : least a (weighs t l m) (wn t) &&& least a (weighs t [(s : Int)] m) (wn t) = 0
  · have : (((least a (weighs t l m) (wn t) &&& least a (weighs t [(s : Int)] m) (wn t) : Nat) : Int) == 0) = true := beq_iff_eq.2 (by omega)
    rw [this]
    exact out
  · have : (((least a (weighs t l m) (wn t) &&& least a (weighs t [(s : Int)] m) (wn t) : Nat) : Int) == 0) = false := beq_eq_false_iff_ne.2 (by omega)
    rw [this]
    refine Ev.step (fun k => rfl) ?_
    simp only [laws_FnMergedBy.j4]
    have hm2 : mindsOk t (l ++ [(s : Int)]) = true := mindsOk_iff.2 ⟨fun x hx => by
      rcases List.mem_append.1 hx with hx | hx
      · exact hs x hx
      · exact (mindsOk_iff.1 hm1).1 x hx, ht, by simp, by omega⟩
    refine ev_neg Bool.false_ne_true (Ev.bind (impl_MergedBy_ev t _ _ m) (Ev.bind (both_ev (b := least a (weighs t [(s : Int)] m) (wn t)) (least_256 ht _ _)) (ev_eq (Ev.now _) ?_)))
    have hmm : m = 0 ∨ m = 2 := by omega
    rw [merged_ok hm2 ha h0 h2, beq_iff_eq]
    congr 1
    rw [least_ord hm hmm, least_ord hm1 hmm] at e0 ⊢
    rw [least_ord hm2 hmm, ← least_sum e0]
    exact least_congr fun v w _ _ => by rw [dist_append, dist_append, ord_append, ord_append]
theorem part2 : Ev (fun k => laws_FnMergedBy.j2 k c t l (a : Int) m (least a (weighs t l m) (wn t) : Int) false) true := by
  obtain ⟨hs, ht, c1, c2⟩ := mindsOk_iff.1 hm
  have h3 := part3 (c := c) hm ha h0 h2
  refine Ev.step (fun k => rfl) ?_
  simp only [laws_FnMergedBy.j2]
  refine ev_neg Bool.false_ne_true ?_
  by_cases e1 : (l.length : Int) = 1
  · refine ev_pos e1 (ev_pos (by omega) ?_)
    obtain ⟨x, rfl⟩ := List.length_eq_one_iff.1 (show l.length = 1 by omega)
    obtain ⟨s, rfl, s1, s2, s3⟩ := minds_nat hm (List.mem_singleton.2 rfl)
    refine Ev.bind (nearest_ev ht s1 s3 ha) ?_
    have e : least a (weighs t [(s : Int)] m) (wn t) = least a (far t (s : Int)) (wn t) := least_congr fun v w _ _ => by rw [weighs_one h0 h2, weighs_one h0 h2]
    rw [← e]
    have : (((least a (weighs t [(s : Int)] m) (wn t) : Nat) : Int) != ((least a (weighs t [(s : Int)] m) (wn t) : Nat) : Int)) = false := by simp
    rw [this]
    exact h3
  · exact ev_neg e1 h3
theorem part1 (hc : (c.length : Int) ≤ 1048576) : Ev (fun k => laws_FnMergedBy.j1 k c t l (a : Int) m (least a (weighs t l m) (wn t) : Int) false) true := by
  obtain ⟨hs, ht, c1, c2⟩ := mindsOk_iff.1 hm
  have hp2 := part2 (c := c) hm ha h0 h2
  have a256 := all_lt t
  have M256 := least_256 ht a (weighs t l m)
  refine Ev.step (fun k => rfl) ?_
  simp only [laws_FnMergedBy.j1]
  refine ev_neg Bool.false_ne_true (ev_bindc (whole_eq ht) ?_)
  rw [w64 (n := (all t : Int) + 1) (by omega) (by omega), w64 (n := (c.length : Int) * 37) (by omega) (by omega)]
  refine ev_neg (by omega) ?_
  obtain ⟨x, hx⟩ := Int.eq_ofNat_of_zero_le (show 0 ≤ Int.tmod ((c.length : Int) * 37) ((all t : Int) + 1) from Int.tmod_nonneg _ (by omega))
  rw [hx]
  have hB : a &&& x ≤ all t := Nat.le_trans Nat.and_le_left ha
  have hsub : Cb.Sub (a &&& x) a := and_sub_left _ _
  refine Ev.bind (both_ev (b := x) (show a < 256 by omega)) ?_
  generalize a &&& x = B at hB hsub
  refine Ev.bind (both_ev (b := B) M256) ?_
  by_cases e : least a (weighs t l m) (wn t) &&& B = 0
  · exact ev_pos (by omega) hp2
  · refine ev_neg (by omega) (Ev.bind (impl_MergedBy_ev t l _ m) (Ev.bind (both_ev (b := B) M256) ?_))
    rw [merged_ok hm hB h0 h2, least_less hsub e]
    have : (((least a (weighs t l m) (wn t) &&& B : Nat) : Int) != ((least a (weighs t l m) (wn t) &&& B : Nat) : Int)) = false := by simp
    rw [this]
    exact hp2
end
theorem FnMergedBy : laws_FnMergedBy.Pure := by
  intro c c2 _ _ hc _ _ _
  refine Ev.rounds (g := fun k => laws_FnMergedBy.f k c c2) ?_
  unfold laws_FnMergedBy.f
  have out : Ev (fun k => laws_FnMergedBy.j0 k c c2 true) true := by
    refine Ev.step (fun k => rfl) ?_
    simp only [laws_FnMergedBy.j0]
    exact ev_pos (by first | rfl | trivial) (Ev.now _)
  by_cases h : (c.length : Int) > 1048576
  · exact ev_pos h out
  refine ev_neg h ?_
  by_cases h' : (c2.length : Int) > 1048576
  · rw [decide_eq_true h']
    exact out
  rw [decide_eq_false h']
  obtain ⟨t, l, a, m, hd, hl⟩ := drawMergedBy hc
  refine Ev.step (fun k => rfl) ?_
  simp only [laws_FnMergedBy.j0]
  refine ev_neg Bool.false_ne_true (Ev.bind hd (Ev.bind (impl_MergedBy_ev t l a m) (Ev.bind (spec_MergedBy_ev t (l := l) a m (by omega)) (ev_pos rfl ?_))))
  by_cases hg : mindsOk t l = true ∧ setOk t a = true ∧ 0 ≤ m ∧ m ≤ 2
  · obtain ⟨hm, hs, h0, h2⟩ := hg
    obtain ⟨n, rfl, hn, hle, ht⟩ := setOk_nat hs
    rw [merged_ok hm hle h0 h2]
    have M256 := least_256 ht n (weighs t l m)
    have G256 : agree (all t) l < 256 := agree_lt l (all_lt t)
    have hz := least_zero (a := n) (f := weighs t l m) (n := wn t) (Nat.lt_of_le_of_lt hle (all_lt_wn ht))
    refine ev_neg (by omega) (Ev.bind (impl_AgreeOn_ev t (l := l) (by omega)) ?_)
    rw [if_pos hm]
    refine Ev.bind (both_ev (b := n) G256) (Ev.bind (within_ev (b := n) M256) (ev_pos (decide_eq_true (least_sub _ _ _)) (ev_neg ?_ ?_)))
    · have : (((least n (weighs t l m) (wn t) : Nat) : Int) == 0) = (((n : Nat) : Int) == 0) := by
        rw [Bool.eq_iff_iff, beq_iff_eq, beq_iff_eq]
        omega
      rw [this]
      simp
    · have p1 := part1 (c := c2) hm hle h0 h2 (by omega)
      by_cases e : agree (all t) l &&& n = 0
      · exact ev_pos (by omega) p1
      · refine ev_neg (by omega) ?_
        have e2 := least_agree hm h0 h2 hle e
        have : (((least n (weighs t l m) (wn t) : Nat) : Int) != ((agree (all t) l &&& n : Nat) : Int)) = false := by rw [e2]; simp
        rw [this]
        exact p1
  · have e : merged t l a m = -1 := by unfold merged; rw [if_neg hg]
    rw [e]
    exact ev_pos (by decide) (ev_pos rfl (ev_bindc alive_eq (Ev.now _)))
end Go.Proofs.Yteiehniidihmdaa.Pure
