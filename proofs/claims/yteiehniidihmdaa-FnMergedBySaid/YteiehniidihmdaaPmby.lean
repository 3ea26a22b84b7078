/- Merging: both the reference and the program find the worlds that weigh least. -/
import Derived.Test.YteiehniidihmdaaPx22
import Derived.Test.YteiehniidihmdaaPx30
import Derived.Test.YteiehniidihmdaaPmerge
namespace Go.Proofs.Yteiehniidihmdaa.Pl
open Go.RowKit Go.Proofs.YteiehniidihmdaaW.PrintWords Go.Proofs.YteiehniidihmdaaW.PrintLast Go.Proofs.YteiehniidihmdaaW.PrintMore Go.Proofs.Yteiehniidihmdaa.P Go.Proofs.Yteiehniidihmdaa.Mt

/-! ### rows are compared as their weights are -/
def rowm (m : Int) (r : List Nat) : List Nat := if m = 0 then [r.sum] else if m = 1 then r.take 1 else r
def srows (n : Nat) : List (List Nat) := (rows n).filter fun r => decide (srt r = r)
def cmpOk (m : Int) (r r' : List Nat) : Bool := match slices_Compare_int_int.f 20 (casts (rowm m r)) (casts (rowm m r')) with
  | some c => (decide (c < 0) == decide (wgt m r < wgt m r')) && (decide (c = 0) == decide (wgt m r = wgt m r'))
  | none => false
def cmpAll (n : Nat) : Bool := (srows n).all fun r => (srows n).all fun r' => cmpOk 0 r r' && cmpOk 1 r r' && cmpOk 2 r r'
theorem cmp1 : cmpAll 1 = true := by decide +kernel
theorem cmp2 : cmpAll 2 = true := by decide +kernel
theorem cmp3 : cmpAll 3 = true := by decide +kernel
theorem cmp4 : cmpAll 4 = true := by decide +kernel
theorem srt_srows {l : List Nat} (h : Row l) : srt l ∈ srows l.length := by
  obtain ⟨_, _, _, f, g, _, _, k⟩ := wgt_facts h
  rw [← g]
  exact List.mem_filter.2 ⟨rows_mem _ k.2.2, decide_eq_true f⟩
theorem cmp_row {m : Int} (h0 : 0 ≤ m) (h2 : m ≤ 2) {l l' : List Nat} (h : Row l) (h' : Row l') (e : l.length = l'.length) : cmpOk m (srt l) (srt l') = true := by
  have hs := srt_srows h
  have hs' := srt_srows h'
  rw [← e] at hs'
  obtain ⟨a, b, _⟩ := h
  have key : cmpAll l.length = true := by
    have : l.length = 1 ∨ l.length = 2 ∨ l.length = 3 ∨ l.length = 4 := by omega
    rcases this with e | e | e | e <;> rw [e]
    · exact cmp1
    · exact cmp2
    · exact cmp3
    · exact cmp4
  have := List.all_eq_true.1 (List.all_eq_true.1 key _ hs) _ hs'
  simp only [Bool.and_eq_true] at this
  have hm : m = 0 ∨ m = 1 ∨ m = 2 := by omega
  rcases hm with rfl | rfl | rfl
  · exact this.1.1
  · exact this.1.2
  · exact this.2
theorem compare_ev {m : Int} (h0 : 0 ≤ m) (h2 : m ≤ 2) {l l' : List Nat} (h : Row l) (h' : Row l') (e : l.length = l'.length) :
    ∃ c : Int, Ev (fun k => slices_Compare_int_int.f k (casts (rowm m (srt l))) (casts (rowm m (srt l')))) c ∧ (c < 0 ↔ wgt m (srt l) < wgt m (srt l')) ∧ (c = 0 ↔ wgt m (srt l) = wgt m (srt l')) := by
  have := cmp_row h0 h2 h h' e
  unfold cmpOk at this
  cases hc : slices_Compare_int_int.f 20 (casts (rowm m (srt l))) (casts (rowm m (srt l'))) with
  | none => rw [hc] at this; cases this
  | some c =>
    rw [hc] at this
    simp only [Bool.and_eq_true, beq_iff_eq] at this
    exact ⟨c, Ev.of (fun k => slices_Compare_int_int.mono _ _ k) hc, decide_eq_decide.1 this.1, decide_eq_decide.1 this.2⟩
def nilOk (l : List Nat) : Bool := let r := srt l
  decide (slices_Compare_int_int.f 20 (casts (rowm 0 r)) [] = some 1) && decide (slices_Compare_int_int.f 20 (casts (rowm 1 r)) [] = some 1) && decide (slices_Compare_int_int.f 20 (casts (rowm 2 r)) [] = some 1)
theorem nil4 : four nilOk = true := by decide +kernel
theorem compare_nil {m : Int} (h0 : 0 ≤ m) (h2 : m ≤ 2) {l : List Nat} (h : Row l) : Ev (fun k => slices_Compare_int_int.f k (casts (rowm m (srt l))) []) 1 := by
  have := four_row nil4 h
  unfold nilOk at this
  simp only [Bool.and_eq_true, decide_eq_true_eq] at this
  have hm : m = 0 ∨ m = 1 ∨ m = 2 := by omega
  rcases hm with rfl | rfl | rfl
  · exact Ev.of (fun k => slices_Compare_int_int.mono _ _ k) this.1.1
  · exact Ev.of (fun k => slices_Compare_int_int.mono _ _ k) this.1.2
  · exact Ev.of (fun k => slices_Compare_int_int.mono _ _ k) this.2

/-! ### the loops -/
def merged (t : Int) (l : List Int) (a m : Int) : Int := if mindsOk t l = true ∧ setOk t a = true ∧ 0 ≤ m ∧ m ≤ 2 then (least a.toNat (weighs t l m) (wn t) : Int) else -1
theorem run_off {a : Nat} {f : Nat → Nat} {i : Nat} (h : a.testBit i = false) : run a f (i + 1) = run a f i := by
  show (if a.testBit i = true then _ else _) = _
  rw [h, if_neg (by decide)]
theorem run_on {a : Nat} {f : Nat → Nat} {i : Nat} (h : a.testBit i = true) : run a f (i + 1) = (match (run a f i).1 with
    | none => (some i, 2 ^ i)
    | some b => if f i < f b then (some i, 2 ^ i) else if f i = f b then (some b, (run a f i).2 + 2 ^ i) else (some b, (run a f i).2)) := if_pos h
theorem run_none {a : Nat} {f : Nat → Nat} {i : Nat} (h : (run a f i).1 = none) : (run a f i).2 = 0 := by
  have := (run_best a f i).2
  rw [h] at this
  exact this.1
theorem run_pos {a : Nat} {f : Nat → Nat} {i b : Nat} (h : (run a f i).1 = some b) : (run a f i).2 ≠ 0 ∧ b < i := by
  have := (run_best a f i).2
  rw [h] at this
  obtain ⟨k1, k2, k3, k4⟩ := this
  have := (k4 b).2 ⟨k1, k2, rfl⟩
  exact ⟨fun z => (by rw [z] at this; simp at this), k1⟩
theorem pow8 {i n : Nat} (h : i < n) (hn : n ≤ 8) : 2 ^ i ≤ 128 := by
  have : 2 ^ i ≤ 2 ^ 7 := Nat.pow_le_pow_right (by decide) (by omega)
  omega
def enc (f : Nat → Nat) : Option Nat → Int
  | none => -1
  | some b => (f b : Int)
theorem spec_loop {t : Int} {l : List Int} (h : mindsOk t l = true) {m : Int} (h0 : 0 ≤ m) (h2 : m ≤ 2) (a : Nat) (_ : a < 256) : ∀ i, i ≤ wn t →
    Ev (fun k => spec_MergedBy.l0 k t l (a : Int) m (enc (weighs t l m) (run a (weighs t l m) i).1) ((run a (weighs t l m) i).2 : Int) (i : Int)) (least a (weighs t l m) (wn t) : Int) := by
  obtain ⟨_, ht, c1, c2⟩ := mindsOk_iff.1 h
  have hwn := wn_le ht
  apply down
  · refine Ev.step (fun k => rfl) (ev_pos (by omega) ?_)
    rw [wn_shl ht]
    exact ev_neg (by omega) (Ev.now _)
  · intro i hi ih
    have hrow := dist_row h hi
    have hb := (run_best a (weighs t l m) i).1
    have p8 := pow8 hi hwn.2
    have one : wrap64 (0 + shl .i64 1 (i : Int)) = ((2 ^ i : Nat) : Int) := by rw [shl1 i (by omega), w64 (by omega) (by omega)]; omega
    refine Ev.step (fun k => rfl) (ev_pos (by omega) ?_)
    rw [wn_shl ht]
    refine ev_pos (by omega) (ev_bindc (l1Bit_eq a i (by omega)) ?_)
    rw [w1 hi (by omega)]
    by_cases hon : a.testBit i = true
    · refine ev_neg (fun e => by rw [bi_zero.1 e] at hon; cases hon) ?_
      have hd := spec_DistancesOf_ev t (l := l) (i : Int) (by omega)
      have er : rowOf t l (i : Int) = casts (srt (dist t l i)) := by unfold rowOf; rw [if_pos ⟨h, by omega, by omega⟩]; rfl
      rw [er] at hd
      refine Ev.bind hd (Ev.bind (weight_ev hrow h0 h2) ?_)
      have hr := run_on (f := weighs t l m) hon
      have fresh : run a (weighs t l m) (i + 1) = (some i, 2 ^ i) → ∀ x9 x10 : Int, Ev (fun k => spec_MergedBy.j2 k t l (a : Int) m x9 x10 (i : Int) (wgt m (srt (dist t l i)) : Int) true) (least a (weighs t l m) (wn t) : Int) := by
        intro e x9 x10
        rw [e] at ih
        refine Ev.step (fun k => rfl) ?_
        simp only [spec_MergedBy.j2]
        refine ev_pos trivial (ev_pos trivial (ev_pos (by omega) ?_))
        rw [one, w1 hi (by omega)]
        exact ih
      cases hbst : (run a (weighs t l m) i).1 with
      | none =>
        rw [hbst] at hr
        exact ev_pos (show (-1 : Int) < 0 by decide) (fresh hr _ _)
      | some b =>
        rw [hbst] at hr
        refine ev_neg (by show ¬ ((weighs t l m b : Nat) : Int) < 0; omega) ?_
        show Ev (fun k => spec_MergedBy.j2 k t l (a : Int) m (weighs t l m b : Int) ((run a (weighs t l m) i).2 : Int) (i : Int) (weighs t l m i : Int) (decide ((weighs t l m i : Int) < (weighs t l m b : Int)))) _
        by_cases c1 : weighs t l m i < weighs t l m b
        · rw [decide_eq_true (show (weighs t l m i : Int) < (weighs t l m b : Int) by omega)]
          simp only [if_pos c1] at hr
          exact fresh hr _ _
        · rw [decide_eq_false (show ¬ (weighs t l m i : Int) < (weighs t l m b : Int) by omega)]
          simp only [if_neg c1] at hr
          refine Ev.step (fun k => rfl) ?_
          simp only [spec_MergedBy.j2]
          refine ev_ff ?_
          by_cases c2 : weighs t l m i = weighs t l m b
          · simp only [if_pos c2] at hr
            refine ev_pos (by omega) (ev_pos (by omega) ?_)
            rw [shl1 i (by omega), w64 (n := ((run a (weighs t l m) i).2 : Int) + ((2 ^ i : Nat) : Int)) (by omega) (by omega), w1 hi (by omega)]
            rw [hr] at ih
            have e : ((run a (weighs t l m) i).2 : Int) + ((2 ^ i : Nat) : Int) = (((run a (weighs t l m) i).2 + 2 ^ i : Nat) : Int) := by omega
            rw [e]
            exact ih
          · simp only [if_neg c2] at hr
            refine ev_neg (by omega) ?_
            rw [w1 hi (by omega)]
            rw [hr] at ih
            exact ih
    · have hoff := Bool.eq_false_iff.2 hon
      rw [run_off hoff] at ih
      exact ev_pos (bi_zero.2 hoff) ih
theorem spec_MergedBy_ev (t : Int) {l : List Int} (a m : Int) (hn : l.length ≤ 9223372036854775807) : Ev (fun k => spec_MergedBy.f k t l a m) (merged t l a m) := by
  unfold spec_MergedBy.f merged
  refine Ev.bind (MindsOk_ev t hn) ?_
  by_cases h : mindsOk t l = true
  · refine ev_pos h (ev_bindc (SetOk_eq t a) ?_)
    by_cases hs : setOk t a = true
    · refine ev_pos hs (ev_bindc (l1In_eq _ _ _) ?_)
      by_cases hm : 0 ≤ m ∧ m ≤ 2
      · rw [if_pos ⟨h, hs, hm⟩, decide_eq_true hm]
        obtain ⟨n, rfl, h1, _⟩ := setOk_nat hs
        refine Ev.step (fun k => rfl) ?_
        simp only [spec_MergedBy.j0]
        exact ev_neg (by decide) (spec_loop h hm.1 hm.2 n h1 0 (Nat.zero_le _))
      · rw [if_neg (fun x => hm x.2.2), decide_eq_false hm]
        exact Ev.step (fun k => rfl) (Ev.now _)
    · rw [if_neg (fun x => hs x.2.1)]
      exact ev_neg hs (Ev.step (fun k => rfl) (Ev.now _))
  · rw [if_neg (fun x => h x.1)]
    exact ev_neg h (Ev.step (fun k => rfl) (Ev.now _))
def encRow (t : Int) (l : List Int) (m : Int) : Option Nat → List Int
  | none => []
  | some b => casts (rowm m (srt (dist t l b)))
theorem impl_loop {t : Int} {l : List Int} (h : mindsOk t l = true) {m : Int} (h0 : 0 ≤ m) (h2 : m ≤ 2) (a : Nat) (ha : a < 256) : ∀ i, i ≤ wn t →
    Ev (fun k => impl_MergedBy.l0 k t l (a : Int) m ((run a (weighs t l m) i).2 : Int) (encRow t l m (run a (weighs t l m) i).1) (wn t : Int) (i : Int)) (least a (weighs t l m) (wn t) : Int) := by
  obtain ⟨_, ht, c1, c2⟩ := mindsOk_iff.1 h
  have hwn := wn_le ht
  apply down
  · exact Ev.step (fun k => rfl) (ev_neg (by omega) (Ev.now _))
  · intro i hi ih
    have hrow := dist_row h hi
    have hb := (run_best a (weighs t l m) i).1
    have p8 := pow8 hi hwn.2
    refine Ev.step (fun k => rfl) (ev_pos (by omega) (ev_pos (by omega) ?_))
    rw [and_bit a i (by omega) (by omega)]
    by_cases hon : a.testBit i = true
    · refine ev_neg (fun e => by rw [bi_zero.1 e] at hon; cases hon) (Ev.bind (distancesOf_ev h hi) ?_)
      have hr := run_on (f := weighs t l m) hon
      have fresh : run a (weighs t l m) (i + 1) = (some i, 2 ^ i) → ∀ (x9 : Int) (x10 : List Int) (c : Int), Ev (fun k => impl_MergedBy.j3 k t l (a : Int) m x9 x10 (i : Int) (casts (rowm m (srt (dist t l i)))) c (wn t : Int) (i : Int) true) (least a (weighs t l m) (wn t) : Int) := by
        intro e x9 x10 c
        rw [e] at ih
        refine Ev.step (fun k => rfl) ?_
        simp only [impl_MergedBy.j3]
        refine ev_pos trivial (ev_pos (by omega) ?_)
        rw [shl1 i (by omega), w1 hi (by omega)]
        exact ih
      have next : Ev (fun k => impl_MergedBy.j2 k t l (a : Int) m ((run a (weighs t l m) i).2 : Int) (encRow t l m (run a (weighs t l m) i).1) (i : Int) (casts (rowm m (srt (dist t l i)))) (wn t : Int) (i : Int)) (least a (weighs t l m) (wn t) : Int) := by
        cases hbst : (run a (weighs t l m) i).1 with
        | none =>
          rw [hbst] at hr
          have z := run_none hbst
          rw [z]
          exact Ev.step (fun k => rfl) (Ev.bind (compare_nil h0 h2 hrow) (ev_pos rfl (fresh hr _ _ _)))
        | some b =>
          rw [hbst] at hr
          obtain ⟨nz, hbi⟩ := run_pos hbst
          have hrowb := dist_row h (w := b) (by omega)
          obtain ⟨c, hc, hc1, hc2⟩ := compare_ev h0 h2 hrow hrowb (by unfold dist; rw [List.length_map, List.length_map])
          refine Ev.step (fun k => rfl) (Ev.bind hc (ev_neg (by omega) ?_))
          by_cases c1 : weighs t l m i < weighs t l m b
          · rw [decide_eq_true (hc1.2 c1)]
            simp only [if_pos c1] at hr
            exact fresh hr _ _ _
          · rw [decide_eq_false (fun x => c1 (hc1.1 x))]
            simp only [if_neg c1] at hr
            refine Ev.step (fun k => rfl) ?_
            simp only [impl_MergedBy.j3]
            refine ev_ff ?_
            by_cases c2 : weighs t l m i = weighs t l m b
            · simp only [if_pos c2] at hr
              refine ev_pos (hc2.2 c2) (ev_pos (by omega) ?_)
              rw [shl1 i (by omega), bor _ _ (by omega) (by omega), ← add_pow hb, w1 hi (by omega)]
              rw [hr] at ih
              exact ih
            · simp only [if_neg c2] at hr
              refine ev_neg (fun x => c2 (hc2.1 x)) ?_
              rw [w1 hi (by omega)]
              rw [hr] at ih
              exact ih
      have hm : m = 0 ∨ m = 1 ∨ m = 2 := by omega
      rcases hm with rfl | rfl | rfl
      · exact ev_pos rfl (Ev.bind (sumOf_ev hrow) next)
      · refine ev_neg (by decide) (ev_pos rfl (ev_pos ?_ ?_))
        · have := srt_ne hrow
          omega
        · have e : (casts (srt (dist t l i))).take (1 : Int).toNat = casts (rowm 1 (srt (dist t l i))) := by
            show _ = casts ((srt (dist t l i)).take 1)
            unfold casts
            rw [List.map_take]
            rfl
          rw [e]
          exact next
      · exact ev_neg (by decide) (ev_neg (by decide) next)
    · have hoff := Bool.eq_false_iff.2 hon
      rw [run_off hoff] at ih
      refine ev_pos (bi_zero.2 hoff) ?_
      rw [w1 hi (by omega)]
      exact ih
theorem impl_MergedBy_ev (t : Int) (l : List Int) (a m : Int) : Ev (fun k => impl_MergedBy.f k t l a m) (merged t l a m) := by
  unfold impl_MergedBy.f merged
  refine ev_bindc (areMinds_eq t l) ?_
  by_cases h : mindsOk t l = true
  · obtain ⟨_, ht, _, _⟩ := mindsOk_iff.1 h
    refine ev_pos h (ev_bindc (isSet_eq t a) ?_)
    by_cases hs : setOk t a = true
    · refine ev_pos hs ?_
      obtain ⟨n, rfl, h1, _⟩ := setOk_nat hs
      by_cases hm : 0 ≤ m ∧ m ≤ 2
      · rw [if_pos ⟨h, hs, hm⟩]
        refine ev_neg (by omega) ?_
        rw [decide_eq_false (show ¬ m > 2 by omega)]
        refine Ev.step (fun k => rfl) ?_
        simp only [impl_MergedBy.j0]
        refine ev_neg (by decide) (ev_pos (by omega) ?_)
        rw [wn_shl ht]
        exact impl_loop h hm.1 hm.2 n h1 0 (Nat.zero_le _)
      · rw [if_neg (fun x => hm x.2.2)]
        by_cases hm0 : m < 0
        · exact ev_pos hm0 (Ev.step (fun k => rfl) (Ev.now _))
        · refine ev_neg hm0 ?_
          rw [decide_eq_true (show m > 2 by omega)]
          exact Ev.step (fun k => rfl) (Ev.now _)
    · rw [if_neg (fun x => hs x.2.1)]
      exact ev_neg hs (Ev.step (fun k => rfl) (Ev.now _))
  · rw [if_neg (fun x => h x.1)]
    exact ev_neg h (Ev.step (fun k => rfl) (Ev.now _))
end Go.Proofs.Yteiehniidihmdaa.Pl
