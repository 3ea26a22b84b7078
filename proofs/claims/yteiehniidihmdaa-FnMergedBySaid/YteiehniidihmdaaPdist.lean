/- Distances: how far worlds are from sets, by looking at each set; rows of distances, sorted, by looking at each row. -/
import Derived.Test.YteiehniidihmdaaPx9
import Derived.Test.YteiehniidihmdaaPx10
import Derived.Test.YteiehniidihmdaaPx11
import Derived.Test.YteiehniidihmdaaPx20
import Derived.Test.YteiehniidihmdaaPx28
import Derived.Test.YteiehniidihmdaaPok
namespace Go.Proofs.Yteiehniidihmdaa.Pl
open Go.RowKit Go.Proofs.YteiehniidihmdaaW.PrintWords Go.Proofs.YteiehniidihmdaaW.PrintLast Go.Proofs.YteiehniidihmdaaW.PrintMore Go.Proofs.Yteiehniidihmdaa.P Go.Proofs.Yteiehniidihmdaa.Mt

/-! ### how far -/
def farL (t : Int) (s : Nat) : List Int := (impl_farFrom.f 120 t (s : Int)).getD []
def farOk (t s : Nat) : Bool := match impl_farFrom.f 120 (t : Int) (s : Int) with
  | some l => decide (spec_FarFrom.f 120 (t : Int) (s : Int) = some l) && decide (l.length = 2 ^ t) && (List.range (2 ^ t)).all fun (w : Nat) => decide (0 ≤ rd l (w : Int) ∧ rd l (w : Int) ≤ 3) && (decide (rd l (w : Int) = 0) == s.testBit w)
  | none => false
theorem far1 : (List.range 3).all (fun s => farOk 1 (s + 1)) = true := by decide +kernel
theorem far2 : (List.range 15).all (fun s => farOk 2 (s + 1)) = true := by decide +kernel
theorem far3 : (List.range 255).all (fun s => farOk 3 (s + 1)) = true := by decide +kernel
theorem all_range {p : Nat → Bool} {n : Nat} (h : (List.range n).all p = true) {i : Nat} (hi : i < n) : p i = true := List.all_eq_true.1 h i (List.mem_range.2 hi)
theorem far_ok {t : Int} (ht : 1 ≤ t ∧ t ≤ 3) {s : Nat} (h0 : s ≠ 0) (hs : s ≤ all t) : farOk t.toNat s = true := by
  obtain ⟨s, rfl⟩ : ∃ r, s = r + 1 := ⟨s - 1, by omega⟩
  rcases three ht with rfl | rfl | rfl
  · exact all_range far1 (by have : all 1 = 3 := rfl; omega)
  · exact all_range far2 (by have : all 2 = 15 := rfl; omega)
  · exact all_range far3 (by have : all 3 = 255 := rfl; omega)
def wn (t : Int) : Nat := 2 ^ t.toNat
theorem far_facts {t : Int} (ht : 1 ≤ t ∧ t ≤ 3) {s : Nat} (h0 : s ≠ 0) (hs : s ≤ all t) :
    impl_farFrom.f 120 t (s : Int) = some (farL t s) ∧ spec_FarFrom.f 120 t (s : Int) = some (farL t s) ∧ (farL t s).length = wn t ∧
    ∀ w : Nat, w < wn t → 0 ≤ rd (farL t s) (w : Int) ∧ rd (farL t s) (w : Int) ≤ 3 ∧ (rd (farL t s) (w : Int) = 0 ↔ s.testBit w = true) := by
  have h := far_ok ht h0 hs
  obtain ⟨n, rfl⟩ := Int.eq_ofNat_of_zero_le (show 0 ≤ t by omega)
  unfold farOk at h
  unfold farL
  rw [Int.toNat_natCast] at h
  cases e : impl_farFrom.f 120 (n : Int) (s : Int) with
  | none => rw [e] at h; cases h
  | some l =>
    rw [e] at h
    simp only [Bool.and_eq_true, decide_eq_true_eq, List.all_eq_true, List.mem_range, beq_iff_eq] at h
    obtain ⟨⟨h1, h2⟩, h3⟩ := h
    refine ⟨rfl, h1, h2, fun w hw => ?_⟩
    obtain ⟨h4, h5⟩ := h3 w hw
    refine ⟨h4.1, h4.2, ?_⟩
    rw [← h5, decide_eq_true_iff]
    rfl
theorem farFrom_ev {t : Int} (ht : 1 ≤ t ∧ t ≤ 3) {s : Nat} (h0 : s ≠ 0) (hs : s ≤ all t) : Ev (fun k => impl_farFrom.f k t (s : Int)) (farL t s) := Ev.of (fun k => impl_farFrom.mono _ _ k) (far_facts ht h0 hs).1
theorem FarFrom_ev {t : Int} (ht : 1 ≤ t ∧ t ≤ 3) {s : Nat} (h0 : s ≠ 0) (hs : s ≤ all t) : Ev (fun k => spec_FarFrom.f k t (s : Int)) (farL t s) := Ev.of (fun k => spec_FarFrom.mono _ _ k) (far_facts ht h0 hs).2.1
def far (t : Int) (s : Int) (w : Nat) : Nat := (rd (farL t s.toNat) (w : Int)).toNat

/-! ### rows -/
def ins (x : Nat) : List Nat → List Nat
  | [] => [x]
  | y :: r => if y < x then x :: y :: r else y :: ins x r
def srt : List Nat → List Nat
  | [] => []
  | x :: r => ins x (srt r)
def rows : Nat → List (List Nat)
  | 0 => [[]]
  | n + 1 => (rows n).flatMap fun r => (List.range 4).map fun x => x :: r
theorem rows_mem : ∀ (l : List Nat), (∀ x, x ∈ l → x < 4) → l ∈ rows l.length
  | [], _ => by simp [rows]
  | x :: r, h => by
    refine List.mem_flatMap.2 ⟨r, rows_mem r fun y hy => h y (List.mem_cons_of_mem _ hy), List.mem_map.2 ⟨x, List.mem_range.2 (h x (by simp)), rfl⟩⟩
/-- A row of distances of 1 to 4 minds. -/
def Row (l : List Nat) : Prop := 1 ≤ l.length ∧ l.length ≤ 4 ∧ ∀ x, x ∈ l → x < 4
def four (p : List Nat → Bool) : Bool := (rows 1).all p && (rows 2).all p && (rows 3).all p && (rows 4).all p
theorem four_row {p : List Nat → Bool} (h : four p = true) {l : List Nat} (hl : Row l) : p l = true := by
  unfold four at h
  simp only [Bool.and_eq_true, List.all_eq_true] at h
  obtain ⟨a, b, c⟩ := hl
  have hm := rows_mem l c
  have : l.length = 1 ∨ l.length = 2 ∨ l.length = 3 ∨ l.length = 4 := by omega
  rcases this with e | e | e | e <;> rw [e] at hm
  · exact h.1.1.1 l hm
  · exact h.1.1.2 l hm
  · exact h.1.2 l hm
  · exact h.2 l hm
def sortOk (l : List Nat) : Bool := decide (spec_DistancesOf.l1 60 (casts l) 1 = some (casts (srt l))) && decide (((slices_Sort_int_int.f 60 (casts l)).bind fun y => slices_Reverse_int_int.f 60 y) = some (casts (srt l)))
theorem sort4 : four sortOk = true := by decide +kernel
theorem spec_sort_ev {l : List Nat} (h : Row l) : Ev (fun k => spec_DistancesOf.l1 k (casts l) 1) (casts (srt l)) := by
  have := four_row sort4 h
  unfold sortOk at this
  simp only [Bool.and_eq_true, decide_eq_true_eq] at this
  exact Ev.of (fun k => (spec_DistancesOf.mono_l k).2.2.1 _ _) this.1
theorem impl_sort_ev {l : List Nat} (h : Row l) : Ev (fun k => (slices_Sort_int_int.f k (casts l)).bind fun t => (slices_Reverse_int_int.f k t).bind fun t => some t) (casts (srt l)) := by
  have := four_row sort4 h
  unfold sortOk at this
  simp only [Bool.and_eq_true, decide_eq_true_eq] at this
  obtain ⟨y, h1, h2⟩ := Option.bind_eq_some_iff.1 this.2
  exact Ev.bind (Ev.of (fun k => slices_Sort_int_int.mono _ k) h1) (Ev.bind (Ev.of (fun k => slices_Reverse_int_int.mono _ k) h2) (Ev.now _))

/-! ### rows of minds -/
def dist (t : Int) (l : List Int) (w : Nat) : List Nat := l.map fun s => far t s w
theorem minds_nat {t : Int} {l : List Int} (h : mindsOk t l = true) {s : Int} (hs : s ∈ l) : ∃ n : Nat, s = n ∧ n ≠ 0 ∧ n < 256 ∧ n ≤ all t := by
  obtain ⟨a, _⟩ := mindsOk_iff.1 h
  obtain ⟨n, e, h1, h2, _⟩ := setOk_nat (a s hs).1
  exact ⟨n, e, fun z => (a s hs).2 (by rw [e, z]; rfl), h1, h2⟩
theorem far_lt {t : Int} {l : List Int} (h : mindsOk t l = true) {s : Int} (hs : s ∈ l) {w : Nat} (hw : w < wn t) : rd (farL t s.toNat) (w : Int) = ((far t s w : Nat) : Int) ∧ far t s w < 4 ∧ (far t s w = 0 ↔ s.toNat.testBit w = true) := by
  obtain ⟨n, e, h0, h1, h2⟩ := minds_nat h hs
  have ht := (mindsOk_iff.1 h).2.1
  obtain ⟨_, _, _, f⟩ := far_facts ht h0 h2
  obtain ⟨f1, f2, f3⟩ := f w hw
  unfold far
  rw [e, Int.toNat_natCast]
  refine ⟨by omega, by omega, ?_⟩
  rw [← f3]
  omega
theorem dist_row {t : Int} {l : List Int} (h : mindsOk t l = true) {w : Nat} (hw : w < wn t) : Row (dist t l w) := by
  obtain ⟨_, _, c, d⟩ := mindsOk_iff.1 h
  refine ⟨by unfold dist; rw [List.length_map]; exact c, by unfold dist; rw [List.length_map]; exact d, fun x hx => ?_⟩
  obtain ⟨s, hs, rfl⟩ := List.mem_map.1 hx
  exact (far_lt h hs hw).2.1
theorem wn_le {t : Int} (ht : 1 ≤ t ∧ t ≤ 3) : 1 ≤ wn t ∧ wn t ≤ 8 := by rcases three ht with rfl | rfl | rfl <;> decide
theorem wn_shl {t : Int} (ht : 1 ≤ t ∧ t ≤ 3) : shl .i64 1 t = ((wn t : Nat) : Int) := by
  obtain ⟨n, rfl⟩ := Int.eq_ofNat_of_zero_le (show 0 ≤ t by omega)
  exact shl1 n (by omega)
theorem dist_take {t : Int} {l : List Int} {w i : Nat} (hi : i < l.length) : casts (dist t (l.take i) w) ++ [((far t l[i] w : Nat) : Int)] = casts (dist t (l.take (i + 1)) w) := by
  rw [List.take_succ_eq_append_getElem hi]
  unfold dist casts
  rw [List.map_append, List.map_append]
  rfl
theorem distancesOf_ev {t : Int} {l : List Int} (h : mindsOk t l = true) {w : Nat} (hw : w < wn t) : Ev (fun k => impl_distancesOf.f k t l (w : Int)) (casts (srt (dist t l w))) := by
  obtain ⟨_, ht, c, d⟩ := mindsOk_iff.1 h
  have key : ∀ i, i ≤ l.length → Ev (fun k => impl_distancesOf.l0 k t (w : Int) (casts (dist t (l.take i) w)) l (l.length : Int) (i : Int)) (casts (srt (dist t l w))) := by
    apply down
    · refine Ev.step (fun k => rfl) (ev_neg (by omega) ?_)
      rw [List.take_length]
      exact impl_sort_ev (dist_row h hw)
    · intro i hi ih
      obtain ⟨n, e, h0, h1, h2⟩ := minds_nat h (List.getElem_mem hi)
      obtain ⟨_, _, fl, _⟩ := far_facts ht h0 h2
      have fw := (far_lt h (List.getElem_mem hi) hw).1
      refine Ev.step (fun k => rfl) (ev_pos (by omega) (ev_pos (by omega) (ev_pos (by omega) ?_)))
      rw [rd_at hi, w1 hi (by omega)]
      rw [e, Int.toNat_natCast] at fw
      have dt := dist_take (t := t) (l := l) (w := w) hi
      rw [e] at dt ⊢
      refine Ev.bind (farFrom_ev ht h0 h2) (ev_pos (by omega) (ev_pos (by rw [fl]; omega) (ev_pos (by unfold dist; rw [casts_length, List.length_map, List.length_take]; omega) ?_)))
      rw [fw, dt]
      exact ih
  exact key 0 (Nat.zero_le _)
def rowOf (t : Int) (l : List Int) (w : Int) : List Int := if mindsOk t l = true ∧ 0 ≤ w ∧ w < (wn t : Int) then casts (srt (dist t l w.toNat)) else []
theorem isWorld_eq {t : Int} (ht : 1 ≤ t ∧ t ≤ 3) (w : Int) : impl_isWorld.f t w = some (decide (0 ≤ w ∧ w < (wn t : Int))) := by
  unfold impl_isWorld.f
  rw [areThings_eq, decide_eq_true ht, Option.bind_some, if_pos rfl, wn_shl ht]
  by_cases h : w ≥ 0
  · rw [if_pos h, if_pos (by omega)]
    congr 1
    exact decide_eq_decide.2 ⟨fun x => ⟨by omega, x⟩, fun x => x.2⟩
  · rw [if_neg h]
    congr 1
    exact (decide_eq_false (fun x => h (by omega))).symm
theorem impl_DistancesOf_ev (t : Int) (l : List Int) (w : Int) : Ev (fun k => impl_DistancesOf.f k t l w) (rowOf t l w) := by
  unfold impl_DistancesOf.f rowOf
  refine ev_bindc (areMinds_eq t l) ?_
  by_cases h : mindsOk t l = true
  · obtain ⟨_, ht, c, d⟩ := mindsOk_iff.1 h
    refine ev_pos h (ev_bindc (isWorld_eq ht w) ?_)
    by_cases hw : 0 ≤ w ∧ w < (wn t : Int)
    · rw [if_pos ⟨h, hw⟩]
      obtain ⟨n, rfl⟩ := Int.eq_ofNat_of_zero_le hw.1
      exact ev_pos (decide_eq_true hw) (Ev.bind (distancesOf_ev h (w := n) (by omega)) (Ev.now _))
    · rw [if_neg (fun x => hw x.2)]
      exact ev_neg (by rw [decide_eq_false hw]; decide) (Ev.now _)
  · rw [if_neg (fun x => h x.1)]
    exact ev_neg h (Ev.now _)
theorem spec_DistancesOf_ev (t : Int) {l : List Int} (w : Int) (hn : l.length ≤ 9223372036854775807) : Ev (fun k => spec_DistancesOf.f k t l w) (rowOf t l w) := by
  unfold spec_DistancesOf.f rowOf
  refine ev_bindc rfl (Ev.bind (MindsOk_ev t hn) ?_)
  by_cases h : mindsOk t l = true
  · obtain ⟨_, ht, c, d⟩ := mindsOk_iff.1 h
    have hb := wn_le ht
    have hwr : wrap64 (shl .i64 1 t - 1) = (wn t : Int) - 1 := by rw [wn_shl ht, w64 (by omega) (by omega)]
    refine ev_pos h (ev_pos (by omega) (ev_bindc (l1In_eq _ _ _) ?_))
    rw [hwr]
    by_cases hw : 0 ≤ w ∧ w < (wn t : Int)
    · rw [if_pos ⟨h, hw⟩, decide_eq_true (show 0 ≤ w ∧ w ≤ (wn t : Int) - 1 by omega)]
      obtain ⟨n, rfl⟩ := Int.eq_ofNat_of_zero_le hw.1
      refine Ev.step (fun k => rfl) ?_
      simp only [spec_DistancesOf.j0]
      refine ev_neg (by decide) ?_
      have hw' : n < wn t := by omega
      have key : ∀ i, i ≤ l.length → Ev (fun k => spec_DistancesOf.l0 k t l (n : Int) (casts (dist t (l.take i) n)) (i : Int)) (casts (srt (dist t l n))) := by
        apply down
        · refine Ev.step (fun k => rfl) (ev_neg (by omega) ?_)
          rw [List.take_length]
          exact spec_sort_ev (dist_row h hw')
        · intro i hi ih
          obtain ⟨m, e, h0, h1, h2⟩ := minds_nat h (List.getElem_mem hi)
          obtain ⟨_, _, fl, _⟩ := far_facts ht h0 h2
          have fw := (far_lt h (List.getElem_mem hi) hw').1
          refine Ev.step (fun k => rfl) (ev_pos (by omega) (ev_pos (by omega) ?_))
          rw [rd_at hi, w1 hi (by omega)]
          rw [e, Int.toNat_natCast] at fw
          have dt := dist_take (t := t) (l := l) (w := n) hi
          rw [e] at dt ⊢
          refine Ev.bind (FarFrom_ev ht h0 h2) (ev_pos (by omega) (ev_pos (by rw [fl]; omega) (ev_pos (by unfold dist; rw [casts_length, List.length_map, List.length_take]; omega) ?_)))
          rw [fw, dt]
          exact ih
      exact key 0 (Nat.zero_le _)
    · rw [if_neg (fun x => hw x.2), decide_eq_false (show ¬ (0 ≤ w ∧ w ≤ (wn t : Int) - 1) by omega)]
      exact Ev.step (fun k => rfl) (Ev.now _)
  · rw [if_neg (fun x => h x.1)]
    exact ev_neg h (Ev.step (fun k => rfl) (Ev.now _))
theorem rowOf_len (t : Int) (l : List Int) (w : Int) : (rowOf t l w).length ≤ 4 := by
  unfold rowOf
  split
  · rename_i h
    have hr := dist_row h.1 (w := w.toNat) (by omega)
    have : ((srt (dist t l w.toNat)).length == (dist t l w.toNat).length) = true := four_row (p := fun r => (srt r).length == r.length) (by decide +kernel) hr
    have := eq_of_beq this
    rw [casts_length, this]
    exact hr.2.1
  · simp
end Go.Proofs.Yteiehniidihmdaa.Pl
