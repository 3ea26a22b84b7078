/- Plain laws on the draws: each returns, and what it returns lies within its bounds. -/
import Derived.Test.YteiehniidihmdaaPx3
import Derived.Test.YteiehniidihmdaaPx6
import Derived.Test.YteiehniidihmdaaPx12
import Derived.Test.YteiehniidihmdaaPx13
import Derived.Test.YteiehniidihmdaaPx21
import Derived.Test.YteiehniidihmdaaPok
namespace Go.Proofs.Yteiehniidihmdaa.Pl
open Go.RowKit Go.Proofs.YteiehniidihmdaaW.PrintWords Go.Proofs.YteiehniidihmdaaW.PrintLast Go.Proofs.YteiehniidihmdaaW.PrintMore Go.Proofs.Yteiehniidihmdaa.P Go.Proofs.Yteiehniidihmdaa.Mt

theorem alive_eq : laws_alive.f = some true := by decide +kernel
/-- A code: bytes, not too many. -/
def Code (b : List Int) : Prop := b.length ≤ 2000 ∧ ∀ x, x ∈ b → 0 ≤ x ∧ x ≤ 255
theorem code_at {b : List Int} (h : Code b) {i : Int} (h0 : 0 ≤ i) (h1 : i < (b.length : Int)) : 0 ≤ rd b i ∧ rd b i ≤ 255 := by
  obtain ⟨n, rfl⟩ := Int.eq_ofNat_of_zero_le h0
  exact h.2 _ (rd_mem (by omega))
theorem xor_nonneg {x y : Int} (h0 : 0 ≤ x) (h1 : x < 4611686018427387904) (k0 : 0 ≤ y) (k1 : y < 4611686018427387904) : 0 ≤ Go.bits .xor .i64 x y := by
  obtain ⟨a, rfl⟩ := Int.eq_ofNat_of_zero_le h0
  obtain ⟨b, rfl⟩ := Int.eq_ofNat_of_zero_le k0
  rw [bxor a b (by omega) (by omega)]
  omega
theorem tmod_in {x n : Int} (h : 0 ≤ x) (hn : 1 ≤ n) : 0 ≤ Int.tmod x n ∧ Int.tmod x n < n := by
  rw [Int.tmod_eq_emod_of_nonneg h]
  exact ⟨Int.emod_nonneg _ (by omega), Int.emod_lt_of_pos _ (by omega)⟩
theorem tdiv_in {x n : Int} (h : 0 ≤ x) (hn : 1 ≤ n) : 0 ≤ Int.tdiv x n ∧ Int.tdiv x n ≤ x := by
  rw [Int.tdiv_eq_ediv_of_nonneg h]
  exact ⟨Int.ediv_nonneg h (by omega), Int.ediv_le_self _ h⟩
/-- One number that is drawn. -/
theorem pick_ev {b : List Int} (hb : Code b) {p : Int} (h0 : 0 ≤ p) (h1 : p ≤ 1000000000) (n : Int) :
    ∃ r, Ev (fun k => spec_l20Rd_pick.f k b p n) (r, p + 1) ∧ 0 ≤ r ∧ (1 ≤ n → r < n) ∧ (n < 1 → r = 0) := by
  have hl := hb.1
  have hw : wrap64 (p + 1) = p + 1 := w64 (by omega) (by omega)
  have hw2 : wrap64 (p + 1 - 1) = p := by rw [w64 (by omega) (by omega)]; omega
  unfold spec_l20Rd_pick.f
  rw [hw]
  by_cases hn : n < 1
  · refine ⟨0, ev_pos hn (Ev.step (f := fun _ => some (0, p + 1)) (fun k => rfl) (Ev.now _)), Int.le_refl _, fun h => by omega, fun _ => rfl⟩
  · by_cases he : (b.length : Int) = 0
    · refine ⟨0, ev_neg hn ?_, Int.le_refl _, fun h => by omega, fun _ => rfl⟩
      rw [he]
      exact Ev.step (f := fun _ => some (0, p + 1)) (fun k => rfl) (Ev.now _)
    · have he' : ((b.length : Int) == 0) = false := beq_eq_false_iff_ne.2 he
      by_cases hk : p < (b.length : Int)
      · obtain ⟨a1, a2⟩ := code_at hb h0 hk
        have hm := tmod_in (x := rd b p) (n := n) a1 (by omega)
        refine ⟨Int.tmod (rd b p) n, ev_neg hn ?_, hm.1, fun _ => hm.2, fun h => by omega⟩
        rw [he']
        refine Ev.step (fun k => rfl) ?_
        simp only [spec_l20Rd_pick.j0, hw2]
        refine ev_neg (by decide) (ev_pos hk (ev_pos h0 (ev_neg (by omega) (ev_eq (Ev.now _) ?_))))
        rw [w64 (by omega) (by omega)]
      · have hlp : 1 ≤ (b.length : Int) := by omega
        have m1 := tmod_in (x := p) (n := (b.length : Int)) h0 hlp
        have e7 : wrap64 (p * 7) = p * 7 := w64 (by omega) (by omega)
        have e73 : wrap64 (p * 7 + 3) = p * 7 + 3 := w64 (by omega) (by omega)
        have m2 := tmod_in (x := p * 7 + 3) (n := (b.length : Int)) (by omega) hlp
        have c1 := code_at hb m1.1 m1.2
        have c2 := code_at hb m2.1 m2.2
        have d1 := tdiv_in (x := p) (n := (b.length : Int)) h0 hlp
        generalize hA : rd b (Int.tmod p (b.length : Int)) = A at c1
        generalize hB : rd b (Int.tmod (p * 7 + 3) (b.length : Int)) = B at c2
        generalize hD : Int.tdiv p (b.length : Int) = D at d1
        have hx0 : 0 ≤ A * 131 + B * 1117 + p * 29 + D * 53 := by omega
        have hx1 : A * 131 + B * 1117 + p * 29 + D * 53 < 4611686018427387904 := by omega
        have d2 := tdiv_in (x := A * 131 + B * 1117 + p * 29 + D * 53) (n := 64) hx0 (by omega)
        have hxor := xor_nonneg hx0 hx1 d2.1 (by omega)
        have hm := tmod_in (n := n) hxor (by omega)
        refine ⟨_, ev_neg hn ?_, hm.1, fun _ => hm.2, fun h => by omega⟩
        rw [he']
        refine Ev.step (fun k => rfl) ?_
        simp only [spec_l20Rd_pick.j0, hw2, e7, e73, hA, hB, hD]
        refine ev_neg (by decide) (ev_neg hk (ev_neg he (ev_pos m1.1 (ev_pos m1.2 (ev_pos m2.1 (ev_pos m2.2 (ev_neg (by omega) (ev_eq (Ev.now _) ?_))))))))
        rw [w64 (n := A) (by omega) (by omega), w64 (n := B) (by omega) (by omega), w64 (n := A * 131) (by omega) (by omega), w64 (n := B * 1117) (by omega) (by omega), w64 (n := A * 131 + B * 1117) (by omega) (by omega), w64 (n := p * 29) (by omega) (by omega), w64 (n := A * 131 + B * 1117 + p * 29) (by omega) (by omega), w64 (n := D) (by omega) (by omega), w64 (n := D * 53) (by omega) (by omega), w64 (n := A * 131 + B * 1117 + p * 29 + D * 53) (by omega) (by omega), w64 (n := Int.tdiv _ 64) (by omega) (by omega)]
theorem odd_ev {b : List Int} (hb : Code b) {p : Int} (h0 : 0 ≤ p) (h1 : p ≤ 1000000000) (n : Int) :
    ∃ r p', Ev (fun k => spec_l20Rd_odd.f k b p n) (r, p') ∧ p ≤ p' ∧ p' ≤ p + 1 := by
  unfold spec_l20Rd_odd.f
  by_cases hn : n > 0
  · obtain ⟨r, hr, _⟩ := pick_ev hb h0 h1 n
    exact ⟨_, p + 1, ev_pos hn (Ev.bind hr (Ev.now _)), by omega, by omega⟩
  · exact ⟨false, p, ev_neg hn (Ev.now _), by omega, by omega⟩
theorem open_ev {c : List Int} (h : ∀ x ∈ c, (Lit.int .u8 x).wf = true) : ∃ b, spec_l20Open.f c = some (b, 0) ∧ Code b := by
  have hc : ∀ x, x ∈ c → 0 ≤ x ∧ x ≤ 255 := fun x hx => by
    have := h x hx
    simp [Lit.wf, IntKind.min, IntKind.max, IntKind.signed, IntKind.bits] at this
    omega
  unfold spec_l20Open.f
  by_cases hl : (c.length : Int) > 2000
  · refine ⟨c.take 2000, by rw [if_pos hl, if_pos (by omega)], by rw [List.length_take]; omega, fun x hx => hc x (List.mem_of_mem_take hx)⟩
  · exact ⟨c, by rw [if_neg hl], by omega, hc⟩

theorem things_ev {b : List Int} (hb : Code b) {p : Int} (h0 : 0 ≤ p) (h1 : p ≤ 900000000) (n : Int) :
    ∃ r p', Ev (fun k => spec_l20Things.f k b p n) (r, p') ∧ p ≤ p' ∧ p' ≤ p + 2 := by
  obtain ⟨o, p1, ho, a1, a2⟩ := odd_ev hb h0 (by omega) n
  unfold spec_l20Things.f
  cases o
  · obtain ⟨r, hr, r0, r1, _⟩ := pick_ev hb (p := p1) (by omega) (by omega) 5
    have r1 := r1 (by omega)
    exact ⟨_, p1 + 1, Ev.bind ho (ev_neg Bool.false_ne_true (ev_bindc rfl (Ev.bind hr (ev_pos r0 (ev_pos (by simpa using r1) (Ev.now _)))))), by omega, by omega⟩
  · obtain ⟨r, hr, r0, r1, _⟩ := pick_ev hb (p := p1) (by omega) (by omega) 3
    have r1 := r1 (by omega)
    exact ⟨_, p1 + 1, Ev.bind ho (ev_pos rfl (ev_bindc rfl (Ev.bind hr (ev_pos r0 (ev_pos (by simpa using r1) (Ev.now _)))))), by omega, by omega⟩
theorem set_go {b : List Int} (hb : Code b) {p : Int} (h0 : 0 ≤ p) (h1 : p ≤ 900000000) {n : Int} {a : Nat} (ha : a < 256) {p1 : Int}
    (ho : Ev (fun k => spec_l20Rd_odd.f k b p n) (false, p1)) (q0 : p ≤ p1) (q1 : p1 ≤ p + 1) :
    ∃ r p', Ev (fun k => spec_l20Set.j0 k n (a : Int) b p) (r, p') ∧ p ≤ p' ∧ p' ≤ p + 4 ∧ 0 ≤ r ∧ r ≤ 256 := by
  have hw : wrap64 ((a : Int) + 1) = (a : Int) + 1 := w64 (by omega) (by omega)
  obtain ⟨x, hx, x0, x1, _⟩ := pick_ev hb (p := p1) (by omega) (by omega) 256
  obtain ⟨y, hy, y0, y1, _⟩ := pick_ev hb (p := p1 + 1) (by omega) (by omega) 3
  have x1 := x1 (by omega)
  have m1 := tmod_in (x := x) (n := (a : Int) + 1) x0 (by omega)
  by_cases hy0 : y = 0
  · obtain ⟨z, hz, z0, z1, _⟩ := pick_ev hb (p := p1 + 1 + 1) (by omega) (by omega) 256
    have z1 := z1 (by omega)
    obtain ⟨e, he⟩ := Int.eq_ofNat_of_zero_le m1.1
    obtain ⟨f, rfl⟩ := Int.eq_ofNat_of_zero_le z0
    have hB := l1Both_ev (a := e) (b := f) (by omega)
    have m2 := tmod_in (x := ((e &&& f : Nat) : Int)) (n := (a : Int) + 1) (by omega) (by omega)
    refine ⟨Int.tmod ((e &&& f : Nat) : Int) ((a : Int) + 1), p1 + 1 + 1 + 1, Ev.step (fun k => rfl) (Ev.bind ho (ev_neg Bool.false_ne_true (Ev.bind hx (ev_neg (by rw [hw]; omega) (Ev.bind hy (ev_pos hy0 (Ev.bind hz ?_))))))), by omega, by omega, m2.1, by omega⟩
    rw [hw]
    rw [he]
    exact Ev.bind hB (Ev.now _)
  · refine ⟨Int.tmod x ((a : Int) + 1), p1 + 1 + 1, Ev.step (fun k => rfl) (Ev.bind ho (ev_neg Bool.false_ne_true (Ev.bind hx (ev_neg (by rw [hw]; omega) (Ev.bind hy (ev_neg hy0 (ev_eq (Ev.now _) ?_))))))), by omega, by omega, m1.1, by omega⟩
    rw [hw]
theorem set_j {b : List Int} (hb : Code b) {p : Int} (h0 : 0 ≤ p) (h1 : p ≤ 900000000) (n : Int) (a : Nat) (ha : a < 256) :
    ∃ r p', Ev (fun k => spec_l20Set.j0 k n (a : Int) b p) (r, p') ∧ p ≤ p' ∧ p' ≤ p + 4 ∧ -1 ≤ r ∧ r ≤ 256 ∧ (n ≤ 0 → 0 ≤ r) := by
  have hw : wrap64 ((a : Int) + 1) = (a : Int) + 1 := w64 (by omega) (by omega)
  by_cases hn : n ≤ 0
  · have ho : Ev (fun k => spec_l20Rd_odd.f k b p n) (false, p) := by
      unfold spec_l20Rd_odd.f
      exact ev_neg (by omega) (Ev.now _)
    obtain ⟨r, p', hr, c⟩ : ∃ r p', Ev (fun k => spec_l20Set.j0 k n (a : Int) b p) (r, p') ∧ p ≤ p' ∧ p' ≤ p + 4 ∧ 0 ≤ r ∧ r ≤ 256 := set_go hb h0 h1 ha ho (by omega) (by omega)
    exact ⟨r, p', hr, by omega, by omega, by omega, by omega, fun _ => by omega⟩
  · obtain ⟨o, p1, ho, a1, a2⟩ := odd_ev hb h0 (by omega) n
    cases o
    · obtain ⟨r, p', hr, c⟩ := set_go hb h0 h1 ha ho (by omega) (by omega)
      exact ⟨r, p', hr, by omega, by omega, by omega, by omega, fun _ => by omega⟩
    · obtain ⟨r, hr, r0, r1, _⟩ := pick_ev hb (p := p1) (by omega) (by omega) 2
      have r1 := r1 (by omega)
      refine ⟨rd [-1, wrap64 ((a : Int) + 1)] r, p1 + 1, Ev.step (fun k => rfl) (Ev.bind ho (ev_pos rfl (ev_bindc rfl (Ev.bind hr (ev_pos r0 (ev_pos (by simpa using r1) (Ev.now _))))))), by omega, by omega, ?_, ?_, fun h => absurd h hn⟩
      · rw [hw]
        have : r = 0 ∨ r = 1 := by omega
        rcases this with rfl | rfl <;> simp [rd] <;> omega
      · rw [hw]
        have : r = 0 ∨ r = 1 := by omega
        rcases this with rfl | rfl <;> simp [rd] <;> omega

theorem set_ev {b : List Int} (hb : Code b) {p : Int} (h0 : 0 ≤ p) (h1 : p ≤ 900000000) (t n : Int) :
    ∃ r p', Ev (fun k => spec_l20Set.f k b p t n) (r, p') ∧ p ≤ p' ∧ p' ≤ p + 4 ∧ -1 ≤ r ∧ r ≤ 256 ∧ (n ≤ 0 → 0 ≤ r) := by
  by_cases ht : 1 ≤ t ∧ t ≤ 3
  · obtain ⟨r, p', hr, c⟩ := set_j hb h0 h1 n (all t) (all_lt t)
    refine ⟨r, p', ?_, c⟩
    unfold spec_l20Set.f
    exact ev_bindc (l1In_eq _ _ _) (ev_pos (by simpa using ht) (ev_bindc (l1All_eq ht) hr))
  · obtain ⟨r, p', hr, c⟩ := set_j hb h0 h1 n 1 (by omega)
    refine ⟨r, p', ?_, c⟩
    unfold spec_l20Set.f
    exact ev_bindc (l1In_eq _ _ _) (ev_neg (by simpa using ht) hr)
theorem minds_l0 {b : List Int} (hb : Code b) (n t : Int) : ∀ (m : Nat) (l : List Int) (p : Int), m ≤ 100 → l.length + m ≤ 1000 → 0 ≤ p → p + 9 * m ≤ 800000000 →
    ∃ l' p', Ev (fun k => spec_l20Minds.l0 k n t l (m : Int) b p) (t, l', p') ∧ p ≤ p' ∧ p' ≤ p + 4 * m + 1 ∧ l'.length ≤ l.length + m + 1 := by
  intro m
  induction m with
  | zero =>
    intro l p _ hl h0 h1
    obtain ⟨o, p1, ho, a1, a2⟩ := odd_ev hb h0 (by omega) n
    cases o
    · exact ⟨l, p1, Ev.step (fun k => rfl) (ev_neg (by omega) (Ev.bind ho (ev_neg Bool.false_ne_true (Ev.now _)))), by omega, by omega, by omega⟩
    · exact ⟨l ++ [0], p1, Ev.step (fun k => rfl) (ev_neg (by omega) (Ev.bind ho (ev_pos rfl (ev_pos (by omega) (Ev.now _))))), by omega, by omega, by simp⟩
  | succ m ih =>
    intro l p hm hl h0 h1
    obtain ⟨r, p1, hr, a1, a2, _⟩ := set_ev hb h0 (by omega) t n
    obtain ⟨l', p', hl', b1, b2, b3⟩ := ih (l ++ [mx r 1]) p1 (by omega) (by simp; omega) (by omega) (by omega)
    refine ⟨l', p', Ev.step (fun k => rfl) (ev_pos (by omega) (Ev.bind hr (ev_pos (by omega) ?_))), by omega, by omega, by simp at b3; omega⟩
    have hw : wrap64 (((m + 1 : Nat) : Int) - 1) = (m : Int) := by rw [w64 (by omega) (by omega)]; omega
    rw [hw]
    exact hl'
theorem minds_ev {b : List Int} (hb : Code b) {p : Int} (h0 : 0 ≤ p) (h1 : p ≤ 700000000) {a : Int} (ha : 1 ≤ a) (ha' : a ≤ 90) (n : Int) :
    ∃ t l p', Ev (fun k => spec_l20Minds.f k b p a n) (t, l, p') ∧ p ≤ p' ∧ p' ≤ p + 1000 ∧ (l.length : Int) ≤ a + 1 := by
  obtain ⟨t, p1, ht, a1, a2⟩ := things_ev hb h0 (by omega) n
  obtain ⟨r, hr, r0, r1, _⟩ := pick_ev hb (p := p1) (by omega) (by omega) a
  have r1 := r1 (by omega)
  obtain ⟨m, hm⟩ := Int.eq_ofNat_of_zero_le (show 0 ≤ 1 + r by omega)
  obtain ⟨l, p', hl, b1, b2, b3⟩ := minds_l0 hb n t m [] (p1 + 1) (by omega) (by simp; omega) (by omega) (by omega)
  refine ⟨t, l, p', Ev.bind ht (Ev.bind hr ?_), by omega, by omega, by simp at b3; omega⟩
  have hw : wrap64 (1 + r) = (m : Int) := by rw [w64 (by omega) (by omega)]; exact hm
  rw [hw]
  exact hl
theorem either_ev {a b : Nat} (ha : a < 256) : ∃ r, Ev (fun k => spec_l1Either.f k (a : Int) (b : Int)) r := ⟨_, Ev.bind (l1Both_ev (b := b) ha) (Ev.now _)⟩
theorem base_l0 {b : List Int} (hb : Code b) (n t : Int) : ∀ (m : Nat) (l : List Int) (p : Int), m ≤ 100 → l.length + m ≤ 1000 → 0 ≤ p → p + 9 * m ≤ 800000000 →
    ∃ l' p', Ev (fun k => spec_l20Base.l0 k n t l (m : Int) b p) (t, l', p') ∧ p ≤ p' ∧ p' ≤ p + 9 * m + 1 ∧ (l'.length ≤ l.length + m ∨ l'.length = 7) := by
  intro m
  induction m with
  | zero =>
    intro l p _ hl h0 h1
    obtain ⟨o, p1, ho, a1, a2⟩ := odd_ev hb h0 (by omega) n
    cases o
    · exact ⟨l, p1, Ev.step (fun k => rfl) (Ev.bind ho (ev_neg Bool.false_ne_true (Ev.now _))), by omega, by omega, Or.inl (by omega)⟩
    · exact ⟨List.replicate 7 0, p1, Ev.step (fun k => rfl) (Ev.bind ho (ev_pos rfl (ev_pos (by omega) (Ev.now _)))), by omega, by omega, Or.inr (by simp)⟩
  | succ m ih =>
    intro l p hm hl h0 h1
    have hw : wrap64 (((m + 1 : Nat) : Int) - 1) = (m : Int) := by rw [w64 (by omega) (by omega)]; omega
    obtain ⟨r, p1, hr, a1, a2, _⟩ := set_ev hb h0 (by omega) t n
    have plain : ∀ {p2 : Int}, 0 ≤ p2 → p2 ≤ p1 + 1 → p ≤ p2 → ∃ l' p', Ev (fun k => spec_l20Base.j1 k n t l ((m + 1 : Nat) : Int) r false b p2) (t, l', p') ∧ p ≤ p' ∧ p' ≤ p + 9 * (m + 1 : Nat) + 1 ∧ (l'.length ≤ l.length + (m + 1) ∨ l'.length = 7) := by
      intro p2 q0 q1 q2
      obtain ⟨l', p', hl', b1, b2, b3⟩ := ih (l ++ [r]) p2 (by omega) (by simp; omega) (by omega) (by omega)
      refine ⟨l', p', Ev.step (fun k => rfl) (ev_pos (by omega) ?_), by omega, by omega, by simp at b3; omega⟩
      rw [hw]
      exact hl'
    by_cases hs : setOk t r = true
    · obtain ⟨x, hx, x0, x1, _⟩ := pick_ev hb (p := p1) (by omega) (by omega) 2
      by_cases hx0 : x = 0
      · obtain ⟨e, rfl, e1, _⟩ := setOk_nat hs
        obtain ⟨s, p2, hs2, c1, c2, c3, c4, c5⟩ := set_ev hb (p := p1 + 1) (by omega) (by omega) t 0
        obtain ⟨f, rfl⟩ := Int.eq_ofNat_of_zero_le (c5 (by omega))
        obtain ⟨g, hg⟩ := either_ev (a := e) (b := f) e1
        obtain ⟨l', p', hl', b1, b2, b3⟩ := ih (l ++ [g]) p2 (by omega) (by simp; omega) (by omega) (by omega)
        refine ⟨l', p', Ev.step (fun k => rfl) (ev_pos (by omega) (Ev.bind hr (ev_bindc (SetOk_eq _ _) (ev_pos hs (Ev.bind hx ?_))))), by omega, by omega, by simp at b3; omega⟩
        subst hx0
        refine Ev.step (fun k => rfl) (Ev.bind hs2 (Ev.bind hg (ev_pos (by omega) ?_)))
        rw [hw]
        exact hl'
      · obtain ⟨l', p', hl', c⟩ := plain (p2 := p1 + 1) (by omega) (by omega) (by omega)
        refine ⟨l', p', Ev.step (fun k => rfl) (ev_pos (by omega) (Ev.bind hr (ev_bindc (SetOk_eq _ _) (ev_pos hs (Ev.bind hx ?_))))), c⟩
        have : (x == 0) = false := beq_eq_false_iff_ne.2 hx0
        rw [this]
        exact hl'
    · obtain ⟨l', p', hl', c⟩ := plain (p2 := p1) (by omega) (by omega) (by omega)
      exact ⟨l', p', Ev.step (fun k => rfl) (ev_pos (by omega) (Ev.bind hr (ev_bindc (SetOk_eq _ _) (ev_neg hs hl')))), c⟩
theorem base_ev {b : List Int} (hb : Code b) {p : Int} (h0 : 0 ≤ p) (h1 : p ≤ 700000000) (n : Int) :
    ∃ t l p', Ev (fun k => spec_l20Base.f k b p n) (t, l, p') ∧ p ≤ p' ∧ p' ≤ p + 1000 ∧ l.length ≤ 7 := by
  obtain ⟨t, p1, ht, a1, a2⟩ := things_ev hb h0 (by omega) n
  obtain ⟨r, hr, r0, r1, _⟩ := pick_ev hb (p := p1) (by omega) (by omega) 6
  have r1 := r1 (by omega)
  obtain ⟨m, rfl⟩ := Int.eq_ofNat_of_zero_le r0
  obtain ⟨l, p', hl, b1, b2, b3⟩ := base_l0 hb n t m [] (p1 + 1) (by omega) (by simp; omega) (by omega) (by omega)
  exact ⟨t, l, p', Ev.bind ht (Ev.bind hr hl), by omega, by omega, by simp at b3; omega⟩
theorem given_ev {b : List Int} (hb : Code b) {p : Int} (h0 : 0 ≤ p) (h1 : p ≤ 600000000) :
    ∃ t l s p', Ev (fun k => spec_l20Given.f k b p) (t, l, s, p') ∧ p ≤ p' ∧ p' ≤ p + 2000 ∧ l.length ≤ 7 := by
  obtain ⟨t, l, p1, ht, a1, a2, a3⟩ := base_ev hb h0 (by omega) 24
  obtain ⟨s, p2, hs, b1, b2, _⟩ := set_ev hb (p := p1) (by omega) (by omega) t 24
  exact ⟨t, l, s, p2, Ev.bind ht (Ev.bind hs (Ev.now _)), by omega, by omega, a3⟩
end Go.Proofs.Yteiehniidihmdaa.Pl
