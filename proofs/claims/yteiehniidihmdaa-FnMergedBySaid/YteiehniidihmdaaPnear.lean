/- The nearest worlds of one mind are the least ones by how far they are. -/
import Derived.Test.YteiehniidihmdaaPx53
import Derived.Test.YteiehniidihmdaaPleast
namespace Go.Proofs.Yteiehniidihmdaa.Pl
open Go.RowKit Go.Proofs.YteiehniidihmdaaW.PrintWords Go.Proofs.YteiehniidihmdaaW.PrintLast Go.Proofs.YteiehniidihmdaaW.PrintMore Go.Proofs.Yteiehniidihmdaa.P Go.Proofs.Yteiehniidihmdaa.Mt

def sp (a : Nat) (F : List Int) : Nat → Int
  | 0 => 10
  | i + 1 => if a.testBit i = true then mn (sp a F i) (rd F (i : Int)) else sp a F i
theorem mn_le (x y : Int) : mn x y ≤ x ∧ mn x y ≤ y ∧ (mn x y = x ∨ mn x y = y) := by unfold mn; split <;> omega
theorem sp_le {a : Nat} {F : List Int} : ∀ i v, v < i → a.testBit v = true → sp a F i ≤ rd F (v : Int)
  | i + 1, v, h, hv => by
    unfold sp
    by_cases e : v = i
    · subst e
      rw [if_pos hv]
      exact (mn_le _ _).2.1
    · have := sp_le (F := F) i v (by omega) hv
      split
      · exact Int.le_trans (mn_le _ _).1 this
      · exact this
theorem sp_at {a : Nat} {F : List Int} : ∀ i, sp a F i = 10 ∨ ∃ v, v < i ∧ a.testBit v = true ∧ sp a F i = rd F (v : Int)
  | 0 => Or.inl rfl
  | i + 1 => by
    unfold sp
    by_cases e : a.testBit i = true
    · rw [if_pos e]
      rcases (mn_le (sp a F i) (rd F (i : Int))).2.2 with h | h <;> rw [h]
      · rcases sp_at i with k | ⟨v, h1, h2, h3⟩
        · exact Or.inl k
        · exact Or.inr ⟨v, by omega, h2, h3⟩
      · exact Or.inr ⟨i, by omega, e, rfl⟩
    · rw [if_neg e]
      rcases sp_at i with k | ⟨v, h1, h2, h3⟩
      · exact Or.inl k
      · exact Or.inr ⟨v, by omega, h2, h3⟩
theorem surprise_ev {a : Nat} (ha : a < 256) {F : List Int} (hF : F.length ≤ 8) : Ev (fun k => impl_surpriseOf.f k F (a : Int)) (sp a F F.length) := by
  unfold impl_surpriseOf.f
  have key : ∀ i, i ≤ F.length → Ev (fun k => impl_surpriseOf.l0 k (a : Int) (sp a F i) F (F.length : Int) (i : Int)) (sp a F F.length) := by
    apply down
    · exact Ev.step (fun k => rfl) (ev_neg (by omega) (Ev.now _))
    · intro i hi ih
      refine Ev.step (fun k => rfl) (ev_pos (by omega) (ev_pos (by omega) (ev_pos (by omega) ?_)))
      rw [and_bit a i (by omega) (by omega), w1 hi (by omega)]
      have es : sp a F (i + 1) = if a.testBit i = true then mn (sp a F i) (rd F (i : Int)) else sp a F i := rfl
      rw [es] at ih
      by_cases e : a.testBit i = true
      · rw [if_pos e] at ih
        exact ev_pos (bi_one.2 e) ih
      · rw [if_neg e] at ih
        exact ev_neg (fun x => e (bi_one.1 x)) ih
  exact key 0 (Nat.zero_le _)
theorem setThat_l {p : Int → Option Bool} {q : Nat → Bool} : ∀ (n x s : Nat), x + n ≤ 8 → s < 2 ^ x → (∀ y : Nat, y < x + n → p (y : Int) = some (q y)) →
    ∃ r : Nat, impl_setThat.l p n (x : Int) (s : Int) = some (r : Int) ∧ r < 2 ^ (x + n) ∧ ∀ w, r.testBit w = true ↔ s.testBit w = true ∨ (x ≤ w ∧ w < x + n ∧ q w = true)
  | 0, x, s, _, hs, _ => ⟨s, rfl, hs, fun w => ⟨Or.inl, fun h => h.resolve_right fun k => by omega⟩⟩
  | n + 1, x, s, h8, hs, hp => by
    have hx : 2 ^ x ≤ 2 ^ 7 := Nat.pow_le_pow_right (by decide) (by omega)
    have hx2 : 2 ^ (x + 1) = 2 ^ x + 2 ^ x := by rw [Nat.pow_succ]; omega
    have hcast : (x : Int) + 1 = ((x + 1 : Nat) : Int) := by omega
    by_cases hq : q x = true
    · obtain ⟨r, h1, h2, h3⟩ := setThat_l n (x + 1) (s + 2 ^ x) (by omega) (by omega) (fun y hy => hp y (by omega))
      refine ⟨r, ?_, by rw [show x + (n + 1) = x + 1 + n from by omega]; exact h2, fun w => ?_⟩
      · show ((p (x : Int)).bind fun b => _) = _
        rw [hp x (by omega), Option.bind_some, hq, if_pos rfl, shl1 x (by omega), bor _ _ (by omega) (by omega), ← add_pow hs, hcast]
        exact h1
      · rw [h3, add_bit hs, Bool.or_eq_true, decide_eq_true_iff]
        constructor
        · rintro ((k | rfl) | k)
          · exact Or.inl k
          · exact Or.inr ⟨by omega, by omega, hq⟩
          · exact Or.inr ⟨by omega, by omega, k.2.2⟩
        · rintro (k | ⟨k1, k2, k3⟩)
          · exact Or.inl (Or.inl k)
          · by_cases e : x = w
            · exact Or.inl (Or.inr e)
            · exact Or.inr ⟨by omega, by omega, k3⟩
    · obtain ⟨r, h1, h2, h3⟩ := setThat_l n (x + 1) s (by omega) (by omega) (fun y hy => hp y (by omega))
      refine ⟨r, ?_, by rw [show x + (n + 1) = x + 1 + n from by omega]; exact h2, fun w => ?_⟩
      · show ((p (x : Int)).bind fun b => _) = _
        rw [hp x (by omega), Option.bind_some, if_neg hq, hcast]
        exact h1
      · rw [h3]
        constructor
        · rintro (k | k)
          · exact Or.inl k
          · exact Or.inr ⟨by omega, by omega, k.2.2⟩
        · rintro (k | ⟨k1, k2, k3⟩)
          · exact Or.inl k
          · by_cases e : x = w
            · rw [← e] at k3; exact absurd k3 hq
            · exact Or.inr ⟨by omega, by omega, k3⟩
theorem nearest_ev {t : Int} (ht : 1 ≤ t ∧ t ≤ 3) {s : Nat} (h0 : s ≠ 0) (hs : s ≤ all t) {a : Nat} (ha : a ≤ all t) : Ev (fun k => impl_NearestOf.f k t (s : Int) (a : Int)) (least a (far t (s : Int)) (wn t) : Int) := by
  obtain ⟨_, _, fl, ff⟩ := far_facts ht h0 hs
  have hwn := wn_le ht
  have a256 := all_lt t
  have h1 : setOk t (s : Int) = true := decide_eq_true ⟨ht, by omega, by omega⟩
  have h2 : setOk t (a : Int) = true := decide_eq_true ⟨ht, by omega, by omega⟩
  refine ev_bindc (isSet_eq t _) (ev_pos h1 (ev_bindc (isSet_eq t _) ?_))
  rw [h2, Bool.not_true]
  refine Ev.step (fun k => rfl) ?_
  simp only [impl_NearestOf.j0]
  refine ev_neg Bool.false_ne_true (ev_neg (by omega) (Ev.bind (farFrom_ev ht h0 hs) ?_))
  have hsur := surprise_ev (a := a) (by omega) (F := farL t s) (by omega)
  have hp : ∀ y : Nat, y < 0 + wn t → impl_revisedBy.p (farL t s) (sp a (farL t s) (farL t s).length) (y : Int) = some (decide (rd (farL t s) (y : Int) = sp a (farL t s) (farL t s).length)) := by
    intro y hy
    unfold impl_revisedBy.p
    rw [if_pos (by omega), if_pos (by omega)]
  obtain ⟨r, e1, e2, e3⟩ := setThat_l (p := impl_revisedBy.p (farL t s) (sp a (farL t s) (farL t s).length)) (wn t) 0 0 (by omega) (by decide) hp
  have hr : r < 256 := by
    have : 2 ^ (0 + wn t) ≤ 2 ^ 8 := Nat.pow_le_pow_right (by decide) (by omega)
    omega
  have hset : impl_setThat.f (impl_revisedBy.p (farL t s) (sp a (farL t s) (farL t s).length)) t = some (r : Int) := by
    unfold impl_setThat.f
    rw [if_pos (by omega), if_pos (by omega)]
    exact e1
  have hrev : Ev (fun k => impl_revisedBy.f k t (farL t s) (a : Int)) (least a (far t (s : Int)) (wn t) : Int) := by
    refine Ev.bind hsur (ev_bindc hset (ev_eq (Ev.now _) ?_))
    rw [band a r (by omega) (by omega)]
    congr 1
    refine ext_bits fun w => ?_
    have hfar : ∀ v, v < wn t → rd (farL t s) (v : Int) = ((far t (s : Int) v : Nat) : Int) := by
      intro v hv
      have := (ff v hv).1
      show _ = (((rd (farL t (s : Int).toNat) (v : Int)).toNat : Nat) : Int)
      rw [Int.toNat_natCast]
      omega
    rw [and_iff, e3, least_bit]
    constructor
    · rintro ⟨x, y⟩
      rcases y with y | ⟨_, y1, y2⟩
      · simp at y
      · have hw : w < wn t := by omega
        refine ⟨hw, x, fun v hv hv2 => ?_⟩
        have g1 := of_decide_eq_true y2
        have g2 := sp_le (a := a) (F := farL t s) (farL t s).length v (by omega) hv2
        rw [← g1, hfar w hw, hfar v hv] at g2
        omega
    · rintro ⟨x, y, z⟩
      refine ⟨y, Or.inr ⟨by omega, by omega, decide_eq_true ?_⟩⟩
      have g2 := sp_le (a := a) (F := farL t s) (farL t s).length w (by omega) y
      rcases sp_at (a := a) (F := farL t s) (farL t s).length with g | ⟨v, v1, v2, v3⟩
      · have := (ff w x).2.1
        omega
      · have := z v (by omega) v2
        rw [v3, hfar w x] at g2 ⊢
        rw [hfar v (by omega)] at g2 ⊢
        omega
  exact Ev.bind hrev (Ev.now _)
theorem weighs_one {t : Int} {s : Int} {m : Int} (h0 : 0 ≤ m) (h2 : m ≤ 2) (w : Nat) : weighs t [s] m w = far t s w := by
  show wgt m [far t s w] = far t s w
  have hm : m = 0 ∨ m = 1 ∨ m = 2 := by omega
  rcases hm with rfl | rfl | rfl
  · show [far t s w].sum = _
    simp
  · show max 0 (far t s w) = _
    omega
  · show 10 * 0 + far t s w = _
    omega
end Go.Proofs.Yteiehniidihmdaa.Pl
