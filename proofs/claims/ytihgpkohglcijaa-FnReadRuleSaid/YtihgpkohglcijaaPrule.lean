/- Plain laws: rules and their texts. -/
import Derived.Test.YtihgpkohglcijaaPx6
import Derived.Test.YtihgpkohglcijaaPx7
import Derived.Test.YtihgpkohglcijaaPsenti
namespace Go.Proofs.Ytihgpkohglcijaa.Pl
open Go.RowKit Go.Proofs.YtihgpkohglcijaaW.PrintWords Go.Proofs.YtihgpkohglcijaaW.PrintLast Go.Proofs.YtihgpkohglcijaaW.PrintMore Go.Proofs.Ytihgpkohglcijaa.P Go.Proofs.Ytihgpkohglcijaa.Mt
theorem size_list (s : ByteArray) : s.toList.length = s.size := by rw [toList_data, Array.length_toList]; rfl
theorem list_append (a b : ByteArray) : (a ++ b).toList = a.toList ++ b.toList := by
  rw [toList_data, toList_data, toList_data, ByteArray.data_append, Array.toList_append]
theorem list_extract (s : ByteArray) (i j : Nat) : (s.extract i j).toList = (s.toList.drop i).take (j - i) := by
  rw [toList_data, toList_data, ByteArray.data_extract, Array.toList_extract, List.extract_eq_take_drop]
theorem list_from (s : ByteArray) (i : Nat) : (s.extract i s.size).toList = s.toList.drop i := by
  rw [list_extract]
  apply List.take_of_length_le
  rw [List.length_drop, size_list]
  omega
theorem bt_get (s : ByteArray) {i : Nat} (h : i < s.size) : bt s (i : Int) = ((s.toList[i]'(by rw [size_list]; exact h)).toNat : Int) := by
  unfold bt
  rw [dif_pos (by rw [Int.toNat_natCast]; exact h)]
  congr 2
  simp only [toList_data, Int.toNat_natCast]
  rfl
/-- No sentence has a hyphen. -/
theorem rdS_no {t : Int} (s : ByteArray) : ∀ (n i : Nat) (x : Nat × Nat), 1 ≤ t ∧ t ≤ 3 → rdS t s n i = some x → ∀ j : Nat, i ≤ j → j < x.2 → bt s j ≠ 45 := by
  intro n
  induction n with
  | zero => intro i x _ h; cases h
  | succ n ih =>
    intro i x ht h j hj hx
    unfold rdS at h
    by_cases hlt : i < s.size
    · rw [if_pos hlt] at h
      have one : ∀ {v : Nat}, x = (v, i + 1) → bt s i ≠ 45 → bt s j ≠ 45 := by
        rintro v rfl h
        have : j = i := by have : j < i + 1 := hx; omega
        rw [this]
        exact h
      split at h
      · rename_i hc
        exact one (Option.some.inj h).symm (by rw [hc]; decide)
      split at h
      · rename_i hc
        exact one (Option.some.inj h).symm (by rw [hc]; decide)
      split at h
      · rename_i hc
        exact one (Option.some.inj h).symm (by omega)
      split at h
      · rename_i hc
        obtain ⟨y, hy, rfl⟩ := Option.map_eq_some_iff.1 h
        by_cases e : j = i
        · rw [e, hc]; decide
        · exact ih _ _ ht hy j (by omega) hx
      split at h
      · rename_i hc
        obtain ⟨y, hy, h⟩ := Option.bind_eq_some_iff.1 h
        split at h
        · obtain ⟨z, hz, h⟩ := Option.bind_eq_some_iff.1 h
          split at h
          · rename_i h41
            obtain ⟨v, hv, rfl⟩ := Option.map_eq_some_iff.1 h
            by_cases e : j = i
            · rw [e, hc]; decide
            by_cases e1 : j < y.2
            · exact ih _ _ ht hy j (by omega) e1
            by_cases e2 : j = y.2
            · rw [e2]
              intro e3
              unfold opS at hv
              rw [e3, if_neg (by decide), if_neg (by decide), if_neg (by decide)] at hv
              cases hv
            by_cases e3 : j < z.2
            · exact ih _ _ ht hz j (by omega) e3
            · have : j = z.2 := by have : j < z.2 + 1 := hx; omega
              rw [this, h41.2]
              decide
          · cases h
        · cases h
      · cases h
    · rw [if_neg hlt] at h
      cases h
theorem holds_no {t : Int} {s : ByteArray} {a : Int} (h : holds t s = (a, true)) {j : Nat} (hj : j < s.size) : bt s j ≠ 45 := by
  unfold holds at h
  split at h
  · rename_i hc
    split at h
    · rename_i x hx
      split at h
      · rename_i he
        exact rdS_no s _ _ _ hc.1 hx j (Nat.zero_le _) (by rw [he]; exact hj)
      · cases h
    · cases h
  · cases h
def at2 (s : ByteArray) (k : Nat) : Prop := k + 1 < s.size ∧ bt s k = 45 ∧ bt s ((k + 1 : Nat) : Int) = 62
instance (s : ByteArray) (k : Nat) : Decidable (at2 s k) := by unfold at2; infer_instance
theorem occ_at (s : ByteArray) (k : Nat) : Lib.occAt s.data.toList [45, 62] k = true ↔ at2 s k := by
  unfold Lib.occAt at2
  rw [← toList_data]
  by_cases h : k + 1 < s.size
  · have l0 : k < s.toList.length := by rw [size_list]; omega
    have l1 : k + 1 < s.toList.length := by rw [size_list]; omega
    rw [List.drop_eq_getElem_cons l0, List.drop_eq_getElem_cons l1, bt_get s (by omega), bt_get s h]
    simp only [List.isPrefixOf, Bool.and_true, Bool.and_eq_true, beq_iff_eq]
    constructor
    · rintro ⟨e1, e2⟩
      exact ⟨h, by rw [← e1]; rfl, by rw [← e2]; rfl⟩
    · rintro ⟨_, e1, e2⟩
      exact ⟨(UInt8.toNat_inj.1 (by have h9 : (45 : UInt8).toNat = 45 := rfl; omega)).symm, (UInt8.toNat_inj.1 (by have h9 : (62 : UInt8).toNat = 62 := rfl; omega)).symm⟩
  · constructor
    · intro hp
      have := (List.isPrefixOf_iff_prefix.1 hp).length_le
      rw [List.length_drop, size_list] at this
      simp at this
      omega
    · rintro ⟨k1, _, _⟩
      exact absurd k1 h
/-- The parts of a rule's text at a place. -/
def tryAt (t : Int) (s : ByteArray) (k : Nat) : Option (Int × Int × Bool) :=
  let a := holds t (s.extract 0 k); let b := holds t (s.extract (k + 2) s.size)
  if a.2 = true then (if b.2 = true then (if a.1 = 0 then none else some (a.1, b.1, true)) else none) else none
def ruleAt (t : Int) (s : ByteArray) (k : Nat) : Int × Int × Bool := (tryAt t s k).getD (0, 0, false)
theorem cut2_ev {s : ByteArray} (hs : s.size < 4294967281) : (∃ k, at2 s k ∧ (∀ j, j < k → ¬ at2 s j) ∧ cut2.f s = some (s.extract 0 k, s.extract (k + 2) s.size, true)) ∨ ((∀ j, ¬ at2 s j) ∧ cut2.f s = some (s, (⟨#[]⟩ : ByteArray), false)) := by
  unfold cut2.f
  rw [if_pos hs]
  rcases Lib.index_spec s.data.toList [45, 62] with ⟨h1, h2⟩ | ⟨i, h1, h2, h3, h4⟩
  · right
    refine ⟨fun j hj => ?_, ?_⟩
    · have hl : j ≤ s.data.toList.length := by rw [← toList_data, size_list]; have := hj.1; omega
      have := h2 j hl
      rw [(occ_at s j).2 hj] at this
      cases this
    · obtain ⟨e1, e2, e3⟩ := Lib.cutB_miss s ⟨#[45, 62]⟩ h1
      have e1' : (⟨(Lib.cut s.data.toList [45, 62]).1.toArray⟩ : ByteArray) = s := e1
      have e2' : (⟨(Lib.cut s.data.toList [45, 62]).2.1.toArray⟩ : ByteArray) = ByteArray.empty := e2
      have e3' : (Lib.cut s.data.toList [45, 62]).2.2 = false := e3
      rw [e1', e2', e3']
      rfl
  · left
    refine ⟨i, (occ_at s i).1 h3, fun j hj hj2 => ?_, ?_⟩
    · have := h4 j hj
      rw [(occ_at s j).2 hj2] at this
      cases this
    · obtain ⟨e1, e2, e3⟩ := Lib.cutB_hit s ⟨#[45, 62]⟩ i h1
      have e1' : (⟨(Lib.cut s.data.toList [45, 62]).1.toArray⟩ : ByteArray) = s.extract 0 i := e1
      have e2' : (⟨(Lib.cut s.data.toList [45, 62]).2.1.toArray⟩ : ByteArray) = s.extract (i + 2) s.size := e2
      have e3' : (Lib.cut s.data.toList [45, 62]).2.2 = true := e3
      rw [e1', e2', e3']
theorem impl_ReadRule_at (t : Int) {s : ByteArray} (hs : s.size < 4294967281) : (∃ k, at2 s k ∧ (∀ j, j < k → ¬ at2 s j) ∧ Ev (fun n => impl_ReadRule.f n t s) (ruleAt t s k)) ∨ ((∀ j, ¬ at2 s j) ∧ Ev (fun n => impl_ReadRule.f n t s) (0, 0, false)) := by
  unfold impl_ReadRule.f
  rcases cut2_ev hs with ⟨k, h1, h2, h3⟩ | ⟨h1, h3⟩
  · refine Or.inl ⟨k, h1, h2, ev_bindc h3 (Ev.bind (impl_HoldsIn_ev t _) (Ev.bind (impl_HoldsIn_ev t _) (ev_tt ?_)))⟩
    unfold ruleAt tryAt
    by_cases a : (holds t (s.extract 0 k)).2 = true
    · refine ev_pos a ?_
      by_cases b : (holds t (s.extract (k + 2) s.size)).2 = true
      · refine ev_pos b ?_
        by_cases c : (holds t (s.extract 0 k)).1 = 0
        · exact ev_pos c (ev_eq (Ev.now _) (by simp only [a, b, c, if_true]; rfl))
        · exact ev_neg c (ev_eq (Ev.now _) (by simp only [a, b, c, if_true, if_false]; rfl))
      · exact ev_neg b (ev_eq (Ev.now _) (by simp only [a, b, if_true]; rfl))
    · exact ev_neg a (ev_eq (Ev.now _) (by simp only [a]; rfl))
  · exact Or.inr ⟨h1, ev_bindc h3 (Ev.bind (impl_HoldsIn_ev t _) (Ev.bind (impl_HoldsIn_ev t _) (ev_ff (Ev.now _))))⟩
theorem bt_head (s : ByteArray) {j k : Nat} (h : k < j) (hj : j ≤ s.size) : bt (s.extract 0 j) (k : Int) = bt s (k : Int) := by
  have h1 : k < (s.extract 0 j).size := by rw [ByteArray.size_extract]; omega
  rw [bt_get _ h1, bt_get s (by omega)]
  congr 2
  simp only [list_extract, List.drop_zero, List.getElem_take]
theorem l0_end (t : Int) {s : ByteArray} {i : Nat} (hs : s.size ≤ 1000000000) (hi : i ≤ s.size) (h : ¬ i + 1 < s.size) : Ev (fun n => spec_ReadRule.l0 n t s (i : Int)) (0, 0, false) := by
  have e1 : wrap64 ((i : Int) + 1) = ((i + 1 : Nat) : Int) := by rw [w64 (by omega) (by omega)]; omega
  refine Ev.step (fun k => rfl) (ev_neg ?_ (Ev.now _))
  rw [e1]
  omega
theorem l0_at (t : Int) {s : ByteArray} {i : Nat} {r : Int × Int × Bool} (hs : s.size ≤ 1000000000) (h : i + 1 < s.size)
    (h1 : ¬ at2 s i → Ev (fun n => spec_ReadRule.l0 n t s ((i + 1 : Nat) : Int)) r) (h2 : at2 s i → tryAt t s i = none → Ev (fun n => spec_ReadRule.l0 n t s ((i + 1 : Nat) : Int)) r) (h3 : ∀ v, at2 s i → tryAt t s i = some v → v = r) :
    Ev (fun n => spec_ReadRule.l0 n t s (i : Int)) r := by
  have e1 : wrap64 ((i : Int) + 1) = ((i + 1 : Nat) : Int) := by rw [w64 (by omega) (by omega)]; omega
  have e2 : wrap64 ((i : Int) + 2) = ((i + 2 : Nat) : Int) := by rw [w64 (by omega) (by omega)]; omega
  refine Ev.step (fun k => rfl) (ev_pos (by rw [e1]; omega) (ev_pos (by omega) (ev_pos (by omega) ?_)))
  rw [e1]
  have skip : Ev (fun n => spec_ReadRule.l0 n t s ((i + 1 : Nat) : Int)) r → Ev (fun n => spec_ReadRule.j1 n t s (i : Int) true) r := by
    intro hr
    refine Ev.step (f := fun n => spec_ReadRule.l0 n t s (wrap64 ((i : Int) + 1))) (fun k => rfl) ?_
    rw [e1]
    exact hr
  by_cases a : bt s i = 45
  · refine ev_pos a (ev_pos (by omega) ?_)
    by_cases b : bt s ((i + 1 : Nat) : Int) = 62
    · have ha : at2 s i := ⟨h, a, b⟩
      rw [show (bt s ((i + 1 : Nat) : Int) != 62) = false from by rw [b]; rfl]
      have st : ∀ {g : Nat → Option (Int × Int × Bool)} {r}, (∀ k, g k = (if 0 ≤ (i : Int) then (if (i : Int) ≤ (s.size : Int) then ((spec_HoldsIn.f k t (s.extract 0 ((i : Int) : Int).toNat)).bind fun bt196 => (if 0 ≤ (wrap64 ((i : Int) + 2)) then (if (wrap64 ((i : Int) + 2)) ≤ (s.size : Int) then ((spec_HoldsIn.f k t (s.extract ((wrap64 ((i : Int) + 2)) : Int).toNat s.size)).bind fun bt198 => (if bt196.2 = true then (if bt198.2 = true then (if bt196.1 = 0 then (spec_ReadRule.l0 k t s (wrap64 ((i : Int) + 1))) else (some (bt196.1, bt198.1, true))) else (spec_ReadRule.l0 k t s (wrap64 ((i : Int) + 1)))) else (spec_ReadRule.l0 k t s (wrap64 ((i : Int) + 1))))) else (none)) else (none))) else (none)) else (none))) → Ev g r → Ev (fun k => spec_ReadRule.j1 k t s (i : Int) false) r := fun hg h => Ev.step (fun k => (hg k).symm) h
      refine st (fun k => rfl) (ev_pos (by omega) (ev_pos (by omega) ?_))
      rw [e1, e2, Int.toNat_natCast, Int.toNat_natCast]
      refine Ev.bind (spec_HoldsIn_ev t _) (ev_pos (by omega) (ev_pos (by omega) (Ev.bind (spec_HoldsIn_ev t _) ?_)))
      by_cases x : (holds t (s.extract 0 i)).2 = true
      · refine ev_pos x ?_
        by_cases y : (holds t (s.extract (i + 2) s.size)).2 = true
        · refine ev_pos y ?_
          by_cases c : (holds t (s.extract 0 i)).1 = 0
          · exact ev_pos c (h2 ha (by unfold tryAt; simp only [x, y, c, if_true]))
          · exact ev_neg c (ev_eq (Ev.now _) (h3 _ ha (by unfold tryAt; simp only [x, y, c, if_true, if_false])))
        · exact ev_neg y (h2 ha (by unfold tryAt; simp only [x, y, if_true]; rfl))
      · exact ev_neg x (h2 ha (by unfold tryAt; simp only [x]; rfl))
    · rw [show (bt s ((i + 1 : Nat) : Int) != 62) = true from bne_iff_ne.2 b]
      exact skip (h1 (fun k => b k.2.2))
  · exact ev_neg a (skip (h1 (fun k => a k.2.1)))
theorem spec_none (t : Int) {s : ByteArray} (hs : s.size ≤ 1000000000) : ∀ (d i : Nat), s.size - i ≤ d → i ≤ s.size → (∀ j, i ≤ j → at2 s j → tryAt t s j = none) → Ev (fun n => spec_ReadRule.l0 n t s (i : Int)) (0, 0, false) := by
  intro d
  induction d with
  | zero => intro i hd hi _; exact l0_end t hs hi (by omega)
  | succ d ih =>
    intro i hd hi h
    by_cases h1 : i + 1 < s.size
    · have nx := ih (i + 1) (by omega) (by omega) (fun j hj => h j (by omega))
      refine l0_at t hs h1 (fun _ => nx) (fun _ _ => nx) (fun v ha hv => ?_)
      rw [h i (Nat.le_refl _) ha] at hv
      cases hv
    · exact l0_end t hs hi h1
theorem spec_ReadRule_none (t : Int) {s : ByteArray} (hs : s.size ≤ 1000000000) (h : ∀ j, ¬ at2 s j) : Ev (fun n => spec_ReadRule.f n t s) (0, 0, false) :=
  spec_none t hs s.size 0 (by omega) (Nat.zero_le _) (fun j _ hj => absurd hj (h j))
theorem later_none (t : Int) {s : ByteArray} {k j : Nat} (hk : at2 s k) (hj : k < j) (h : j ≤ s.size) : tryAt t s j = none := by
  unfold tryAt
  simp only
  rw [if_neg]
  intro hb
  have e : holds t (s.extract 0 j) = ((holds t (s.extract 0 j)).1, true) := by rw [← hb]
  have := holds_no e (j := k) (by rw [ByteArray.size_extract]; omega)
  rw [bt_head s hj h] at this
  exact this hk.2.1
theorem spec_ReadRule_at (t : Int) {s : ByteArray} (hs : s.size ≤ 1000000000) {k : Nat} (hk : at2 s k) (hn : ∀ j, j < k → ¬ at2 s j) : Ev (fun n => spec_ReadRule.f n t s) (ruleAt t s k) := by
  have k1 := hk.1
  have after : Ev (fun n => spec_ReadRule.l0 n t s ((k + 1 : Nat) : Int)) (0, 0, false) := spec_none t hs s.size (k + 1) (by omega) (by omega) (fun j hj ha => later_none t hk (by omega) (by have := ha.1; omega))
  have at_k : Ev (fun n => spec_ReadRule.l0 n t s (k : Int)) (ruleAt t s k) := by
    cases hv : tryAt t s k with
    | none =>
      have e : ruleAt t s k = (0, 0, false) := by unfold ruleAt; rw [hv]; rfl
      rw [e]
      refine l0_at t hs k1 (fun h => absurd hk h) (fun _ _ => after) (fun v _ h => ?_)
      rw [hv] at h
      cases h
    | some v =>
      have e : ruleAt t s k = v := by unfold ruleAt; rw [hv]; rfl
      rw [e]
      refine l0_at t hs k1 (fun h => absurd hk h) (fun _ h => ?_) (fun v' _ h => ?_)
      · rw [hv] at h
        cases h
      · rw [hv] at h
        exact (Option.some.inj h).symm
  have key : ∀ i, i ≤ k → Ev (fun n => spec_ReadRule.l0 n t s (i : Int)) (ruleAt t s k) := by
    apply down
    · exact at_k
    · intro i hi ih
      exact l0_at t hs (by omega) (fun _ => ih) (fun h => absurd h (hn i hi)) (fun v h => absurd h (hn i hi))
  exact key 0 (Nat.zero_le _)
theorem ruleAt_cases (t : Int) (s : ByteArray) (k : Nat) : ruleAt t s k = (0, 0, false) ∨ ∃ a b : Nat, ruleAt t s k = ((a : Int), (b : Int), true) ∧ (1 ≤ t ∧ t ≤ 3) ∧ a ≠ 0 ∧ a ≤ all t ∧ b ≤ all t := by
  unfold ruleAt tryAt
  simp only
  by_cases a : (holds t (s.extract 0 k)).2 = true
  · by_cases b : (holds t (s.extract (k + 2) s.size)).2 = true
    · by_cases c : (holds t (s.extract 0 k)).1 = 0
      · left
        rw [if_pos a, if_pos b, if_pos c]
        rfl
      · right
        have ea : holds t (s.extract 0 k) = ((holds t (s.extract 0 k)).1, true) := by rw [← a]
        have eb : holds t (s.extract (k + 2) s.size) = ((holds t (s.extract (k + 2) s.size)).1, true) := by rw [← b]
        obtain ⟨h1, h2, h3⟩ := holds_range ea
        obtain ⟨_, g2, g3⟩ := holds_range eb
        refine ⟨(holds t (s.extract 0 k)).1.toNat, (holds t (s.extract (k + 2) s.size)).1.toNat, ?_, h1, by omega, by omega, by omega⟩
        rw [if_pos a, if_pos b, if_neg c, Int.toNat_of_nonneg h2, Int.toNat_of_nonneg g2]
        rfl
    · left
      rw [if_pos a, if_neg b]
      rfl
  · left
    rw [if_neg a]
    rfl
end Go.Proofs.Ytihgpkohglcijaa.Pl
