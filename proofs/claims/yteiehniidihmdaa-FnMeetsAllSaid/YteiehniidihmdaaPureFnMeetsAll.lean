/- Meeting twice is being least. -/
import Derived.Test.YteiehniidihmdaaPx39
import Derived.Test.YteiehniidihmdaaPx40
import Derived.Test.YteiehniidihmdaaPfam
import Derived.Test.YteiehniidihmdaaPdraw
namespace Go.Proofs.Yteiehniidihmdaa.Pure
open Go.RowKit Go.Proofs.YteiehniidihmdaaW.PrintWords Go.Proofs.YteiehniidihmdaaW.PrintLast Go.Proofs.YteiehniidihmdaaW.PrintMore Go.Proofs.Yteiehniidihmdaa.P Go.Proofs.Yteiehniidihmdaa.Mt Go.Proofs.Yteiehniidihmdaa.Pl
theorem drawMeetsAll {c : List Int} (h : ∀ x ∈ c, (Lit.int .u8 x).wf = true) : ∃ m l, Ev (fun k => spec_DrawMeetsAll.f k c) (m, l) ∧ l.length ≤ 4 := by
  obtain ⟨b, ho, hb⟩ := open_ev h
  obtain ⟨x, hx, x0, x1, _⟩ := pick_ev hb (p := 0) (by omega) (by omega) 7
  obtain ⟨y, hy, y0, y1, _⟩ := pick_ev hb (p := 0 + 1) (by omega) (by omega) 20
  obtain ⟨z, hz, z0, z1, _⟩ := pick_ev hb (p := 0 + 1 + 1) (by omega) (by omega) 5
  have x1 := x1 (by omega)
  have y1 := y1 (by omega)
  have z1 := z1 (by omega)
  have dy := tdiv_in (x := y) (n := 19) y0 (by omega)
  obtain ⟨n, rfl⟩ := Int.eq_ofNat_of_zero_le z0
  have hm : wrap64 (x + wrap64 (wrap64 (Int.tdiv y 19) * 2)) = x + Int.tdiv y 19 * 2 := by
    rw [w64 (n := Int.tdiv y 19) (by omega) (by omega), w64 (n := Int.tdiv y 19 * 2) (by omega) (by omega), w64 (by omega) (by omega)]
  have key : ∀ (m : Int), 0 ≤ m → ∀ (n : Nat) (l : List Int) (p : Int), n ≤ 100 → l.length + n ≤ 100 → 0 ≤ p → p + 2 * n ≤ 1000 →
      ∃ l', Ev (fun k => spec_DrawMeetsAll.l0 k m l (n : Int) b p) (m, l') ∧ l'.length ≤ l.length + n := by
    intro m hm n
    induction n with
    | zero =>
      intro l p _ _ _ _
      exact ⟨l, Ev.step (fun k => rfl) (ev_neg (by omega) (Ev.now _)), by omega⟩
    | succ n ih =>
      intro l p hn hl q0 q1
      obtain ⟨x, hx, _⟩ := pick_ev hb (p := p) q0 (by omega) (wrap64 (2 ^ (mn m 6).toNat))
      obtain ⟨y, hy, _⟩ := pick_ev hb (p := p + 1) (by omega) (by omega) 40
      obtain ⟨l', hl', q⟩ := ih (l ++ [wrap64 (x - wrap64 (Int.tdiv y 39))]) (p + 1 + 1) (by omega) (by simp; omega) (by omega) (by omega)
      refine ⟨l', Ev.step (fun k => rfl) (ev_pos (by omega) (ev_pos (by unfold mn; split <;> omega) (Ev.bind hx (Ev.bind hy (ev_pos (by omega) ?_))))), by simp at q; omega⟩
      have hw : wrap64 (((n + 1 : Nat) : Int) - 1) = (n : Int) := by rw [w64 (by omega) (by omega)]; omega
      rw [hw]
      exact hl'
  obtain ⟨l, hl, q⟩ := key (x + Int.tdiv y 19 * 2) (by omega) n [] (0 + 1 + 1 + 1) (by omega) (by simp; omega) (by omega) (by omega)
  have q' : l.length ≤ 4 := by simp at q; omega
  refine ⟨x + Int.tdiv y 19 * 2, l, ev_bindc ho (Ev.bind hx (Ev.bind hy (Ev.bind hz ?_))), q'⟩
  rw [← hm] at hl ⊢
  exact hl
/-- Not within another one, be it the same. -/
def Free (l : List Int) (i : Nat) : Prop := partOk 6 (rd l (i : Int)) = true ∧ ∀ j, j < l.length → j ≠ i → within (rd l (i : Int)).toNat (rd l (j : Int)) = false
theorem last_ev {m : Nat} (hm : m ≤ 6) {l : List Int} (hl : l.length ≤ 4) (ok : ∀ p, p ∈ l → partOk m p = true) (free : ∀ i, i < l.length → Free l i) :
    Ev (fun k => laws_FnMeetsAll.j3 k (m : Int) l (meetsAll (m : Int) l) false) true := by
  have idx : ∀ i, (h : i < l.length) → ∃ q : Nat, l[i] = (q : Int) ∧ q < 2 ^ m := fun i h => partOk_nat (ok _ (List.getElem_mem h))
  have apart : ∀ i j, (hi : i < l.length) → (hj : j < l.length) → Cb.Sub (l[i]).toNat (l[j]).toNat → i = j := by
    intro i j hi hj hs
    by_cases e : j = i
    · exact e.symm
    · have := (free i hi).2 j hj e
      rw [rd_at hi, rd_at hj] at this
      obtain ⟨q, eq, _⟩ := idx j hj
      unfold within at this
      rw [if_pos (by omega)] at this
      exact absurd (Cb.sub_and.2 hs) (of_decide_eq_false this)
  have hlt : ∀ p, p ∈ nats l → p < 2 ^ m := by
    intro p hp
    obtain ⟨x, hx, rfl⟩ := List.mem_map.1 hp
    obtain ⟨q, e, hq⟩ := partOk_nat (ok x hx)
    rw [e]
    exact hq
  have anti : Cb.Anti (nats l) := by
    intro p q hp hq hs
    obtain ⟨x, hx, rfl⟩ := List.mem_map.1 hp
    obtain ⟨y, hy, rfl⟩ := List.mem_map.1 hq
    obtain ⟨i, hi, rfl⟩ := List.mem_iff_getElem.1 hx
    obtain ⟨j, hj, rfl⟩ := List.mem_iff_getElem.1 hy
    have := apart i j hi hj hs
    subst this
    rfl
  have nd : (nats l).Nodup := by
    unfold nats
    rw [List.nodup_iff_pairwise_ne, List.pairwise_iff_getElem]
    intro i j hi' hj hij e
    rw [List.length_map] at hj
    have hi : i < l.length := by omega
    rw [List.getElem_map, List.getElem_map] at e
    have := apart i j hi hj (by rw [e]; exact Cb.Sub.refl _)
    omega
  rw [meetsAll_ok hm ok]
  refine Ev.step (fun k => rfl) (ev_bindc (impl_MeetsAll_eq _ _) ?_)
  rw [meetsAll_casts hm (fun p hp => (Cb.mem_mins.1 hp).1)]
  have back : (casts (Cb.mins m (Cb.meets (Cb.mins m (Cb.meets (nats l)))))).length = l.length := by
    rw [casts_length]
    have h1 := Cb.length_le_of_sub (Cb.nodup_mins m (Cb.meets (Cb.mins m (Cb.meets (nats l))))) (fun x hx => Cb.back_in_parts hlt anti hx)
    have h2 := Cb.length_le_of_sub nd (fun x hx => Cb.part_in_back hlt anti hx)
    have h3 : (nats l).length = l.length := by unfold nats; rw [List.length_map]
    omega
  have key : ∀ i, i ≤ l.length → Ev (fun k => laws_FnMeetsAll.l2 k l (casts (Cb.mins m (Cb.meets (Cb.mins m (Cb.meets (nats l)))))) (i : Int)) true := by
    apply down
    · refine Ev.step (fun k => rfl) (ev_neg (by omega) (ev_eq (Ev.now _) ?_))
      rw [back]
      exact beq_self_eq_true _
    · intro i hi ih
      refine Ev.step (fun k => rfl) (ev_pos (by omega) (ev_pos (by omega) (Ev.bind (hasInt_ev _ (by omega)) (ev_pos ?_ ?_))))
      · obtain ⟨q, e, _⟩ := idx i hi
        rw [rd_at hi, e]
        refine decide_eq_true (mem_casts.2 (Cb.part_in_back hlt anti (List.mem_map.2 ⟨l[i], List.getElem_mem hi, by rw [e]; rfl⟩)))
      · rw [w1 hi (by omega)]
        exact ih
  exact key 0 (Nat.zero_le _)
theorem bad_ev {m : Int} {l : List Int} (h : meetsAll m l = []) (i : Int) : Ev (fun k => laws_FnMeetsAll.j1 k m l (meetsAll m l) i true) true := by
  rw [h]
  exact Ev.step (fun k => rfl) (ev_bindc alive_eq (Ev.now _))
theorem FnMeetsAll : laws_FnMeetsAll.Pure := by
  intro c _ _ hc
  refine Ev.rounds (g := fun k => laws_FnMeetsAll.f k c) ?_
  unfold laws_FnMeetsAll.f
  by_cases h : (c.length : Int) > 1048576
  · exact ev_pos h (Ev.now _)
  obtain ⟨m, l, hd, hl⟩ := drawMeetsAll hc
  have hx := meetsAll_len m l
  refine ev_neg h (Ev.bind hd (ev_bindc (impl_MeetsAll_eq m l) (Ev.bind (spec_MeetsAll_ev m (l := l) (by omega)) (Ev.bind (sames (by omega)) (ev_pos rfl ?_)))))
  show Ev (fun k => laws_FnMeetsAll.l0 k m l (meetsAll m l) 0) true
  have none_ : ∀ i, i < l.length → partOk m.toNat (rd l (i : Int)) = false → meetsAll m l = [] := by
    intro i hi hp
    unfold meetsAll
    refine if_neg ?_
    intro e
    simp only [Bool.and_eq_true, List.all_eq_true] at e
    rw [e.2 _ (rd_mem hi)] at hp
    cases hp
  have key : ∀ i, i ≤ l.length → ((∀ p, p ∈ l.take i → partOk m.toNat p = true) ∧ (∀ i', i' < i → Free l i')) → Ev (fun k => laws_FnMeetsAll.l0 k m l (meetsAll m l) (i : Int)) true := by
    apply down
    · rintro ⟨ok, free⟩
      rw [List.take_length] at ok
      refine Ev.step (fun k => rfl) (ev_neg (by omega) ?_)
      by_cases h0 : m < 0
      · have e : meetsAll m l = [] := by unfold meetsAll; rw [if_neg]; simp; omega
        rw [e]
        exact ev_pos h0 (Ev.step (fun k => rfl) (ev_bindc alive_eq (Ev.now _)))
      · refine ev_neg h0 ?_
        by_cases h6 : m > 6
        · have e : meetsAll m l = [] := by unfold meetsAll; rw [if_neg]; simp; omega
          rw [e, decide_eq_true h6]
          exact Ev.step (fun k => rfl) (ev_bindc alive_eq (Ev.now _))
        · obtain ⟨n, rfl⟩ := Int.eq_ofNat_of_zero_le (show 0 ≤ m by omega)
          rw [decide_eq_false h6]
          exact last_ev (by omega) hl ok free
    · intro i hi ih hyp
      obtain ⟨ok, free⟩ := hyp
      refine Ev.step (fun k => rfl) (ev_pos (by omega) ?_)
      by_cases h0 : m < 0
      · have e : meetsAll m l = [] := by unfold meetsAll; rw [if_neg]; simp; omega
        exact ev_pos h0 (bad_ev e _)
      refine ev_neg h0 ?_
      by_cases h6 : m > 6
      · have e : meetsAll m l = [] := by unfold meetsAll; rw [if_neg]; simp; omega
        exact ev_pos h6 (bad_ev e _)
      obtain ⟨n, rfl⟩ := Int.eq_ofNat_of_zero_le (show 0 ≤ m by omega)
      refine ev_neg h6 (ev_pos (by omega) ?_)
      have hp6 := pow6 (n := n) (by omega)
      by_cases hneg : rd l (i : Int) < 0
      · exact ev_pos hneg (bad_ev (none_ i hi (by unfold partOk; exact decide_eq_false (by omega))) _)
      refine ev_neg hneg (ev_pos (by omega) ?_)
      rw [shlen (by omega)]
      by_cases hbig : rd l (i : Int) ≥ ((2 ^ n : Nat) : Int)
      · rw [decide_eq_true hbig]
        exact bad_ev (none_ i hi (by unfold partOk; exact decide_eq_false (by simp only [Int.toNat_natCast]; omega))) _
      rw [decide_eq_false hbig]
      obtain ⟨a, ea⟩ := Int.eq_ofNat_of_zero_le (show 0 ≤ rd l (i : Int) by omega)
      have oki : partOk n (rd l (i : Int)) = true := decide_eq_true ⟨by omega, by omega⟩
      refine Ev.step (fun k => rfl) ?_
      have inner : ∀ j, j ≤ l.length → (∀ j', j' < j → j' ≠ i → within a (rd l (j' : Int)) = false) → Ev (fun k => laws_FnMeetsAll.l1 k (n : Int) l (meetsAll (n : Int) l) (i : Int) (j : Int)) true := by
        apply down
        · intro hw
          refine Ev.step (fun k => rfl) (ev_neg (by omega) ?_)
          rw [w1 hi (by omega)]
          refine ih ⟨?_, ?_⟩
          · intro p hp
            rw [List.take_succ_eq_append_getElem hi, List.mem_append] at hp
            rcases hp with hp | hp
            · exact ok p hp
            · rw [List.mem_singleton.1 hp, ← rd_at hi]
              exact oki
          · intro i' hi'
            by_cases e : i' = i
            · subst e
              refine ⟨decide_eq_true ⟨by omega, by omega⟩, fun j hj hne => ?_⟩
              rw [ea]
              exact hw j hj hne
            · exact free i' (by omega)
        · intro j hj ih2 hw
          refine Ev.step (fun k => rfl) (ev_pos (by omega) ?_)
          by_cases e : j = i
          · refine ev_pos (by omega) ?_
            rw [w1 hj (by omega)]
            exact ih2 fun j' hj' hne => hw j' (by omega) hne
          · refine ev_neg (by omega) (ev_pos (by omega) (ev_pos (by omega) (ev_pos (by omega) ?_)))
            rw [ea]
            obtain ⟨r, hr, hiff⟩ := shared_any (a := a) (by omega) (rd l (j : Int))
            refine Ev.bind hr ?_
            by_cases hw2 : within a (rd l (j : Int)) = true
            · exact ev_pos (hiff.2 hw2) (ev_bindc alive_eq (Ev.now _))
            · refine ev_neg (fun e => hw2 (hiff.1 e)) ?_
              rw [w1 hj (by omega)]
              refine ih2 fun j' hj' hne => ?_
              by_cases e2 : j' = j
              · subst e2
                exact Bool.eq_false_iff.2 hw2
              · exact hw j' (by omega) hne
      exact inner 0 (Nat.zero_le _) (fun j' hj' => by omega)
  exact key 0 (Nat.zero_le _) ⟨by simp, fun i' hi' => by omega⟩
end Go.Proofs.Yteiehniidihmdaa.Pure
