/- Plain laws: lists of deeds beside minds: copies, comparisons, sizes, marks. -/
import Derived.Test.YtihgpkohglcijaaPx0
import Derived.Test.YtihgpkohglcijaaPx2
import Derived.Test.YtihgpkohglcijaaPx3
import Derived.Test.YtihgpkohglcijaaPmks
import Derived.Test.YtihgpkohglcijaaPrd26
namespace Go.Proofs.Ytihgpkohglcijaa.Pl
open Go.RowKit Go.Proofs.YtihgpkohglcijaaW.PrintWords Go.Proofs.YtihgpkohglcijaaW.PrintLast Go.Proofs.YtihgpkohglcijaaW.PrintMore Go.Proofs.Ytihgpkohglcijaa.P Go.Proofs.Ytihgpkohglcijaa.Mt
theorem rd23_at {l : List S23} {i : Nat} (h : i < l.length) : rd_T23 l (i : Int) = l[i] := by
  unfold rd_T23
  rw [Int.toNat_natCast, List.getD_eq_getElem?_getD, List.getElem?_eq_getElem h]
  rfl
def conv (x : S23) : S26 := ⟨x.f0, x.f1⟩
theorem toDeedS_ev {l : List S23} (hn : l.length ≤ 11728124029610) : Ev (fun k => laws_toDeedS.f k l) (l.map conv) := by
  unfold laws_toDeedS.f
  refine ev_pos (by omega) (ev_pos (by omega) ?_)
  rw [Int.toNat_natCast]
  have key : ∀ i, i ≤ l.length → Ev (fun k => laws_toDeedS.l0 k l ((l.take i).map conv ++ List.replicate (l.length - i) z26) (i : Int)) (l.map conv) := by
    apply down
    · refine Ev.step (fun k => rfl) (ev_neg (by omega) (ev_eq (Ev.now _) ?_))
      rw [List.take_length, Nat.sub_self]
      exact List.append_nil _
    · intro i hi ih
      have hlen : ((l.take i).map conv ++ List.replicate (l.length - i) z26).length = l.length := by
        rw [List.length_append, List.length_map, List.length_take, List.length_replicate]; omega
      refine Ev.step (fun k => rfl) (ev_pos (by omega) (ev_pos (by omega) (ev_bindc rfl (ev_pos (by rw [hlen]; omega) ?_))))
      rw [rd23_at hi, w1 hi (by omega), Int.toNat_natCast]
      have e : ((l.take i).map conv ++ List.replicate (l.length - i) z26).set i (⟨l[i].f0, l[i].f1⟩ : S26) = (l.take (i + 1)).map conv ++ List.replicate (l.length - (i + 1)) z26 := by
        rw [List.set_append_right _ _ (by rw [List.length_map, List.length_take]; omega), List.length_map, List.length_take, show i - min i l.length = 0 from by omega,
          show l.length - i = (l.length - (i + 1)) + 1 from by omega, List.replicate_succ, List.set_cons_zero, List.take_succ_eq_append_getElem hi, List.map_append, List.append_assoc]
        rfl
      rw [e]
      exact ih
  have := key 0 (Nat.zero_le _)
  simpa using this
theorem eqDeedS_same {l : List S26} (hn : l.length ≤ 9223372036854775807) : Ev (fun k => laws_eqDeedS.f k l l) true := by
  unfold laws_eqDeedS.f
  refine ev_pos rfl ?_
  have key : ∀ i, i ≤ l.length → Ev (fun k => laws_eqDeedS.l0 k l l (i : Int)) true := by
    apply down
    · exact Ev.step (fun k => rfl) (ev_neg (by omega) (Ev.now _))
    · intro i hi ih
      have e : laws_eqDeed.f (rd_T26 l (i : Int)).f0 (rd_T26 l (i : Int)).f1 (rd_T26 l (i : Int)).f0 (rd_T26 l (i : Int)).f1 = some true := by unfold laws_eqDeed.f; rw [if_pos rfl, if_pos rfl]
      refine Ev.step (fun k => rfl) (ev_pos (by omega) (ev_pos (by omega) (ev_pos (by omega) (ev_bindc e (ev_tt ?_)))))
      rw [w1 hi hn]
      exact ih
  exact key 0 (Nat.zero_le _)
theorem szMind_d (t : Int) {l : List Int} {ls : List (List Int)} (hn : l.length ≤ 9223372036854775807) (hs : ls.length ≤ 9223372036854775807) (hl : ∀ y ∈ ls, y.length ≤ 9223372036854775807) : ∃ r, Ev (fun k => laws_szMind.f k t l ls 1048576) r ∧ (r < 0 ∨ (0 ≤ r ∧ r ≤ 1048576 ∧ l.length ≤ 1048576 ∧ ls.length ≤ 1048576 ∧ ∀ y ∈ ls, y.length ≤ 1048576)) := by
  unfold laws_szMind.f
  obtain ⟨r, e, h⟩ := szIntS_c (l := l) (a := 1048576) hn (by omega) (by omega)
  by_cases hr : r < 0
  · exact ⟨-1, ev_bindc e (ev_pos hr (Ev.now _)), Or.inl (by omega)⟩
  · obtain ⟨q, e2, h2⟩ := szIntSS_c (ls := ls) (a := r) hs hl (by omega) (by omega)
    by_cases hq : q < 0
    · exact ⟨-1, ev_bindc e (ev_neg hr (Ev.bind e2 (ev_pos hq (Ev.now _)))), Or.inl (by omega)⟩
    · refine ⟨q, ev_bindc e (ev_neg hr (Ev.bind e2 (ev_neg hq (Ev.now _)))), Or.inr ?_⟩
      rcases h2 with h2 | ⟨h3, h4, h5, h6⟩
      · exact absurd h2 hq
      · exact ⟨by omega, by omega, by omega, by omega, fun y hy => by have := h6 y hy; omega⟩
theorem szDeedS_d {l : List S23} {a : Int} (h0 : 0 ≤ a) (h1 : a ≤ 1048576) (hn : l.length ≤ 9223372036854775807) : ∃ r : Int, Ev (fun k => laws_szDeedS.f k l a) r ∧ (r < 0 ∨ l.length ≤ 1048576) := by
  unfold laws_szDeedS.f
  by_cases h : wrap64 (a - (l.length : Int)) < 0
  · exact ⟨-1, ev_pos h (Ev.now _), Or.inl (by decide)⟩
  · have hw := h
    rw [w64 (by omega) (by omega)] at hw
    have key : ∀ i, i ≤ l.length → ∀ b : Int, ∃ r : Int, Ev (fun k => laws_szDeedS.l0 k l b (i : Int)) r := by
      apply down
      · exact fun b => ⟨b, Ev.step (fun k => rfl) (ev_neg (by omega) (Ev.now _))⟩
      · intro i hi ih b
        by_cases c : wrap64 (b - ((rd_T23 l (i : Int)).f1.size : Int)) < 0
        · exact ⟨-1, Ev.step (fun k => rfl) (ev_pos (by omega) (ev_pos (by omega) (ev_bindc (show laws_szDeed.f _ _ b = some (-1) from if_pos c) (ev_pos (by decide) (Ev.now _)))))⟩
        · obtain ⟨r, hr⟩ := ih (wrap64 (b - ((rd_T23 l (i : Int)).f1.size : Int)))
          refine ⟨r, Ev.step (fun k => rfl) (ev_pos (by omega) (ev_pos (by omega) (ev_bindc (show laws_szDeed.f _ _ b = some _ from if_neg c) (ev_neg c ?_))))⟩
          rw [w1 hi hn]
          exact hr
    obtain ⟨r, hr⟩ := key 0 (Nat.zero_le _) (wrap64 (a - (l.length : Int)))
    exact ⟨r, ev_neg h hr, Or.inr (by omega)⟩
theorem strOfNums_size (l : List Int) : (strOfNums l).size = l.length := by
  show ((l.map fun n => n.toNat.toUInt8).toArray).size = _
  simp
theorem mark_loop : ∀ (n : Nat) (a : Int) (x : ByteArray), a.toNat ≤ n → a ≤ 4611686018427387904 → x.size + n ≤ 4611686018427387905 → ∃ t, Ev (fun k => laws_markText.l0 k a x) t := by
  intro n
  induction n with
  | zero =>
    intro a x h0 h1 h2
    exact ⟨_, Ev.step (fun k => rfl) (ev_neg (by omega) (ev_pos (by omega) (Ev.now _)))⟩
  | succ n ih =>
    intro a x h0 h1 h2
    by_cases h : a > 0
    · have hd : Int.tdiv a 10 = a / 10 := Int.tdiv_eq_ediv_of_nonneg (by omega)
      have hw : wrap64 (Int.tdiv a 10) = a / 10 := by rw [hd]; exact w64 (by omega) (by omega)
      obtain ⟨t, ht⟩ := ih (a / 10) (strOfNums [(wrap64 (48 + (Int.tmod a 10))) % 256] ++ x) (by omega) (by omega) (by rw [ByteArray.size_append, strOfNums_size]; show 1 + _ + _ ≤ _; omega)
      refine ⟨t, Ev.step (fun k => rfl) (ev_pos h (ev_bindc rfl (ev_pos (by rw [strOfNums_size]; show 1 + _ ≤ _; omega) ?_)))⟩
      rw [hw]
      exact ht
    · exact ⟨_, Ev.step (fun k => rfl) (ev_neg h (ev_pos (by omega) (Ev.now _)))⟩
theorem markText_d {a : Int} (h : a ≤ 4611686018427387904) : ∃ t, Ev (fun k => laws_markText.f k a) t := by
  by_cases h0 : a ≤ 0
  · exact ⟨_, ev_pos h0 (Ev.now _)⟩
  · obtain ⟨t, ht⟩ := mark_loop a.toNat a ⟨#[]⟩ (Nat.le_refl _) (by omega) (by show 0 + _ ≤ _; omega)
    exact ⟨t, ev_neg h0 ht⟩
theorem markDeedS_d {n : Nat} : ∀ (d : Nat) {i : Nat} (x : List S26) (a : Int), i + d = n → x.length = n → n ≤ 1048576 → 0 ≤ a → a + 2 * (d : Int) ≤ 4611686018427387904 → ∃ y, Ev (fun k => laws_markDeedS.l0 k x a (i : Int)) (a + 2 * (d : Int), y) := by
  intro d
  induction d with
  | zero =>
    intro i x a hi hx hn h0 h1
    refine ⟨x, Ev.step (fun k => rfl) (ev_neg (by omega) (ev_eq (Ev.now _) ?_))⟩
    simp
  | succ d ih =>
    intro i x a hi hx hn h0 h1
    obtain ⟨t, ht⟩ := markText_d (a := a + 1) (by omega)
    obtain ⟨y, hy⟩ := ih (i := i + 1) ((x.set i (⟨a, (rd_T26 x (i : Int)).f1⟩ : S26)).set i (⟨(rd_T26 (x.set i (⟨a, (rd_T26 x (i : Int)).f1⟩ : S26)) (i : Int)).f0, t⟩ : S26)) (a + 2) (by omega) (by rw [List.length_set, List.length_set]; exact hx) hn (by omega) (by omega)
    refine ⟨y, Ev.step (fun k => rfl) (ev_pos (by omega) (ev_pos (by omega) (ev_bindc rfl ?_)))⟩
    rw [w64 (n := a + 1) (by omega) (by omega)]
    refine Ev.bind ht ?_
    rw [Int.toNat_natCast, w64 (n := a + 1 + 1) (by omega) (by omega), w1 (i := i) (n := n) (by omega) (by omega)]
    refine ev_eq (?_ : Ev _ (a + 2 + 2 * (d : Int), y)) (by congr 1; omega)
    rw [show a + 1 + 1 = a + 2 from by omega]
    exact hy
theorem markDeedS_ev {l : List S26} {a : Int} (hn : l.length ≤ 1048576) (h0 : 0 ≤ a) (h1 : a ≤ 1000000000000000) : ∃ y, Ev (fun k => laws_markDeedS.f k l a) (a + 2 * (l.length : Int), y) := by
  obtain ⟨y, hy⟩ := markDeedS_d (n := l.length) l.length (i := 0) l a (by omega) rfl hn h0 (by omega)
  exact ⟨y, hy⟩
end Go.Proofs.Ytihgpkohglcijaa.Pl
