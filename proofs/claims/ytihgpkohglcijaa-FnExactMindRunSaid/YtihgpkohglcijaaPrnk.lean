/- Plain laws: ranks, tidy ranks: the reference's. -/
import Derived.Test.YtihgpkohglcijaaPx11
import Derived.Test.YtihgpkohglcijaaPx12
import Derived.Test.YtihgpkohglcijaaPto
import Derived.Test.YtihgpkohglcijaaPtidy
namespace Go.Proofs.Ytihgpkohglcijaa.Pl
open Go.RowKit Go.Proofs.YtihgpkohglcijaaW.PrintWords Go.Proofs.YtihgpkohglcijaaW.PrintLast Go.Proofs.YtihgpkohglcijaaW.PrintMore Go.Proofs.Ytihgpkohglcijaa.P Go.Proofs.Ytihgpkohglcijaa.Mt
def rankOk (t : Int) (l : List Int) : Bool := decide ((1 ≤ t ∧ t ≤ 3) ∧ l.length = wn t ∧ (∀ x ∈ l, 0 ≤ x ∧ x ≤ 9) ∧ (0 : Int) ∈ l)
theorem rankOk_iff {t : Int} {l : List Int} : rankOk t l = true ↔ (1 ≤ t ∧ t ≤ 3) ∧ l.length = wn t ∧ (∀ x ∈ l, 0 ≤ x ∧ x ≤ 9) ∧ (0 : Int) ∈ l := by unfold rankOk; exact decide_eq_true_iff
theorem rd_getD (l : List Int) (i : Nat) : rd l (i : Int) = l.getD i 0 := by unfold rd; rw [Int.toNat_natCast]
theorem mn_cases (a b : Int) : (mn a b = a ∨ mn a b = b) ∧ mn a b ≤ a ∧ mn a b ≤ b := by unfold mn; split <;> omega
theorem mx_cases (a b : Int) : (mx a b = a ∨ mx a b = b) ∧ a ≤ mx a b ∧ b ≤ mx a b := by unfold mx; split <;> omega
theorem RankOk_ev (t : Int) {l : List Int} (hn : l.length ≤ 9223372036854775807) : Ev (fun k => spec_RankOk.f k t l) (rankOk t l) := by
 unfold spec_RankOk.f
 have key : ∀ i, i ≤ l.length → ∀ m : Int, 0 ≤ m → m ≤ 9 → Ev (fun k => spec_RankOk.l0 k t l m (i : Int)) (decide ((1 ≤ t ∧ t ≤ 3) ∧ l.length = wn t ∧ (∀ x ∈ l.drop i, 0 ≤ x ∧ x ≤ 9) ∧ (m = 0 ∨ (0 : Int) ∈ l.drop i))) := by
  apply down
  ·intro m h0 h9
   refine Ev.step (fun k => rfl) (ev_neg (by omega) (ev_bindc (l1In_eq _ _ _) ?_))
   rw [List.drop_length]
   by_cases ht : 1 ≤ t ∧ t ≤ 3
   ·refine ev_pos (decide_eq_true ht) (ev_pos (by omega) ?_)
    rw [shl_wn ht]
    by_cases hl : l.length = wn t
    ·refine ev_pos (by omega) (ev_eq (Ev.now _) ?_)
     by_cases hm : m = 0
     ·rw [hm, decide_eq_true ⟨ht, hl, fun x hx => absurd hx (by simp), Or.inl rfl⟩]; rfl
     ·rw [decide_eq_false (fun k => by rcases k.2.2.2 with h | h; exact hm h; simp at h)]
      exact beq_eq_false_iff_ne.2 hm
    ·refine ev_neg (by omega) (ev_eq (Ev.now _) ?_)
     rw [decide_eq_false (fun k => hl k.2.1)]
   ·refine ev_neg (by rw [decide_eq_false ht]; decide) (ev_eq (Ev.now _) ?_)
    rw [decide_eq_false (fun k => ht k.1)]
  ·intro i hi ih m h0 h9
   refine Ev.step (fun k => rfl) (ev_pos (by omega) (ev_pos (by omega) (ev_bindc (l1In_eq _ _ _) ?_)))
   rw [rd_at hi]
   by_cases hr : 0 ≤ l[i] ∧ l[i] ≤ 9
   ·obtain ⟨m1, m2, m3⟩ := mn_cases m l[i]
    refine ev_pos (decide_eq_true hr) ?_
    rw [w1 hi hn]
    refine ev_eq (ih (mn m l[i]) (by omega) (by omega)) (decide_eq_decide.2 ?_)
    rw [List.drop_eq_getElem_cons hi]
    simp only [List.mem_cons, forall_eq_or_imp]
    constructor
    ·rintro ⟨a, b, c, d⟩
     refine ⟨a, b, ⟨hr, c⟩, ?_⟩
     rcases d with d | d
     ·rcases m1 with m1 | m1
      ·exact Or.inl (by omega)
      ·exact Or.inr (Or.inl (by omega))
     ·exact Or.inr (Or.inr d)
    ·rintro ⟨a, b, ⟨_, c⟩, d⟩
     refine ⟨a, b, c, ?_⟩
     rcases d with d | d | d
     ·exact Or.inl (by omega)
     ·exact Or.inl (by omega)
     ·exact Or.inr d
   ·refine ev_neg (by rw [decide_eq_false hr]; decide) (ev_eq (Ev.now _) ?_)
    rw [decide_eq_false (fun k => hr (k.2.2.1 _ (by rw [List.drop_eq_getElem_cons hi]; exact List.mem_cons_self)))]
 refine ev_eq (key 0 (Nat.zero_le _) 9 (by omega) (by omega)) (decide_eq_decide.2 ?_)
 rw [List.drop_zero]
 exact ⟨fun ⟨a, b, c, d⟩ => ⟨a, b, c, d.resolve_left (by omega)⟩, fun ⟨a, b, c, d⟩ => ⟨a, b, c, Or.inr d⟩⟩
/-! ### tidy: the reference -/
theorem TidyRank_ev {t : Int} {l : List Int} (h : rankOk t l = true) : Ev (fun k => spec_TidyRank.f k t l) (tidyL l) := by
 obtain ⟨ht, hl, hx, _⟩ := rankOk_iff.1 h
 have h8 := (wn_le t).1
 unfold spec_TidyRank.f
 have l2 : ∀ (out : List Int) (w c : Nat) (r : Int) (res : List Int), ∀ v, v ≤ l.length → ∀ b : Bool,
   Ev (fun k => spec_TidyRank.l1 k t l out (w : Int) (if (b = true ∨ r ∈ l.drop v) then wrap64 ((c : Int) + 1) else (c : Int)) (wrap64 (r + 1))) res → Ev (fun k => spec_TidyRank.l2 k t l out (w : Int) (c : Int) r b (v : Int)) res := by
  intro out w c r res
  apply down (P := fun v => ∀ b : Bool, Ev (fun k => spec_TidyRank.l1 k t l out (w : Int) (if (b = true ∨ r ∈ l.drop v) then wrap64 ((c : Int) + 1) else (c : Int)) (wrap64 (r + 1))) res → Ev (fun k => spec_TidyRank.l2 k t l out (w : Int) (c : Int) r b (v : Int)) res)
  ·intro b hb
   refine Ev.step (fun k => rfl) (ev_neg (by omega) ?_)
   rw [List.drop_length] at hb
   cases b with
   | true => rw [if_pos (Or.inl rfl)] at hb; exact ev_pos rfl hb
   | false => rw [if_neg (by simp)] at hb; exact ev_neg (by decide) hb
  ·intro v hv ih b hb
   refine Ev.step (fun k => rfl) (ev_pos (by omega) ?_)
   rw [List.drop_eq_getElem_cons hv] at hb
   cases b with
   | true =>
    refine ev_pos rfl ?_
    rw [w1 hv (by omega)]
    refine ih true ?_
    rw [if_pos (Or.inl rfl)] at hb ⊢
    exact hb
   | false =>
    refine ev_neg (by decide) (ev_pos (by omega) ?_)
    rw [rd_at hv, w1 hv (by omega)]
    refine ih _ ?_
    have : ((l[v] == r) = true ∨ r ∈ l.drop (v + 1)) ↔ (false = true ∨ r ∈ l[v] :: l.drop (v + 1)) := by
     rw [List.mem_cons, beq_iff_eq]
     constructor
     ·rintro (h | h)
      ·exact Or.inr (Or.inl h.symm)
      ·exact Or.inr (Or.inr h)
     ·rintro (h | h | h)
      ·cases h
      ·exact Or.inl h.symm
      ·exact Or.inr h
    simp only [this]
    exact hb
 have l1 : ∀ (out : List Int) (w : Nat) (hw : w < l.length) (res : List Int), out.length ≤ 8 → Ev (fun k => spec_TidyRank.l0 k t l (out ++ [(lev l l[w] : Int)]) ((w + 1 : Nat) : Int)) res →
   ∀ r, r ≤ (l[w]).toNat → Ev (fun k => spec_TidyRank.l1 k t l out (w : Int) (cntB l r : Int) (r : Int)) res := by
  intro out w hw res ho hres
  have hxw := hx _ (List.getElem_mem hw)
  apply down
  ·refine Ev.step (fun k => rfl) (ev_pos (by omega) (ev_neg (by rw [rd_at hw]; omega) (ev_pos (by omega) ?_)))
   rw [w1 hw (by omega)]
   exact hres
  ·intro r hr ih
   refine Ev.step (fun k => rfl) (ev_pos (by omega) (ev_pos (by rw [rd_at hw]; omega) ?_))
   refine l2 out w (cntB l r) (r : Int) res 0 (Nat.zero_le _) false ?_
   have hc := cntB_le l r
   have e : (if (false = true ∨ (r : Int) ∈ l.drop 0) then wrap64 ((cntB l r : Int) + 1) else (cntB l r : Int)) = ((cntB l (r + 1) : Nat) : Int) := by
    show _ = ((cntB l r + (if (r : Int) ∈ l then 1 else 0) : Nat) : Int)
    rw [List.drop_zero]
    by_cases hm : (r : Int) ∈ l
    ·rw [if_pos (Or.inr hm), if_pos hm, w64 (by omega) (by omega)]; rfl
    ·rw [if_neg (by rintro (k | k); cases k; exact hm k), if_neg hm]; rfl
   rw [e, w64 (n := (r : Int) + 1) (by omega) (by omega)]
   exact ih
 have l0 : ∀ w, w ≤ l.length → Ev (fun k => spec_TidyRank.l0 k t l ((l.take w).map fun x => (lev l x : Int)) (w : Int)) (tidyL l) := by
  apply down
  ·refine Ev.step (fun k => rfl) (ev_neg (by omega) (Ev.step (fun k => rfl) ?_))
   simp only [spec_TidyRank.j1]
   refine ev_neg (by decide) (ev_eq (Ev.now _) ?_)
   rw [List.take_length]
   rfl
  ·intro w hw ih
   have hr := RankOk_ev t (l := l) (by omega)
   rw [h] at hr
   refine Ev.step (fun k => rfl) (ev_pos (by omega) (Ev.bind hr (Ev.step (fun k => rfl) ?_)))
   simp only [spec_TidyRank.j1]
   refine ev_pos trivial (l1 _ w hw _ (by rw [List.length_map, List.length_take]; omega) ?_ 0 (Nat.zero_le _))
   rw [List.take_succ_eq_append_getElem hw, List.map_append] at ih
   exact ih
 exact l0 0 (Nat.zero_le _)
end Go.Proofs.Ytihgpkohglcijaa.Pl
