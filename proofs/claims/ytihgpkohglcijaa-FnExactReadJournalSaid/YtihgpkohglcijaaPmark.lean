/- Plain laws: marks on lists of deeds. -/
import Derived.Test.YtihgpkohglcijaaPx0
import Derived.Test.YtihgpkohglcijaaPx7
import Derived.Test.YtihgpkohglcijaaPjour
namespace Go.Proofs.Ytihgpkohglcijaa.Pl
open Go.RowKit Go.Proofs.YtihgpkohglcijaaW.PrintWords Go.Proofs.YtihgpkohglcijaaW.PrintLast Go.Proofs.YtihgpkohglcijaaW.PrintMore Go.Proofs.Ytihgpkohglcijaa.P Go.Proofs.Ytihgpkohglcijaa.Mt
theorem strOfNums_size (l : List Int) : (strOfNums l).size = l.length := by
  show ((l.map fun n => n.toNat.toUInt8).toArray).size = _
  simp
theorem mark_loop : ∀ (n : Nat) (a : Int) (x : ByteArray), a.toNat ≤ n → a ≤ 1000000000000 → x.size + n ≤ 1000000000000 → ∃ t, Ev (fun k => laws_markText.l0 k a x) t := by
  intro n
  induction n with
  | zero =>
    intro a x h0 h1 h2
    exact ⟨_, Ev.step (fun k => rfl) (ev_neg (by omega) (ev_pos (by omega) (Ev.now _)))⟩
  | succ n ih =>
    intro a x h0 h1 h2
    by_cases h : a > 0
    · have hd : Int.tdiv a 10 = a / 10 := Int.tdiv_eq_ediv_of_nonneg (by omega)
      have hw : wrap64 (Int.tdiv a 10) = a / 10 := by rw [hd]; exact w64 (by omega) (by omega)
      obtain ⟨t, ht⟩ := ih (a / 10) (strOfNums [(wrap64 (48 + (Int.tmod a 10))) % 256] ++ x) (by omega) (by omega) (by rw [ByteArray.size_append, strOfNums_size]; show 1 + _ + _ ≤ _; omega)
      refine ⟨t, Ev.step (fun k => rfl) (ev_pos h (ev_bindc rfl (ev_pos (by rw [strOfNums_size]; show 1 + _ ≤ _; omega) ?_)))⟩
      rw [hw]
      exact ht
    · exact ⟨_, Ev.step (fun k => rfl) (ev_neg h (ev_pos (by omega) (Ev.now _)))⟩
theorem markText_ev : ∃ f : Int → ByteArray, ∀ a : Int, a ≤ 100000000 → Ev (fun k => laws_markText.f k a) (f a) := by
  have key : ∀ a : Int, ∃ t, a ≤ 100000000 → Ev (fun k => laws_markText.f k a) t := by
    intro a
    by_cases h : a ≤ 100000000
    · by_cases h0 : a ≤ 0
      · exact ⟨_, fun _ => ev_pos h0 (Ev.now _)⟩
      · obtain ⟨t, ht⟩ := mark_loop a.toNat a ⟨#[]⟩ (Nat.le_refl _) (by omega) (by show 0 + _ ≤ _; omega)
        exact ⟨t, fun _ => ev_neg h0 ht⟩
    · exact ⟨⟨#[]⟩, fun k => absurd k h⟩
  exact ⟨fun a => Classical.choose (key a), fun a h => Classical.choose_spec (key a) h⟩
def mkD (f : Int → ByteArray) (n : Nat) : List S26 := (List.range n).map fun (j : Nat) => (⟨2 * (j : Int) + 1, f (2 * (j : Int) + 2)⟩ : S26)
theorem mkD_length (f : Int → ByteArray) (n : Nat) : (mkD f n).length = n := by simp [mkD]
theorem mkD_succ (f : Int → ByteArray) (n : Nat) : mkD f (n + 1) = mkD f n ++ [(⟨2 * (n : Int) + 1, f (2 * (n : Int) + 2)⟩ : S26)] := by
  unfold mkD
  rw [List.range_succ, List.map_append]
  rfl
theorem mkD_at (f : Int → ByteArray) {n i : Nat} (h : i < n) : rd_T26 (mkD f n) (i : Int) = (⟨2 * (i : Int) + 1, f (2 * (i : Int) + 2)⟩ : S26) := by
  rw [rd26_at (by rw [mkD_length]; exact h)]
  simp [mkD]
theorem marks_ev : ∃ f : Int → ByteArray, (∀ l : List S26, l.length ≤ 10000000 → Ev (fun k => laws_markDeedS.f k l 1) (2 * (l.length : Int) + 1, mkD f l.length)) ∧
    ∀ n : Nat, n ≤ 10000000 → Ev (fun k => laws_heldDeedS.f k (mkD f n) 1) (2 * (n : Int) + 1) := by
  obtain ⟨f, hf⟩ := markText_ev
  refine ⟨f, fun l hl => ?_, fun n hn => ?_⟩
  · unfold laws_markDeedS.f
    have key : ∀ i, i ≤ l.length → Ev (fun k => laws_markDeedS.l0 k (mkD f i ++ l.drop i) (2 * (i : Int) + 1) (i : Int)) (2 * (l.length : Int) + 1, mkD f l.length) := by
      apply down
      · refine Ev.step (fun k => rfl) (ev_neg (by rw [List.drop_length, List.append_nil, mkD_length]; omega) (ev_eq (Ev.now _) ?_))
        rw [List.drop_length, List.append_nil]
      · intro i hi ih
        have hlen : (mkD f i ++ l.drop i).length = l.length := by rw [List.length_append, mkD_length, List.length_drop]; omega
        have e1 : wrap64 (2 * (i : Int) + 1 + 1) = 2 * (i : Int) + 2 := by rw [w64 (by omega) (by omega)]; omega
        have e2 : wrap64 (2 * (i : Int) + 2 + 1) = 2 * ((i + 1 : Nat) : Int) + 1 := by rw [w64 (by omega) (by omega)]; omega
        have hs : ∀ v : S26, (mkD f i ++ l.drop i).set i v = mkD f i ++ v :: l.drop (i + 1) := by
          intro v
          rw [List.set_append_right _ _ (by rw [mkD_length]; exact Nat.le_refl _), mkD_length, Nat.sub_self, List.drop_eq_getElem_cons hi, List.set_cons_zero]
        have hs2 : ∀ v u : S26, (mkD f i ++ u :: l.drop (i + 1)).set i v = mkD f i ++ v :: l.drop (i + 1) := by
          intro v u
          rw [List.set_append_right _ _ (by rw [mkD_length]; exact Nat.le_refl _), mkD_length, Nat.sub_self, List.set_cons_zero]
        refine Ev.step (fun k => rfl) (ev_pos (by rw [hlen]; omega) (ev_pos (by omega) (ev_bindc rfl ?_)))
        rw [e1]
        refine Ev.bind (hf (2 * (i : Int) + 2) (by omega)) ?_
        rw [Int.toNat_natCast, hs, hs2, e2, w1 hi (by omega)]
        have hr : rd_T26 (mkD f i ++ (⟨2 * (i : Int) + 1, (rd_T26 (mkD f i ++ l.drop i) (i : Int)).f1⟩ : S26) :: l.drop (i + 1)) (i : Int) = (⟨2 * (i : Int) + 1, (rd_T26 (mkD f i ++ l.drop i) (i : Int)).f1⟩ : S26) := by
          rw [rd26_at (by rw [List.length_append, mkD_length, List.length_cons]; omega), List.getElem_append_right (by rw [mkD_length]; exact Nat.le_refl _)]
          simp [mkD_length]
        rw [hr]
        rw [mkD_succ, List.append_assoc] at ih
        exact ih
    have := key 0 (Nat.zero_le _)
    exact this
  · unfold laws_heldDeedS.f
    have key : ∀ i, i ≤ n → Ev (fun k => laws_heldDeedS.l0 k (mkD f n) (2 * (i : Int) + 1) (i : Int)) (2 * (n : Int) + 1) := by
      apply down
      · exact Ev.step (fun k => rfl) (ev_neg (by rw [mkD_length]; omega) (Ev.now _))
      · intro i hi ih
        have e1 : wrap64 (2 * (i : Int) + 1 + 1) = 2 * (i : Int) + 2 := by rw [w64 (by omega) (by omega)]; omega
        have e2 : wrap64 (2 * (i : Int) + 2 + 1) = 2 * ((i + 1 : Nat) : Int) + 1 := by rw [w64 (by omega) (by omega)]; omega
        refine Ev.step (fun k => rfl) (ev_pos (by rw [mkD_length]; omega) (ev_pos (by omega) (ev_pos (by rw [mkD_at f hi]) ?_)))
        rw [e1]
        refine Ev.bind (hf (2 * (i : Int) + 2) (by omega)) (ev_pos (by rw [mkD_at f hi]) ?_)
        rw [e2, w1 hi (by omega)]
        exact ih
    exact key 0 (Nat.zero_le _)
end Go.Proofs.Ytihgpkohglcijaa.Pl
