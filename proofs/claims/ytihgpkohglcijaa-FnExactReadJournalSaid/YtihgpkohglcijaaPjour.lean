/- Plain laws: lists of deeds: copies, comparisons; the text of a journal. -/
import Derived.Test.YtihgpkohglcijaaPx0
import Derived.Test.YtihgpkohglcijaaPx2
import Derived.Test.YtihgpkohglcijaaPx5
import Derived.Test.YtihgpkohglcijaaPread
namespace Go.Proofs.Ytihgpkohglcijaa.Pl
open Go.RowKit Go.Proofs.YtihgpkohglcijaaW.PrintWords Go.Proofs.YtihgpkohglcijaaW.PrintLast Go.Proofs.YtihgpkohglcijaaW.PrintMore Go.Proofs.Ytihgpkohglcijaa.P Go.Proofs.Ytihgpkohglcijaa.Mt
theorem ext23 {x y : S26} (h0 : x.f0 = y.f0) (h1 : x.f1 = y.f1) : x = y := by cases x; cases y; simp_all
theorem rd23_at {l : List S23} {i : Nat} (h : i < l.length) : rd_T23 l (i : Int) = l[i] := by
  unfold rd_T23
  rw [Int.toNat_natCast, List.getD_eq_getElem?_getD, List.getElem?_eq_getElem h]
  rfl
def conv (x : S23) : S26 := ⟨x.f0, x.f1⟩
theorem toDeedS_ev {l : List S23} (hn : l.length ≤ 11728124029610) : Ev (fun k => laws_toDeedS.f k l) (l.map conv) := by
  unfold laws_toDeedS.f
  refine ev_pos (by omega) (ev_pos (by omega) ?_)
  rw [Int.toNat_natCast]
  have key : ∀ i, i ≤ l.length → Ev (fun k => laws_toDeedS.l0 k l ((l.take i).map conv ++ List.replicate (l.length - i) z26) (i : Int)) (l.map conv) := by
    apply down
    · refine Ev.step (fun k => rfl) (ev_neg (by omega) (ev_eq (Ev.now _) ?_))
      rw [List.take_length, Nat.sub_self]
      exact List.append_nil _
    · intro i hi ih
      have hlen : ((l.take i).map conv ++ List.replicate (l.length - i) z26).length = l.length := by
        rw [List.length_append, List.length_map, List.length_take, List.length_replicate]; omega
      refine Ev.step (fun k => rfl) (ev_pos (by omega) (ev_pos (by omega) (ev_bindc rfl (ev_pos (by rw [hlen]; omega) ?_))))
      rw [rd23_at hi, w1 hi (by omega), Int.toNat_natCast]
      have e : ((l.take i).map conv ++ List.replicate (l.length - i) z26).set i (⟨l[i].f0, l[i].f1⟩ : S26) = (l.take (i + 1)).map conv ++ List.replicate (l.length - (i + 1)) z26 := by
        rw [List.set_append_right _ _ (by rw [List.length_map, List.length_take]; omega), List.length_map, List.length_take, show i - min i l.length = 0 from by omega,
          show l.length - i = (l.length - (i + 1)) + 1 from by omega, List.replicate_succ, List.set_cons_zero, List.take_succ_eq_append_getElem hi, List.map_append, List.append_assoc]
        rfl
      rw [e]
      exact ih
  have := key 0 (Nat.zero_le _)
  simpa using this
theorem eqDeedS_same {l : List S26} (hn : l.length ≤ 9223372036854775807) : Ev (fun k => laws_eqDeedS.f k l l) true := by
  unfold laws_eqDeedS.f
  refine ev_pos rfl ?_
  have key : ∀ i, i ≤ l.length → Ev (fun k => laws_eqDeedS.l0 k l l (i : Int)) true := by
    apply down
    · exact Ev.step (fun k => rfl) (ev_neg (by omega) (Ev.now _))
    · intro i hi ih
      have e : laws_eqDeed.f (rd_T26 l (i : Int)).f0 (rd_T26 l (i : Int)).f1 (rd_T26 l (i : Int)).f0 (rd_T26 l (i : Int)).f1 = some true := by unfold laws_eqDeed.f; rw [if_pos rfl, if_pos rfl]
      refine Ev.step (fun k => rfl) (ev_pos (by omega) (ev_pos (by omega) (ev_pos (by omega) (ev_bindc e (ev_tt ?_)))))
      rw [w1 hi hn]
      exact ih
  exact key 0 (Nat.zero_le _)

/-! ### how much is in a list -/
def weight (l : List S23) : Nat := (l.map fun x => x.f1.size).sum
theorem szDeedS_ev {l : List S23} (hn : l.length ≤ 9223372036854775807) (hx : ∀ x ∈ l, x.f1.size ≤ 9223372036854775807) : ∃ r : Int, Ev (fun k => laws_szDeedS.f k l 1048576) r ∧ (r < 0 ∨ (0 ≤ r ∧ r ≤ 1048576 - (l.length : Int) - (weight l : Int))) := by
  unfold laws_szDeedS.f
  by_cases h : wrap64 (1048576 - (l.length : Int)) < 0
  · exact ⟨-1, ev_pos h (Ev.now _), Or.inl (by decide)⟩
  · rw [w64 (by omega) (by omega)] at h
    have key : ∀ i, i ≤ l.length → ∀ a : Int, 0 ≤ a → a ≤ 1048576 → ∃ r : Int, Ev (fun k => laws_szDeedS.l0 k l a (i : Int)) r ∧ (r < 0 ∨ (0 ≤ r ∧ r ≤ a - (weight (l.drop i) : Int))) := by
      apply down
      · intro a h0 h1
        refine ⟨a, Ev.step (fun k => rfl) (ev_neg (by omega) (Ev.now _)), Or.inr ⟨h0, ?_⟩⟩
        rw [List.drop_length]
        simp [weight]
      · intro i hi ih a h0 h1
        have hs := hx _ (List.getElem_mem hi)
        have hw : weight (l.drop i) = l[i].f1.size + weight (l.drop (i + 1)) := by unfold weight; rw [List.drop_eq_getElem_cons hi, List.map_cons, List.sum_cons]
        by_cases c : a - (l[i].f1.size : Int) < 0
        · have e : laws_szDeed.f (rd_T23 l (i : Int)).f0 (rd_T23 l (i : Int)).f1 a = some (-1) := by
            rw [rd23_at hi]; unfold laws_szDeed.f; rw [w64 (by omega) (by omega), if_pos c]
          exact ⟨-1, Ev.step (fun k => rfl) (ev_pos (by omega) (ev_pos (by omega) (ev_bindc e (ev_pos (by decide) (Ev.now _))))), Or.inl (by decide)⟩
        · have e : laws_szDeed.f (rd_T23 l (i : Int)).f0 (rd_T23 l (i : Int)).f1 a = some (a - (l[i].f1.size : Int)) := by
            rw [rd23_at hi]; unfold laws_szDeed.f; rw [w64 (by omega) (by omega), if_neg c]
          obtain ⟨r, hr, hb⟩ := ih (a - (l[i].f1.size : Int)) (by omega) (by omega)
          refine ⟨r, Ev.step (fun k => rfl) (ev_pos (by omega) (ev_pos (by omega) (ev_bindc e (ev_neg (by omega) ?_)))), ?_⟩
          · rw [w1 hi hn]; exact hr
          · rw [hw]; omega
    obtain ⟨r, hr, hb⟩ := key 0 (Nat.zero_le _) (1048576 - (l.length : Int)) (by omega) (by omega)
    rw [w64 (by omega) (by omega)]
    refine ⟨r, ev_neg (by omega) hr, ?_⟩
    rw [List.drop_zero] at hb
    exact hb

/-! ### the text of a journal -/
def sumS (l : List S26) : Nat := (l.map fun x => x.f1.size).sum
def jour (l : List S26) : ByteArray := if (l.all fun x => decide ((deedT x.f0 x.f1).toList ≠ [])) = true then ⟨(l.flatMap fun x => (deedT x.f0 x.f1).toList ++ [10]).toArray⟩ else ⟨#[]⟩
theorem jour_list (l : List S26) : (jour l).toList = if (l.all fun x => decide ((deedT x.f0 x.f1).toList ≠ [])) = true then (l.flatMap fun x => (deedT x.f0 x.f1).toList ++ [10]) else [] := by
  unfold jour
  split
  · exact mk_list _
  · exact nil_list
theorem deedT_size (a : Int) (s : ByteArray) : (deedT a s).size ≤ s.size + 6 := by
  unfold deedT
  have f : sFirst.size = 6 := rfl
  have g : sAll.size = 4 := rfl
  have b : sBack.size = 4 := rfl
  have n : (⟨#[]⟩ : ByteArray).size = 0 := rfl
  split
  · omega
  · split
    · split
      · rw [ByteArray.size_append]; omega
      · split
        · rw [ByteArray.size_append]; omega
        · omega
    · omega
theorem spec_JournalText_ev {l : List S26} (hn : l.length ≤ 1048576) (hs : sumS l ≤ 1048576) : Ev (fun k => spec_JournalText.f k l) (jour l) := by
  unfold spec_JournalText.f
  have hm : ∀ i, i < l.length → ∀ h : i < l.length, l[i].f1.size + sumS (l.drop (i + 1)) = sumS (l.drop i) := by
    intro i hi h; unfold sumS; rw [List.drop_eq_getElem_cons hi, List.map_cons, List.sum_cons]
  have hle : ∀ i, sumS (l.drop i) ≤ sumS l := by
    intro i
    have : sumS l = sumS (l.take i) + sumS (l.drop i) := by
      unfold sumS
      rw [← List.sum_append, ← List.map_append, List.take_append_drop]
    omega
  have key : ∀ i, i ≤ l.length → ∀ x : ByteArray, x.size + sumS (l.drop i) + 8 * (l.length - i) ≤ 100000000 → ∃ r : ByteArray, Ev (fun k => spec_JournalText.l0 k l x (i : Int)) r ∧
      r.toList = if ((l.drop i).all fun x => decide ((deedT x.f0 x.f1).toList ≠ [])) = true then x.toList ++ ((l.drop i).flatMap fun x => (deedT x.f0 x.f1).toList ++ [10]) else [] := by
    apply down
    · intro x _
      refine ⟨x, Ev.step (fun k => rfl) (ev_neg (by omega) (Ev.now _)), ?_⟩
      rw [List.drop_length]; simp
    · intro i hi ih x hx
      have h1 := hm i hi hi
      have h2 := hle i
      have hd := deedT_size l[i].f0 l[i].f1
      have sp : Ev (fun k => spec_DeedText.f k (rd_T26 l (i : Int)).f0 (rd_T26 l (i : Int)).f1) (deedT l[i].f0 l[i].f1) := by
        rw [rd26_at hi]; exact spec_DeedText_ev _ (by omega)
      rw [List.drop_eq_getElem_cons hi, List.all_cons, List.flatMap_cons]
      by_cases c : (deedT l[i].f0 l[i].f1).toList = []
      · refine ⟨⟨#[]⟩, Ev.step (fun k => rfl) (ev_pos (by omega) (ev_pos (by omega) (Ev.bind sp (ev_pos c (Ev.now _))))), ?_⟩
        rw [decide_eq_false (fun k => k c), Bool.false_and, if_neg (by decide), nil_list]
      · obtain ⟨r, hr, e⟩ := ih ((x ++ deedT l[i].f0 l[i].f1) ++ (⟨#[10]⟩ : ByteArray)) (by rw [ByteArray.size_append, ByteArray.size_append]; show x.size + _ + 1 + _ + _ ≤ _; omega)
        refine ⟨r, Ev.step (fun k => rfl) (ev_pos (by omega) (ev_pos (by omega) (Ev.bind sp (ev_neg c (Ev.bind sp (ev_pos (by omega) (ev_pos (by rw [ByteArray.size_append]; omega) ?_))))))), ?_⟩
        · rw [w1 hi (by omega)]; exact hr
        · rw [e, decide_eq_true (p := _ ≠ _) c, Bool.true_and, list_append, list_append, List.append_assoc, List.append_assoc, List.append_assoc]
          have : (⟨#[10]⟩ : ByteArray).toList = [10] := mk_list [10]
          rw [this]
  obtain ⟨r, hr, e⟩ := key 0 (Nat.zero_le _) ⟨#[]⟩ (by rw [List.drop_zero]; show 0 + _ + _ ≤ _; omega)
  have : r = jour l := ext_list (by rw [e, jour_list, List.drop_zero, nil_list]; rfl)
  rw [← this]
  exact hr
theorem impl_JournalText_ev {l : List S26} (hn : l.length ≤ 1048576) (hs : sumS l ≤ 1048576) : Ev (fun k => impl_JournalText.f k l) (jour l) := by
  unfold impl_JournalText.f
  have hm : ∀ i, i < l.length → ∀ h : i < l.length, l[i].f1.size + sumS (l.drop (i + 1)) = sumS (l.drop i) := by
    intro i hi h; unfold sumS; rw [List.drop_eq_getElem_cons hi, List.map_cons, List.sum_cons]
  have hle : ∀ i, sumS (l.drop i) ≤ sumS l := by
    intro i
    have : sumS l = sumS (l.take i) + sumS (l.drop i) := by
      unfold sumS
      rw [← List.sum_append, ← List.map_append, List.take_append_drop]
    omega
  have key : ∀ i, i ≤ l.length → ∀ x : ByteArray, x.size + sumS (l.drop i) + 8 * (l.length - i) ≤ 100000000 → ∃ r : ByteArray, Ev (fun k => impl_JournalText.l0 k x l (l.length : Int) (i : Int)) r ∧
      r.toList = if ((l.drop i).all fun x => decide ((deedT x.f0 x.f1).toList ≠ [])) = true then x.toList ++ ((l.drop i).flatMap fun x => (deedT x.f0 x.f1).toList ++ [10]) else [] := by
    apply down
    · intro x _
      refine ⟨x, Ev.step (fun k => rfl) (ev_neg (by omega) (Ev.now _)), ?_⟩
      rw [List.drop_length]; simp
    · intro i hi ih x hx
      have h1 := hm i hi hi
      have h2 := hle i
      have hd := deedT_size l[i].f0 l[i].f1
      have sp : Ev (fun k => impl_deedText.f k (rd_T26 l (i : Int)).f0 (rd_T26 l (i : Int)).f1) (deedT l[i].f0 l[i].f1) := by
        rw [rd26_at hi]; exact impl_deedText_ev _ (by omega)
      rw [List.drop_eq_getElem_cons hi, List.all_cons, List.flatMap_cons]
      have t10 : (⟨#[10]⟩ : ByteArray).toList = [10] := mk_list [10]
      have s10 : (⟨#[10]⟩ : ByteArray).size = 1 := rfl
      by_cases c : (deedT l[i].f0 l[i].f1).toList = []
      · refine ⟨⟨#[]⟩, Ev.step (fun k => rfl) (ev_pos (by omega) (ev_pos (by omega) (ev_pos (by omega) (Ev.bind sp (ev_pos c (Ev.now _)))))), ?_⟩
        rw [decide_eq_false (fun k => k c), Bool.false_and, if_neg (by decide), nil_list]
      · obtain ⟨r, hr, e⟩ := ih (x ++ (deedT l[i].f0 l[i].f1 ++ (⟨#[10]⟩ : ByteArray))) (by rw [ByteArray.size_append, ByteArray.size_append]; omega)
        refine ⟨r, Ev.step (fun k => rfl) (ev_pos (by omega) (ev_pos (by omega) (ev_pos (by omega) (Ev.bind sp (ev_neg c (ev_pos (by omega) (ev_pos (by rw [ByteArray.size_append]; omega) ?_))))))), ?_⟩
        · rw [w1 hi (by omega)]; exact hr
        · rw [e, decide_eq_true (p := _ ≠ _) c, Bool.true_and, list_append, list_append, t10, List.append_assoc]
  obtain ⟨r, hr, e⟩ := key 0 (Nat.zero_le _) ⟨#[]⟩ (by rw [List.drop_zero]; show 0 + _ + _ ≤ _; omega)
  have : r = jour l := ext_list (by rw [e, jour_list, List.drop_zero, nil_list]; rfl)
  rw [← this]
  exact hr
theorem sum_conv (l : List S23) : sumS (l.map conv) = weight l := by
  unfold sumS weight
  rw [List.map_map]
  rfl
end Go.Proofs.Ytihgpkohglcijaa.Pl
