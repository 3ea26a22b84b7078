/- Plain laws: the deeds of a journal. -/
import Derived.Test.YtihgpkohglcijaaPx0
import Derived.Test.YtihgpkohglcijaaPx7
import Derived.Test.YtihgpkohglcijaaPmark
namespace Go.Proofs.Ytihgpkohglcijaa.Pl
open Go.RowKit Go.Proofs.YtihgpkohglcijaaW.PrintWords Go.Proofs.YtihgpkohglcijaaW.PrintLast Go.Proofs.YtihgpkohglcijaaW.PrintMore Go.Proofs.Ytihgpkohglcijaa.P Go.Proofs.Ytihgpkohglcijaa.Mt
def lineOf (l : List UInt8) : List UInt8 := l.takeWhile (· != 10)
/-- The deeds of a text, and how many bytes their lines have. -/
def rjL : Nat → List UInt8 → List S26 × Nat
  | 0, _ => ([], 0)
  | n + 1, l =>
    if (lineOf l).length = l.length then ([], 0)
    else if (rdeed ⟨(lineOf l).toArray⟩).2.2 = true then
      ((⟨(rdeed ⟨(lineOf l).toArray⟩).1, (rdeed ⟨(lineOf l).toArray⟩).2.1⟩ : S26) :: (rjL n (l.drop ((lineOf l).length + 1))).1, (lineOf l).length + 1 + (rjL n (l.drop ((lineOf l).length + 1))).2)
    else ([], 0)
theorem lineOf_cut {a b : List UInt8} (h : (10 : UInt8) ∉ a) : lineOf (a ++ 10 :: b) = a := by
  unfold lineOf
  rw [List.takeWhile_append_of_pos (fun x hx => by simp; rintro rfl; exact h hx)]
  simp
theorem lineOf_all {a : List UInt8} (h : (10 : UInt8) ∉ a) : lineOf a = a := by
  unfold lineOf
  induction a with
  | nil => rfl
  | cons x a ih =>
    rw [List.takeWhile_cons, if_pos (by simp; rintro rfl; exact h List.mem_cons_self), ih (fun k => h (List.mem_cons_of_mem _ k))]
theorem rjL_len : ∀ (n : Nat) (l : List UInt8), (rjL n l).2 ≤ l.length ∧ (rjL n l).1.length ≤ (rjL n l).2
  | 0, _ => ⟨Nat.zero_le _, Nat.le_refl _⟩
  | n + 1, l => by
    have ih := rjL_len n (l.drop ((lineOf l).length + 1))
    have hle : (lineOf l).length ≤ l.length := (List.takeWhile_prefix _).length_le
    rw [List.length_drop] at ih
    unfold rjL
    split
    · exact ⟨Nat.zero_le _, Nat.le_refl _⟩
    · split
      · rename_i h _
        show _ + 1 + _ ≤ _ ∧ _ + 1 ≤ _ + 1 + _
        omega
      · exact ⟨Nat.zero_le _, Nat.le_refl _⟩
theorem rj_impl {s : ByteArray} (hs : s.size ≤ 1048576) : ∀ (n p : Nat) (acc : List S26), s.size - p < n → p ≤ s.size → acc.length ≤ p →
    Ev (fun k => impl_ReadJournal.l0 k s acc (p : Int)) (acc ++ (rjL n (s.toList.drop p)).1, ((p + (rjL n (s.toList.drop p)).2 : Nat) : Int))
  | 0, p, acc, h, _, _ => by omega
  | n + 1, p, acc, h, hp, ha => by
    have hex : (s.extract p s.size).toList = s.toList.drop p := list_from s p
    have hsz : (s.extract p s.size).size = s.size - p := extract_size s hp
    refine Ev.step (fun k => rfl) (ev_pos (by omega) (ev_pos (by omega) ?_))
    rw [Int.toNat_natCast]
    rcases cut_cases (s.extract p s.size) 10 (by omega) with ⟨hc, hn⟩ | ⟨a, b, hc, hl, hn⟩
    · refine ev_bindc hc (Ev.bind (impl_readDeed_ev (s := s.extract p s.size) (by omega)) (ev_neg (by simp) (ev_eq (Ev.now _) ?_)))
      have : rjL (n + 1) (s.toList.drop p) = ([], 0) := by
        unfold rjL
        rw [← hex, lineOf_all hn, if_pos rfl]
      rw [this, List.append_nil]
      rfl
    · have hl' : s.toList.drop p = a.toList ++ 10 :: b.toList := hex.symm.trans hl
      have has : a.size + (b.size + 1) = s.size - p := by
        have := congrArg List.length hl
        rw [List.length_append, List.length_cons, size_list, size_list, size_list] at this
        omega
      have hln : lineOf (s.toList.drop p) = a.toList := by rw [hl']; exact lineOf_cut hn
      have hda : (⟨(lineOf (s.toList.drop p)).toArray⟩ : ByteArray) = a := ext_list (by rw [mk_list, hln])
      have hlen : ¬ (lineOf (s.toList.drop p)).length = (s.toList.drop p).length := by rw [hln, size_list, List.length_drop, size_list]; omega
      have hlnl : (lineOf (s.toList.drop p)).length = a.size := by rw [hln, size_list]
      refine ev_bindc hc (Ev.bind (impl_readDeed_ev (s := a) (by omega)) (ev_pos rfl ?_))
      unfold rjL
      rw [if_neg hlen, hda, hlnl]
      by_cases hd : (rdeed a).2.2 = true
      · rw [if_pos hd]
        have ih := rj_impl hs n (p + (a.size + 1)) (acc ++ [(⟨(rdeed a).1, (rdeed a).2.1⟩ : S26)]) (by omega) (by omega) (by rw [List.length_append]; show _ + 1 ≤ _; omega)
        refine ev_pos hd (ev_pos (by omega) ?_)
        have e : wrap64 ((p : Int) + wrap64 ((a.size : Int) + 1)) = ((p + (a.size + 1) : Nat) : Int) := by
          rw [w64 (n := (a.size : Int) + 1) (by omega) (by omega), w64 (by omega) (by omega)]
          omega
        rw [e, List.drop_drop]
        refine ev_eq ih ?_
        rw [List.append_assoc]
        simp only [List.singleton_append, Prod.mk.injEq, true_and]
        omega
      · rw [if_neg hd]
        refine ev_neg hd (ev_eq (Ev.now _) ?_)
        rw [List.append_nil]
        rfl
theorem rj_scan {s : ByteArray} (acc : List S26) (p : Int) {e : Nat} (he : e ≤ s.size) (hs : s.size ≤ 1048576) {r : List S26 × Int} (h : Ev (fun k => spec_ReadJournal.l0 k s acc p (e : Int)) r) :
    ∀ q, q ≤ e → (∀ j, q ≤ j → j < e → bt s (j : Int) ≠ 10) → Ev (fun k => spec_ReadJournal.l0 k s acc p (q : Int)) r := by
  apply down (P := fun q => (∀ j, q ≤ j → j < e → bt s (j : Int) ≠ 10) → Ev (fun k => spec_ReadJournal.l0 k s acc p (q : Int)) r)
  · intro _; exact h
  · intro q hq ih hn
    refine Ev.step (fun k => rfl) (ev_pos (by omega) (ev_pos (by omega) (ev_neg (hn q (Nat.le_refl _) hq) ?_)))
    rw [w1 (n := s.size) (by omega) (by omega)]
    exact ih (fun j h1 h2 => hn j (by omega) h2)
theorem bt_drop (s : ByteArray) {p j : Nat} (h : p + j < s.size) : bt s ((p + j : Nat) : Int) = (((s.toList.drop p)[j]'(by rw [List.length_drop, size_list]; omega)).toNat : Int) := by
  rw [bt_list s h, List.getElem_drop]
theorem rj_spec {s : ByteArray} (hs : s.size ≤ 1048576) : ∀ (n p : Nat) (acc : List S26), s.size - p < n → p ≤ s.size → acc.length ≤ p →
    Ev (fun k => spec_ReadJournal.l0 k s acc (p : Int) (p : Int)) (acc ++ (rjL n (s.toList.drop p)).1, ((p + (rjL n (s.toList.drop p)).2 : Nat) : Int))
  | 0, p, acc, h, _, _ => by omega
  | n + 1, p, acc, h, hp, ha => by
    have hex : (s.extract p s.size).toList = s.toList.drop p := list_from s p
    rcases cut_cases (s.extract p s.size) 10 (by rw [extract_size s hp]; omega) with ⟨_, hn⟩ | ⟨a, b, _, hl, hn⟩
    · have : rjL (n + 1) (s.toList.drop p) = ([], 0) := by
        unfold rjL
        rw [← hex, lineOf_all hn, if_pos rfl]
      rw [this, List.append_nil]
      refine rj_scan acc p (Nat.le_refl _) hs (Ev.step (fun k => rfl) (ev_neg (by omega) (Ev.now _))) p hp (fun j h1 h2 => ?_)
      obtain ⟨d, rfl⟩ : ∃ d, j = p + d := ⟨j - p, by omega⟩
      rw [bt_drop s h2]
      intro e
      apply hn
      rw [hex]
      have hm := List.getElem_mem (l := s.toList.drop p) (n := d) (by rw [List.length_drop, size_list]; omega)
      have : (s.toList.drop p)[d]'(by rw [List.length_drop, size_list]; omega) = 10 := UInt8.toNat_inj.1 (by have h10 : (10 : UInt8).toNat = 10 := rfl; omega)
      rw [this] at hm
      exact hm
    · have hl' : s.toList.drop p = a.toList ++ 10 :: b.toList := hex.symm.trans hl
      have has : a.size + (b.size + 1) = s.size - p := by
        have := congrArg List.length hl
        rw [List.length_append, List.length_cons, size_list, size_list, size_list, extract_size s hp] at this
        omega
      have hln : lineOf (s.toList.drop p) = a.toList := by rw [hl']; exact lineOf_cut hn
      have hda : (⟨(lineOf (s.toList.drop p)).toArray⟩ : ByteArray) = a := ext_list (by rw [mk_list, hln])
      have hlen : ¬ (lineOf (s.toList.drop p)).length = (s.toList.drop p).length := by rw [hln, size_list, List.length_drop, size_list]; omega
      have hlnl : (lineOf (s.toList.drop p)).length = a.size := by rw [hln, size_list]
      have hexa : s.extract p (p + a.size) = a := ext_list (by rw [list_extract, hl', Nat.add_sub_cancel_left, ← size_list, List.take_left])
      have at10 : bt s ((p + a.size : Nat) : Int) = 10 := by
        rw [bt_drop s (by omega)]
        have : (s.toList.drop p)[a.size]'(by rw [List.length_drop, size_list]; omega) = 10 := by
          simp only [hl']
          rw [List.getElem_append_right (by rw [size_list]; exact Nat.le_refl _)]
          simp [size_list]
        rw [this]
        rfl
      have fin : Ev (fun k => spec_ReadJournal.l0 k s acc (p : Int) ((p + a.size : Nat) : Int)) (acc ++ (rjL (n + 1) (s.toList.drop p)).1, ((p + (rjL (n + 1) (s.toList.drop p)).2 : Nat) : Int)) := by
        refine Ev.step (fun k => rfl) (ev_pos (by omega) (ev_pos (by omega) (ev_pos at10 (ev_pos (by omega) (ev_pos (by omega) (ev_pos (by omega) ?_))))))
        rw [Int.toNat_natCast, Int.toNat_natCast, hexa]
        refine Ev.bind (spec_ReadDeed_ev (s := a) (by omega)) ?_
        unfold rjL
        rw [if_neg hlen, hda, hlnl]
        by_cases hd : (rdeed a).2.2 = true
        · rw [if_pos hd]
          have ih := rj_spec hs n (p + (a.size + 1)) (acc ++ [(⟨(rdeed a).1, (rdeed a).2.1⟩ : S26)]) (by omega) (by omega) (by rw [List.length_append]; show _ + 1 ≤ _; omega)
          refine ev_pos hd (ev_pos (by omega) ?_)
          have e : wrap64 (((p + a.size : Nat) : Int) + 1) = ((p + (a.size + 1) : Nat) : Int) := by rw [w64 (by omega) (by omega)]; omega
          rw [e, List.drop_drop]
          refine ev_eq ih ?_
          rw [List.append_assoc]
          simp only [List.singleton_append, Prod.mk.injEq, true_and]
          omega
        · rw [if_neg hd]
          refine ev_neg hd (ev_eq (Ev.now _) ?_)
          rw [List.append_nil]
          rfl
      refine rj_scan acc p (by omega) hs fin p (by omega) (fun j h1 h2 => ?_)
      obtain ⟨d, rfl⟩ : ∃ d, j = p + d := ⟨j - p, by omega⟩
      rw [bt_drop s (by omega)]
      intro e
      apply hn
      have hd : d < a.toList.length := by rw [size_list]; omega
      have hm := List.getElem_mem (l := a.toList) (n := d) hd
      have : (s.toList.drop p)[d]'(by rw [List.length_drop, size_list]; omega) = 10 := UInt8.toNat_inj.1 (by have h10 : (10 : UInt8).toNat = 10 := rfl; omega)
      simp only [hl'] at this
      rw [List.getElem_append_left hd] at this
      rw [this] at hm
      exact hm
def rj (s : ByteArray) : List S26 × Int := ((rjL (s.size + 1) s.toList).1, ((rjL (s.size + 1) s.toList).2 : Int))
theorem impl_ReadJournal_ev {s : ByteArray} (hs : s.size ≤ 1048576) : Ev (fun k => impl_ReadJournal.f k s) (rj s) := by
  have := rj_impl hs (s.size + 1) 0 [] (by omega) (by omega) (by simp)
  rw [List.drop_zero, List.nil_append, Nat.zero_add] at this
  exact this
theorem spec_ReadJournal_ev {s : ByteArray} (hs : s.size ≤ 1048576) : Ev (fun k => spec_ReadJournal.f k s) (rj s) := by
  have := rj_spec hs (s.size + 1) 0 [] (by omega) (by omega) (by simp)
  rw [List.drop_zero, List.nil_append, Nat.zero_add] at this
  exact this
theorem rj_len (s : ByteArray) : (rj s).1.length ≤ s.size := by
  have := rjL_len (s.size + 1) s.toList
  rw [size_list] at this
  show (rjL _ _).1.length ≤ _
  omega
end Go.Proofs.Ytihgpkohglcijaa.Pl
