/- Plain laws: deeds done one after the other: the program's and the reference's are the same, and in two parts too. -/
import Derived.Test.YtihgpkohglcijaaPx0
import Derived.Test.YtihgpkohglcijaaPx8
import Derived.Test.YtihgpkohglcijaaPx11
import Derived.Test.YtihgpkohglcijaaPx14
import Derived.Test.YtihgpkohglcijaaPx18
import Derived.Test.YtihgpkohglcijaaPtot
import Derived.Test.YtihgpkohglcijaaPrd26
namespace Go.Proofs.Ytihgpkohglcijaa.Pl
open Go.RowKit Go.Proofs.YtihgpkohglcijaaW.PrintWords Go.Proofs.YtihgpkohglcijaaW.PrintLast Go.Proofs.YtihgpkohglcijaaW.PrintMore Go.Proofs.Ytihgpkohglcijaa.P Go.Proofs.Ytihgpkohglcijaa.Mt
def mrun : List S26 → Int → List Int → List (List Int) → Int → Int × List Int × List (List Int) × Int
  | [], t, l, ls, n => (t, l, ls, n)
  | d :: q, t, l, ls, n => if (mdo t l ls d.f0 d.f1).2.2.2 = true then mrun q (mdo t l ls d.f0 d.f1).1 (mdo t l ls d.f0 d.f1).2.1 (mdo t l ls d.f0 d.f1).2.2.1 (n + 1) else mrun q t l ls n
theorem mrun_ok : ∀ (q : List S26) {t : Int} {l : List Int} {ls : List (List Int)} (n : Int), mindOk t l ls = true → mindOk (mrun q t l ls n).1 (mrun q t l ls n).2.1 (mrun q t l ls n).2.2.1 = true
  | [], _, _, _, _, h => h
  | d :: q, t, l, ls, n, h => by
    unfold mrun
    split
    · exact mrun_ok q (n + 1) (mdo_ok h d.f0 d.f1)
    · exact mrun_ok q n h
theorem mrun_num : ∀ (q : List S26) (t : Int) (l : List Int) (ls : List (List Int)) (n : Int), mrun q t l ls n = ((mrun q t l ls 0).1, (mrun q t l ls 0).2.1, (mrun q t l ls 0).2.2.1, n + (mrun q t l ls 0).2.2.2)
  | [], t, l, ls, n => by unfold mrun; rw [Int.add_zero]
  | d :: q, t, l, ls, n => by
    unfold mrun
    split
    · rw [mrun_num q _ _ _ (n + 1), mrun_num q _ _ _ (0 + 1)]
      dsimp only
      rw [Int.add_assoc, Int.zero_add]
    · exact mrun_num q t l ls n
theorem mrun_le : ∀ (q : List S26) (t : Int) (l : List Int) (ls : List (List Int)) (n : Int), n ≤ (mrun q t l ls n).2.2.2 ∧ (mrun q t l ls n).2.2.2 ≤ n + q.length
  | [], t, l, ls, n => ⟨Int.le_refl _, by unfold mrun; simp⟩
  | d :: q, t, l, ls, n => by
    unfold mrun
    rw [List.length_cons]
    split
    · have := mrun_le q (mdo t l ls d.f0 d.f1).1 (mdo t l ls d.f0 d.f1).2.1 (mdo t l ls d.f0 d.f1).2.2.1 (n + 1)
      omega
    · have := mrun_le q t l ls n
      omega
theorem mrun_append : ∀ (p q : List S26) (t : Int) (l : List Int) (ls : List (List Int)) (n : Int), mrun (p ++ q) t l ls n = mrun q (mrun p t l ls n).1 (mrun p t l ls n).2.1 (mrun p t l ls n).2.2.1 (mrun p t l ls n).2.2.2
  | [], _, _, _, _, _ => rfl
  | d :: p, q, t, l, ls, n => by
    have e : ∀ q : List S26, mrun (d :: q) t l ls n = if (mdo t l ls d.f0 d.f1).2.2.2 = true then mrun q (mdo t l ls d.f0 d.f1).1 (mdo t l ls d.f0 d.f1).2.1 (mdo t l ls d.f0 d.f1).2.2.1 (n + 1) else mrun q t l ls n := fun _ => rfl
    rw [List.cons_append, e, e]
    split
    · rw [mrun_append p q]
    · rw [mrun_append p q]
theorem mind_lens {t : Int} {l : List Int} {ls : List (List Int)} (hm : mindOk t l ls = true) : l.length ≤ 8 ∧ ls.length ≤ 10 ∧ ∀ y ∈ ls, y.length ≤ 8 := by
  obtain ⟨o1, o2, o3⟩ := mindOk_iff.1 hm
  exact ⟨(tidyOk_len o1).2, o2, fun y hy => (tidyOk_len (o3 y hy)).2⟩
theorem impl_MindRun_ev {t : Int} {l : List Int} {ls : List (List Int)} {q : List S26} (hn : l.length ≤ 9223372036854775807) (hl : ∀ y ∈ ls, y.length ≤ 9223372036854775807) (hq : q.length ≤ 1048576) :
    Ev (fun k => impl_MindRun.f k t l ls q) (if mindOk t l ls = true ∧ q.length ≤ 40 then mrun q t l ls 0 else (0, [], [], 0)) := by
  unfold impl_MindRun.f
  refine Ev.bind (isMind_ev t hn hl) ?_
  have no : Ev (fun k => impl_MindRun.j0 k q true t l ls) (0, [], [], 0) := Ev.step (f := fun _ => some (0, ([] : List Int), ([] : List (List Int)), 0)) (fun k => rfl) (Ev.now _)
  by_cases hm : mindOk t l ls = true
  · refine ev_pos hm ?_
    by_cases h40 : q.length ≤ 40
    · rw [if_pos ⟨hm, h40⟩, decide_eq_false (by omega)]
      obtain ⟨b1, b2, b3⟩ := mind_lens hm
      have key : ∀ i, i ≤ q.length → ∀ (n : Nat) (t : Int) (l : List Int) (ls : List (List Int)), n ≤ i → mindOk t l ls = true → Ev (fun k => impl_MindRun.l0 k (n : Int) q (q.length : Int) (i : Int) t l ls) (mrun (q.drop i) t l ls (n : Int)) := by
        apply down
        · intro n t l ls _ _
          refine Ev.step (fun k => rfl) (ev_neg (by omega) (ev_eq (Ev.now _) ?_))
          rw [List.drop_length]
          rfl
        · intro i hi ih n t l ls hni hm
          refine Ev.step (fun k => rfl) (ev_pos (by omega) (ev_pos (by omega) (ev_pos (by omega) ?_)))
          rw [rd26_at hi, List.drop_eq_getElem_cons hi, w1 hi (by omega), w1 (i := n) (n := n + 1) (by omega) (by omega)]
          refine Ev.bind (impl_mindDo_ev hm q[i].f0 q[i].f1) ?_
          unfold mrun
          by_cases c : (mdo t l ls q[i].f0 q[i].f1).2.2.2 = true
          · rw [if_pos c]
            exact ev_pos c (ih (n + 1) _ _ _ (by omega) (mdo_ok hm _ _))
          · rw [if_neg c]
            exact ev_neg c (ih n t l ls (by omega) hm)
      have go := key 0 (Nat.zero_le _) 0 t l ls (Nat.le_refl _) hm
      rw [List.drop_zero] at go
      exact Ev.step (f := fun k => (impl_copyMind.f k t l ls).bind fun bt577 => (impl_MindRun.l0 k 0 q (q.length : Int) 0 bt577.1 bt577.2.1 bt577.2.2)) (fun k => rfl) (Ev.bind (copyMind_ev t (by omega) (by omega) (fun y hy => by have := b3 y hy; omega)) go)
    · rw [if_neg (fun k => h40 k.2), decide_eq_true (by omega)]
      exact no
  · rw [if_neg (fun k => hm k.1)]
    exact ev_neg hm no
theorem spec_MindRun_ev {t : Int} {l : List Int} {ls : List (List Int)} {q : List S26} (hn : l.length ≤ 9223372036854775807) (hs : ls.length ≤ 9223372036854775807) (hl : ∀ y ∈ ls, y.length ≤ 9223372036854775807) (hq : q.length ≤ 1048576) :
    Ev (fun k => spec_MindRun.f k t l ls q) (if mindOk t l ls = true ∧ q.length ≤ 40 then mrun q t l ls 0 else (0, [], [], 0)) := by
  unfold spec_MindRun.f
  refine Ev.bind (spec_MindValid_ev t hn hs hl) ?_
  have no : Ev (fun k => spec_MindRun.j0 k q true t l ls) (0, [], [], 0) := Ev.step (f := fun _ => some (0, ([] : List Int), ([] : List (List Int)), 0)) (fun k => rfl) (Ev.now _)
  by_cases hm : mindOk t l ls = true
  · refine ev_pos hm ?_
    by_cases h40 : q.length ≤ 40
    · rw [if_pos ⟨hm, h40⟩, decide_eq_false (by omega)]
      obtain ⟨b1, b2, b3⟩ := mind_lens hm
      have key : ∀ i, i ≤ q.length → ∀ (n : Nat) (t : Int) (l : List Int) (ls : List (List Int)), n ≤ i → mindOk t l ls = true → Ev (fun k => spec_MindRun.l0 k q (n : Int) (i : Int) t l ls) (mrun (q.drop i) t l ls (n : Int)) := by
        apply down
        · intro n t l ls _ _
          refine Ev.step (fun k => rfl) (ev_neg (by omega) (ev_eq (Ev.now _) ?_))
          rw [List.drop_length]
          rfl
        · intro i hi ih n t l ls hni hm
          obtain ⟨c1, c2, c3⟩ := mind_lens hm
          have hd := spec_MindDo_ev (t := t) (l := l) (ls := ls) (by omega) (by omega) (fun y hy => by have := c3 y hy; omega) q[i].f0 q[i].f1
          rw [if_pos hm] at hd
          refine Ev.step (fun k => rfl) (ev_pos (by omega) (ev_pos (by omega) ?_))
          rw [rd26_at hi, List.drop_eq_getElem_cons hi, w1 hi (by omega), w1 (i := n) (n := n + 1) (by omega) (by omega)]
          refine Ev.bind hd ?_
          unfold mrun
          by_cases c : (mdo t l ls q[i].f0 q[i].f1).2.2.2 = true
          · rw [if_pos c]
            exact ev_pos c (ih (n + 1) _ _ _ (by omega) (mdo_ok hm _ _))
          · rw [if_neg c]
            exact ev_neg c (ih n t l ls (by omega) hm)
      have go := key 0 (Nat.zero_le _) 0 t l ls (Nat.le_refl _) hm
      rw [List.drop_zero] at go
      exact Ev.step (f := fun k => (spec_l10Copy.f k t l ls).bind fun bt598 => (spec_MindRun.l0 k q 0 0 bt598.1 bt598.2.1 bt598.2.2)) (fun k => rfl) (Ev.bind (l10Copy_ev t (by omega) (by omega) (fun y hy => by have := b3 y hy; omega)) go)
    · rw [if_neg (fun k => h40 k.2), decide_eq_true (by omega)]
      exact no
  · rw [if_neg (fun k => hm k.1)]
    exact ev_neg hm no
end Go.Proofs.Ytihgpkohglcijaa.Pl
