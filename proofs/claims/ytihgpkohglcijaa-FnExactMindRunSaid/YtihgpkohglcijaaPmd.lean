/- Plain laws: minds: the reference's. -/
import Derived.Test.YtihgpkohglcijaaPx12
import Derived.Test.YtihgpkohglcijaaPrnk
namespace Go.Proofs.Ytihgpkohglcijaa.Pl
open Go.RowKit Go.Proofs.YtihgpkohglcijaaW.PrintWords Go.Proofs.YtihgpkohglcijaaW.PrintLast Go.Proofs.YtihgpkohglcijaaW.PrintMore Go.Proofs.Ytihgpkohglcijaa.P Go.Proofs.Ytihgpkohglcijaa.Mt
def tidyOk (t : Int) (l : List Int) : Bool := rankOk t l && decide (tidyL l = l)
theorem l10Tidy_ev (t : Int) {l : List Int} (hn : l.length ≤ 9223372036854775807) : Ev (fun k => spec_l10Tidy.f k t l) (tidyOk t l) := by
 unfold spec_l10Tidy.f tidyOk
 refine Ev.bind (RankOk_ev t hn) ?_
 cases h : rankOk t l with
 | false => exact ev_ff (Ev.now _)
 | true =>
  have hlen := tidyL_length l
  refine ev_tt (Ev.bind (TidyRank_ev h) ?_)
  have key : ∀ i, i ≤ l.length → Ev (fun k => spec_l10Tidy.l0 k l (tidyL l) (i : Int)) (decide ((tidyL l).drop i = l.drop i)) := by
   apply down
   ·refine Ev.step (fun k => rfl) (ev_neg (by omega) (ev_eq (Ev.now _) ?_))
    rw [List.drop_length, List.drop_of_length_le (by omega)]
    exact (decide_eq_true rfl).symm
   ·intro i hi ih
    refine Ev.step (fun k => rfl) (ev_pos (by omega) (ev_pos (by omega) (ev_pos (by omega) ?_)))
    rw [rd_at hi, rd_at (l := tidyL l) (by omega), List.drop_eq_getElem_cons hi, List.drop_eq_getElem_cons (l := tidyL l) (by omega)]
    by_cases e : (tidyL l)[i] = l[i]
    ·refine ev_pos e ?_
     rw [w1 hi hn]
     refine ev_eq ih (decide_eq_decide.2 ?_)
     rw [List.cons.injEq]
     exact ⟨fun h => ⟨e, h⟩, fun h => h.2⟩
    ·refine ev_neg e (ev_eq (Ev.now _) ?_)
     rw [decide_eq_false (fun h => e (List.cons.inj h).1)]
  have := key 0 (Nat.zero_le _)
  rw [List.drop_zero, List.drop_zero] at this
  rw [Bool.true_and]
  exact this
def mindOk (t : Int) (l : List Int) (ls : List (List Int)) : Bool := tidyOk t l && (decide (ls.length ≤ 10) && ls.all (tidyOk t))
theorem rdLL_at {l : List (List Int)} {i : Nat} (h : i < l.length) : rd_L5 l (i : Int) = l[i] := by
 unfold rd_L5
 rw [Int.toNat_natCast, List.getD_eq_getElem?_getD, List.getElem?_eq_getElem h]
 rfl
theorem spec_MindValid_ev (t : Int) {l : List Int} {ls : List (List Int)} (hn : l.length ≤ 9223372036854775807) (hs : ls.length ≤ 9223372036854775807) (hl : ∀ y ∈ ls, y.length ≤ 9223372036854775807) : Ev (fun k => spec_MindValid.f k t l ls) (mindOk t l ls) := by
 unfold spec_MindValid.f
 have key : ∀ i, i ≤ ls.length → Ev (fun k => spec_MindValid.l0 k (i : Int) t l ls) (tidyOk t l && (decide (ls.length ≤ 10) && (ls.drop i).all (tidyOk t))) := by
  apply down
  ·refine Ev.step (fun k => rfl) (ev_neg (by omega) (Ev.bind (l10Tidy_ev t hn) ?_))
   rw [List.drop_length, List.all_nil, Bool.and_true]
   cases tidyOk t l with
   | false => exact ev_ff (Ev.now _)
   | true =>
    refine ev_tt (ev_eq (Ev.now _) ?_)
    rw [Bool.true_and]
    exact decide_eq_decide.2 (by omega)
  ·intro i hi ih
   refine Ev.step (fun k => rfl) (ev_pos (by omega) (ev_pos (by omega) ?_))
   rw [rdLL_at hi, w1 hi hs]
   refine Ev.bind (l10Tidy_ev t (hl _ (List.getElem_mem hi))) ?_
   rw [List.drop_eq_getElem_cons hi, List.all_cons]
   cases tidyOk t ls[i] with
   | false => exact ev_ff (ev_eq (Ev.now _) (by simp))
   | true =>
    refine ev_tt (ev_eq ih ?_)
    rw [Bool.true_and]
 have := key 0 (Nat.zero_le _)
 rw [List.drop_zero] at this
 exact this

end Go.Proofs.Ytihgpkohglcijaa.Pl
