/- Plain laws: the reference's copy of a mind. -/
import Derived.Test.YtihgpkohglcijaaPx14
import Derived.Test.YtihgpkohglcijaaPmd
namespace Go.Proofs.Ytihgpkohglcijaa.Pl
open Go.RowKit Go.Proofs.YtihgpkohglcijaaW.PrintWords Go.Proofs.YtihgpkohglcijaaW.PrintLast Go.Proofs.YtihgpkohglcijaaW.PrintMore Go.Proofs.Ytihgpkohglcijaa.P Go.Proofs.Ytihgpkohglcijaa.Mt
theorem l10Copy_ev (t : Int) {l : List Int} {ls : List (List Int)} (hn : l.length ≤ 100) (hs : ls.length ≤ 100) (hl : ∀ y ∈ ls, y.length ≤ 100) : Ev (fun k => spec_l10Copy.f k t l ls) (t, l, ls) := by
 unfold spec_l10Copy.f
 have key : ∀ i : Nat, i ≤ ls.length → Ev (fun k => spec_l10Copy.l0 k (i : Int) t l ls t l (ls.take i)) (t, l, ls) := by
  apply down
  ·refine Ev.step (fun k => rfl) (ev_neg (by omega) (ev_eq (Ev.now _) ?_))
   rw [List.take_length]
  ·intro i hi ih
   have hy := hl _ (List.getElem_mem hi)
   refine Ev.step (fun k => rfl) (ev_pos (by omega) (ev_bindc rfl (ev_pos (by omega) (ev_pos (by rw [rdLL_at hi]; simp only [List.length_nil]; omega) (ev_pos (by rw [List.length_take]; omega) ?_)))))
   rw [rdLL_at hi, w1 hi (by omega), List.nil_append]
   rw [List.take_succ_eq_append_getElem hi] at ih
   exact ih
 refine ev_bindc rfl (ev_pos (by simp only [List.length_nil]; omega) ?_)
 rw [List.nil_append]
 exact key 0 (Nat.zero_le _)
end Go.Proofs.Ytihgpkohglcijaa.Pl
