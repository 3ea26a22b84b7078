/- Plain laws on the laws' own helpers at rows of numbers: copies, comparisons, marks. -/
import Derived.Test.YtihgpkohglcijaaPx2
import Derived.Test.YtihgpkohglcijaaPx4
import Derived.Test.YtihgpkohglcijaaPbase
namespace Go.Proofs.Ytihgpkohglcijaa.Pl
open Go.RowKit Go.Proofs.YtihgpkohglcijaaW.PrintWords Go.Proofs.YtihgpkohglcijaaW.PrintLast Go.Proofs.YtihgpkohglcijaaW.PrintMore Go.Proofs.Ytihgpkohglcijaa.P Go.Proofs.Ytihgpkohglcijaa.Mt
theorem toIntS_ev {l : List Int} (hn : l.length ≤ 35184372088832) : Ev (fun k => laws_toIntS.f k l) l := by
 unfold laws_toIntS.f
 refine ev_pos (by omega) (ev_pos (by simpa using hn) ?_)
 have key : ∀ i, i ≤ l.length → Ev (fun k => laws_toIntS.l0 k l (l.take i ++ List.replicate (l.length - i) 0) (i : Int)) l := by
  apply down
  ·refine Ev.step (fun k => rfl) (ev_neg (by omega) (ev_eq (Ev.now _) ?_))
   rw [Nat.sub_self, List.replicate_zero, List.append_nil, List.take_length]
  ·intro i hi ih
   refine Ev.step (fun k => rfl) (ev_pos (by omega) (ev_pos (by omega) (ev_pos ?_ ?_)))
   ·rw [List.length_append, List.length_take, List.length_replicate]; omega
   ·rw [w1 hi (by omega), Int.toNat_natCast, rd_at hi]
    have e : (l.take i ++ List.replicate (l.length - i) 0).set i l[i] = l.take (i + 1) ++ List.replicate (l.length - (i + 1)) 0 := by
     rw [List.set_append_right _ _ (by rw [List.length_take]; omega), List.length_take, show i - min i l.length = 0 from by omega, show l.length - i = (l.length - (i + 1)) + 1 from by omega, List.replicate_succ, List.set_cons_zero, List.take_succ_eq_append_getElem hi, List.append_assoc]
     rfl
    rw [e]
    exact ih
 have := key 0 (Nat.zero_le _)
 simpa using this
theorem eqIntS_ev {l m : List Int} (hn : l.length ≤ 9223372036854775807) : Ev (fun k => laws_eqIntS.f k l m) (decide (l = m)) := by
 unfold laws_eqIntS.f
 by_cases hl : l.length = m.length
 ·refine ev_pos (by omega) ?_
  have key : ∀ i, i ≤ l.length → Ev (fun k => laws_eqIntS.l0 k l m (i : Int)) (decide (l.drop i = m.drop i)) := by
   apply down
   ·refine Ev.step (fun k => rfl) (ev_neg (by omega) (ev_eq (Ev.now _) ?_))
    rw [List.drop_length, hl, List.drop_length, decide_eq_true rfl]
   ·intro i hi ih
    have hm : i < m.length := by omega
    refine Ev.step (fun k => rfl) (ev_pos (by omega) (ev_pos (by omega) (ev_pos (by omega) ?_)))
    rw [rd_at hi, rd_at hm, w1 hi hn, List.drop_eq_getElem_cons hi, List.drop_eq_getElem_cons hm]
    by_cases e : l[i] = m[i]
    ·refine ev_pos e (ev_eq ih ?_)
     exact decide_eq_decide.2 ⟨fun k => by rw [e, k], fun k => (List.cons.inj k).2⟩
    ·refine ev_neg e (ev_eq (Ev.now _) ?_)
     exact (decide_eq_false (fun k => e (List.cons.inj k).1)).symm
  have := key 0 (Nat.zero_le _)
  simpa using this
 ·refine ev_neg (by omega) (ev_eq (Ev.now _) ?_)
  exact (decide_eq_false (fun k => hl (by rw [k]))).symm
theorem eqIntS_same {l : List Int} (hn : l.length ≤ 9223372036854775807) : Ev (fun k => laws_eqIntS.f k l l) true := ev_eq (eqIntS_ev hn) (decide_eq_true rfl)
end Go.Proofs.Ytihgpkohglcijaa.Pl
