/- Plain laws: the laws' comparisons of minds. -/
import Derived.Test.YtihgpkohglcijaaPx3
import Derived.Test.YtihgpkohglcijaaPmd
namespace Go.Proofs.Ytihgpkohglcijaa.Pl
open Go.RowKit Go.Proofs.YtihgpkohglcijaaW.PrintWords Go.Proofs.YtihgpkohglcijaaW.PrintLast Go.Proofs.YtihgpkohglcijaaW.PrintMore Go.Proofs.Ytihgpkohglcijaa.P Go.Proofs.Ytihgpkohglcijaa.Mt
theorem sameInts_ev {l m:List Int} (hn:l.length≤9223372036854775807):Ev (fun k=>laws_sameInts.f k l m) (decide (l=m)):=by
  unfold laws_sameInts.f
  by_cases hl:l.length=m.length
  · refine ev_pos (by omega) ?_
    have key:∀i,i≤l.length→Ev (fun k=>laws_sameInts.l0 k l m (i:Int)) (decide (l.drop i=m.drop i)):=by
      apply down
      · refine Ev.step (fun k=>rfl) (ev_neg (by omega) (ev_eq (Ev.now _) ?_))
        rw[List.drop_length,hl,List.drop_length,decide_eq_true rfl]
      · intro i hi ih
        have hm:i<m.length:=by omega
        refine Ev.step (fun k=>rfl) (ev_pos (by omega) (ev_pos (by omega) (ev_pos (by omega) ?_)))
        rw[rd_at hi,rd_at hm,w1 hi hn,List.drop_eq_getElem_cons hi,List.drop_eq_getElem_cons hm]
        by_cases e:l[i]=m[i]
        · refine ev_pos e (ev_eq ih ?_)
          exact decide_eq_decide.2 ⟨fun k=>by rw[e,k],fun k=>(List.cons.inj k).2⟩
        · refine ev_neg e (ev_eq (Ev.now _) ?_)
          exact(decide_eq_false (fun k=>e (List.cons.inj k).1)).symm
    have:=key 0 (Nat.zero_le _)
    simpa using this
  · refine ev_neg (by omega) (ev_eq (Ev.now _) ?_)
    exact(decide_eq_false (fun k=>hl (by rw[k]))).symm
theorem sameInts_same {l:List Int} (hn:l.length≤9223372036854775807):Ev (fun k=>laws_sameInts.f k l l) true:=ev_eq (sameInts_ev hn) (decide_eq_true rfl)
theorem sameRows_same {l:List (List Int)} (hn:l.length≤9223372036854775807) (hl:∀y∈l,y.length≤9223372036854775807):Ev (fun k=>laws_sameRows.f k l l) true:=by
  unfold laws_sameRows.f
  refine ev_pos rfl ?_
  have key:∀i,i≤l.length→Ev (fun k=>laws_sameRows.l0 k l l (i:Int)) true:=by
    apply down
    · exact Ev.step (fun k=>rfl) (ev_neg (by omega) (Ev.now _))
    · intro i hi ih
      refine Ev.step (fun k=>rfl) (ev_pos (by omega) (ev_pos (by omega) (ev_pos (by omega) ?_)))
      rw[rdLL_at hi,w1 hi hn]
      exact Ev.bind (sameInts_same (hl _ (List.getElem_mem hi))) (ev_tt ih)
  exact key 0 (Nat.zero_le _)
theorem sameMind_same (t:Int) {l:List Int} {ls:List (List Int)} (hn:l.length≤9223372036854775807) (hs:ls.length≤9223372036854775807) (hl:∀y∈ls,y.length≤9223372036854775807):Ev (fun k=>laws_sameMind.f k t l ls t l ls) true:=by
  unfold laws_sameMind.f
  exact ev_pos rfl (Ev.bind (sameInts_same hn) (ev_tt (Ev.bind (sameRows_same hs hl) (Ev.now _))))
end Go.Proofs.Ytihgpkohglcijaa.Pl
