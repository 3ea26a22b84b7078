/- Plain laws: a new mind. -/
import Derived.Test.YtihgpkohglcijaaPx18
import Derived.Test.YtihgpkohglcijaaPmd
namespace Go.Proofs.Ytihgpkohglcijaa.Pl
open Go.RowKit Go.Proofs.YtihgpkohglcijaaW.PrintWords Go.Proofs.YtihgpkohglcijaaW.PrintLast Go.Proofs.YtihgpkohglcijaaW.PrintMore Go.Proofs.Ytihgpkohglcijaa.P Go.Proofs.Ytihgpkohglcijaa.Mt
theorem rankOk_tidy {t:Int} {l:List Int} (h:rankOk t l=true):rankOk t (tidyL l)=true:=by
 obtain⟨ht,hl,hx,h0⟩:=rankOk_iff.1 h
 have h8:=(wn_le t).1
 refine rankOk_iff.2 ⟨ht,by rw[tidyL_length];exact hl,fun y hy=>?_,?_⟩
 ·obtain⟨x,hx1,rfl⟩:=mem_tidyL.1 hy
  have:=lev_lt_length hx1 (hx x hx1).1
  omega
 ·exact mem_tidyL.2 ⟨0,h0,rfl⟩
theorem tidyOk_tidy {t:Int} {l:List Int} (h:rankOk t l=true):tidyOk t (tidyL l)=true:=by
 unfold tidyOk
 rw[rankOk_tidy h,tidyL_tidyL (fun x hx=>((rankOk_iff.1 h).2.2.1 x hx).1),decide_eq_true rfl]
 rfl
def newMind (t:Int) (l:List Int):Int×List Int×List (List Int):=if rankOk t l=true then(t,tidyL l,[])else(0,[],[])
theorem rank_short {t:Int} {l:List Int} (h:rankOk t l=true):l.length≤8:=by
 have:=(rankOk_iff.1 h).2.1
 have:=(wn_le t).1
 omega
theorem spec_MindNew_ev (t:Int) {l:List Int} (hn:l.length≤9223372036854775807):Ev (fun k=>spec_MindNew.f k t l) (newMind t l):=by
 unfold spec_MindNew.f newMind
 refine Ev.bind (RankOk_ev t hn) ?_
 by_cases h:rankOk t l=true
 ·rw[if_pos h]
  exact ev_pos h (Ev.bind (TidyRank_ev h) (Ev.now _))
 ·rw[if_neg h]
  exact ev_neg h (Ev.now _)
end Go.Proofs.Ytihgpkohglcijaa.Pl
