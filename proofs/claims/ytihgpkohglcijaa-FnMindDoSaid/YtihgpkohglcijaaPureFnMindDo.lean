/- For every drawn mind and deed the program does what the reference does; what was done can be undone, and what cannot be done changes nothing. No condition. -/
import Derived.Test.YtihgpkohglcijaaPx3
import Derived.Test.YtihgpkohglcijaaPx20
import Derived.Test.YtihgpkohglcijaaPx21
import Derived.Test.YtihgpkohglcijaaPmnd
import Derived.Test.YtihgpkohglcijaaPmv
import Derived.Test.YtihgpkohglcijaaPsame
import Derived.Test.YtihgpkohglcijaaPund
namespace Go.Proofs.Ytihgpkohglcijaa.Pure
open Go.RowKit Go.Proofs.YtihgpkohglcijaaW.PrintWords Go.Proofs.YtihgpkohglcijaaW.PrintLast Go.Proofs.YtihgpkohglcijaaW.PrintMore Go.Proofs.Ytihgpkohglcijaa.P Go.Proofs.Ytihgpkohglcijaa.Mt Go.Proofs.Ytihgpkohglcijaa.Pl
theorem FnMindDo:laws_FnMindDo.Pure:=by
  intro c _ _ hc
  refine Ev.rounds (g:=fun k=>laws_FnMindDo.f k c) ?_
  unfold laws_FnMindDo.f
  by_cases hlen:(c.length:Int)>1048576
  · exact ev_pos hlen (Ev.now _)
  · obtain⟨b,hb,hcode⟩:=open_ev hc
    obtain⟨t,l,ls,p1,hm,q0,q1,h8,h6,hr⟩:=mind_ev hcode 12 (p:=0) (by omega) (by omega)
    obtain⟨a,s,p2,hde,_,_,_⟩:=deed_ev hcode t l ls (p:=p1) (by omega) (by omega)
    have hd:Ev (fun k=>spec_DrawMindDo.f k c) (t,l,ls,a,s):=by
      unfold spec_DrawMindDo.f
      exact ev_bindc hb (Ev.bind hm (Ev.bind hde (Ev.now _)))
    have hr':∀y∈ls,y.length≤9223372036854775807:=fun y hy=>by have:=hr y hy;omega
    have hi:=impl_MindDo_ev (t:=t) (l:=l) (ls:=ls) (by omega) hr' a s
    have hs:=spec_MindDo_ev (t:=t) (l:=l) (ls:=ls) (by omega) (by omega) hr' a s
    by_cases hk:mindOk t l ls=true
    · rw[if_pos hk]at hi hs
      refine ev_neg hlen (Ev.bind hd (Ev.bind hi (Ev.bind hs ?_)))
      dsimp only
      have ok:=mdo_ok hk a s
      obtain⟨o1,o2,o3⟩:=mindOk_iff.1 ok
      have b1:=(tidyOk_len o1).2
      have b3:∀y∈(mdo t l ls a s).2.2.1,y.length≤9223372036854775807:=fun y hy=>by have:=tidyOk_len (o3 y hy);omega
      have hv:=impl_MindValid_ev (mdo t l ls a s).1 (l:=(mdo t l ls a s).2.1) (ls:=(mdo t l ls a s).2.2.1) (by omega) b3
      rw[ok]at hv
      refine Ev.bind (sameMind_same _ (by omega) (by omega) b3) (ev_tt (ev_neg (by simp) ?_))
      by_cases hdn:(mdo t l ls a s).2.2.2=true
      · refine ev_pos hdn ?_
        by_cases a2:a=2
        · exact ev_pos a2 (Ev.bind hv (Ev.now _))
        · refine ev_neg a2 ?_
          obtain⟨v,e1,v0,v1,e⟩:=done hdn a2
          rw[e]at ok o1 o2 o3 b1 b3 hv⊢
          dsimp only at ok o1 o2 o3 b1 b3 hv⊢
          have hb:=impl_MindDo_ev (t:=t) (l:=chg l a v) (ls:=push l ls) (by omega) b3 2 (⟨#[]⟩:ByteArray)
          rw[if_pos ok,back (by omega)]at hb
          have hh:=impl_HoldsIn_ev t s
          rw[e1]at hh
          have hl:=mindOk_iff.1 hk
          have hrk:=(tidyOk_iff.1 hl.1).1
          obtain⟨x,x8,hx,hx2⟩:=CoreOf_ev (tidyOk_iff.1 o1).1
          have hw:=within_ev (b:=v) x8
          have hin:x&&& v=x:=by
            apply Nat.eq_of_testBit_eq
            intro w
            rw[Nat.testBit_and]
            cases hxb:x.testBit w with
            |false=>rfl
            |true=>
              obtain⟨y1,y2⟩:=hx2 w hxb
              have e2:(chg l a v).length=l.length:=by rw[(rankOk_iff.1 (tidyOk_iff.1 o1).1).2.1,(rankOk_iff.1 hrk).2.1]
              rw[chg_core hrk v1 v0 a (by omega) y2]
              rfl
          rw[decide_eq_true hin]at hw
          refine Ev.bind hb (Ev.bind hh (Ev.bind hv (ev_tt (ev_tt (Ev.bind hx (Ev.bind hw (ev_tt (ev_neg (by omega) (ev_tt (Ev.bind (sameMind_same t (l:=l) (ls:=ls) (by omega) (by omega) hr') (Ev.now _)))))))))))
      · refine ev_neg hdn ?_
        rw[undone hdn]
        exact Ev.bind (sameMind_same t (l:=l) (ls:=ls) (by omega) (by omega) hr') (ev_tt (ev_bindc alive_eq (Ev.now _)))
    · rw[if_neg hk]at hi hs
      refine ev_neg hlen (Ev.bind hd (Ev.bind hi (Ev.bind hs (Ev.bind (sameMind_same 0 (by simp) (by simp) (by simp)) (ev_tt (ev_neg (by decide) (ev_ff ?_)))))))
      have hv:=impl_MindValid_ev t (l:=l) (ls:=ls) (by omega) hr'
      rw[Bool.eq_false_iff.2 hk]at hv
      have hsm:∃q,Ev (fun k=>laws_sameMind.f k 0 [] [] t l ls) q:=by
        unfold laws_sameMind.f
        by_cases h0:(0:Int)=t
        · cases e:decide ([]=l)with
          |true=>
            obtain⟨q,hq⟩:=sameRows_nil ls
            exact⟨q,ev_pos h0 (Ev.bind (ev_eq (sameInts_ev (by simp)) e) (ev_tt (Ev.bind hq (Ev.now _))))⟩
          |false=>exact⟨false,ev_pos h0 (Ev.bind (ev_eq (sameInts_ev (by simp)) e) (ev_ff (Ev.now _)))⟩
        · exact⟨false,ev_neg h0 (Ev.now _)⟩
      obtain⟨q,hq⟩:=hsm
      refine Ev.bind hq ?_
      cases q with
      |true=>exact ev_tt (ev_bindc alive_eq (Ev.now _))
      |false=>exact ev_ff (Ev.bind hv (ev_ff (ev_bindc alive_eq (Ev.now _))))
end Go.Proofs.Ytihgpkohglcijaa.Pure
