import Derived.Test.YtihgpkohglcijaaPx0
import Derived.Test.YtihgpkohglcijaaPx14
import Derived.Test.YtihgpkohglcijaaPx15
import Derived.Test.YtihgpkohglcijaaPx22
import Derived.Test.YtihgpkohglcijaaPz0
/- For every drawn mind and list of deeds the program's run is the reference's; the mind behind it is valid, and in two parts it is the same. No condition. -/
namespace Go.Proofs.Ytihgpkohglcijaa.Pure
open Go.RowKit Go.Proofs.YtihgpkohglcijaaW.PrintWords Go.Proofs.YtihgpkohglcijaaW.PrintLast Go.Proofs.YtihgpkohglcijaaW.PrintMore Go.Proofs.Ytihgpkohglcijaa.P Go.Proofs.Ytihgpkohglcijaa.Mt Go.Proofs.Ytihgpkohglcijaa.Pl
theorem draw_ev {c:List Int} (hc:∀x∈c,(Lit.int .u8 x).wf=true):∃t l ls q,Ev (fun k=>spec_DrawMindRun.f k c) (t,l,ls,q)∧l.length≤8∧ls.length≤6∧(∀y∈ls,y.length≤8)∧q.length≤41:=by
  obtain⟨b,hb,hcode⟩:=open_ev hc
  obtain⟨t,l,ls,p1,hm,a1,a2,h8,h6,hr⟩:=mind_ev hcode 12 (p:=0) (by omega) (by omega)
  obtain⟨o,p3,ho,c1,c2⟩:=odd_ev hcode (p:=p1) (by omega) (by omega) 30
  obtain⟨q,p2,hq,b1,b2,b3,_⟩:=deeds_ev hcode t (l:=l) (ls:=ls) (p:=p3) (by omega) (by omega) (by omega) h6 (fun y hy=>by have:=hr y hy;omega)
  unfold spec_DrawMindRun.f
  cases o with
  |true=>exact⟨t,l,ls,List.replicate 41 z26,ev_bindc hb (Ev.bind hm (Ev.bind ho (ev_tt (ev_pos (by decide) (Ev.now _))))),h8,h6,hr,by rw[List.length_replicate];omega⟩
  |false=>exact⟨t,l,ls,q,ev_bindc hb (Ev.bind hm (Ev.bind ho (ev_ff (Ev.bind hq (Ev.now _))))),h8,h6,hr,by omega⟩
theorem FnMindRun:laws_FnMindRun.Pure:=by
  intro c _ _ hc
  refine Ev.rounds (g:=fun k=>laws_FnMindRun.f k c) ?_
  unfold laws_FnMindRun.f
  by_cases hlen:(c.length:Int)>1048576
  · exact ev_pos hlen (Ev.now _)
  · obtain⟨t,l,ls,q,hd,h8,h6,hr,hq⟩:=draw_ev hc
    have hr':∀y∈ls,y.length≤9223372036854775807:=fun y hy=>by have:=hr y hy;omega
    have hi:=impl_MindRun_ev (t:=t) (l:=l) (ls:=ls) (q:=q) (by omega) hr' (by omega)
    have hs:=spec_MindRun_ev (t:=t) (l:=l) (ls:=ls) (q:=q) (by omega) (by omega) hr' (by omega)
    have hv:=spec_MindValid_ev t (l:=l) (ls:=ls) (by omega) (by omega) hr'
    have hno:Ev (fun k=>laws_noMind.f k 0 [] []) true:=by
      unfold laws_noMind.f
      exact Ev.bind (sameMind_same 0 (by simp) (by simp) (by simp)) (Ev.now _)
    refine ev_neg hlen (Ev.bind hd (Ev.bind hi (Ev.bind hs ?_)))
    try dsimp only
    by_cases hk:mindOk t l ls=true
    · by_cases h40:q.length≤40
      · rw[if_pos ⟨hk,h40⟩]at hi hs⊢
        rw[hk]at hv
        have ok:=mrun_ok q 0 hk
        obtain⟨m1,m2,m3⟩:=mind_lens ok
        have m3':∀y∈(mrun q t l ls 0).2.2.1,y.length≤9223372036854775807:=fun y hy=>by have:=m3 y hy;omega
        have hok:=impl_MindValid_ev (mrun q t l ls 0).1 (l:=(mrun q t l ls 0).2.1) (ls:=(mrun q t l ls 0).2.2.1) (by omega) m3'
        rw[ok]at hok
        have hw:wrap64 ((q.length:Int)/2)=((q.length/2:Nat):Int):=by rw[w64 (by omega) (by omega)];omega
        refine Ev.bind (sameMind_same _ (l:=(mrun q t l ls 0).2.1) (ls:=(mrun q t l ls 0).2.2.1) (by omega) (by omega) m3') (ev_tt (ev_pos rfl (Ev.bind hv (ev_tt (ev_neg (by omega) ?_)))))
        try dsimp only
        rw[hw,Int.toNat_natCast]
        have ha:=impl_MindRun_ev (t:=t) (l:=l) (ls:=ls) (q:=q.take (q.length/2)) (by omega) hr' (by rw[List.length_take];omega)
        rw[if_pos ⟨hk,by rw[List.length_take];omega⟩]at ha
        have oka:=mrun_ok (q.take (q.length/2)) 0 hk
        obtain⟨n1,n2,n3⟩:=mind_lens oka
        have hb:=impl_MindRun_ev (t:=(mrun (q.take (q.length/2)) t l ls 0).1) (l:=(mrun (q.take (q.length/2)) t l ls 0).2.1) (ls:=(mrun (q.take (q.length/2)) t l ls 0).2.2.1) (q:=q.drop (q.length/2)) (by omega) (fun y hy=>by have:=n3 y hy;omega) (by rw[List.length_drop];omega)
        rw[if_pos ⟨oka,by rw[List.length_drop];omega⟩]at hb
        have e:=mrun_append (q.take (q.length/2)) (q.drop (q.length/2)) t l ls 0
        rw[List.take_append_drop,mrun_num (q.drop (q.length/2))]at e
        have lea:=mrun_le (q.take (q.length/2)) t l ls 0
        have leb:=mrun_le (q.drop (q.length/2)) (mrun (q.take (q.length/2)) t l ls 0).1 (mrun (q.take (q.length/2)) t l ls 0).2.1 (mrun (q.take (q.length/2)) t l ls 0).2.2.1 0
        rw[List.length_take]at lea
        rw[List.length_drop]at leb
        have hsm:=sameMind_same (mrun q t l ls 0).1 (l:=(mrun q t l ls 0).2.1) (ls:=(mrun q t l ls 0).2.2.1) (by omega) (by omega) m3'
        refine ev_pos (by omega) (ev_pos (by omega) (Ev.bind ha (Ev.bind hb (Ev.bind hok (ev_tt ?_)))))
        try dsimp only
        rw[e]at hsm⊢
        refine Ev.bind hsm (ev_tt (ev_eq (Ev.now _) ?_))
        rw[w64 (by omega) (by omega)]
        exact beq_self_eq_true _
      · rw[if_neg (fun z=>h40 z.2)]at hi hs⊢
        rw[hk]at hv
        exact Ev.bind (sameMind_same 0 (l:=[]) (ls:=[]) (by simp) (by simp) (by simp)) (ev_tt (ev_pos rfl (Ev.bind hv (ev_tt (ev_pos (by omega) (ev_pos rfl (Ev.bind hno (ev_tt (ev_bindc alive_eq (Ev.now _))))))))))
    · rw[if_neg (fun z=>hk z.1)]at hi hs⊢
      rw[Bool.eq_false_iff.2 hk]at hv
      exact Ev.bind (sameMind_same 0 (l:=[]) (ls:=[]) (by simp) (by simp) (by simp)) (ev_tt (ev_pos rfl (Ev.bind hv (ev_ff (ev_pos rfl (Ev.bind hno (ev_tt (ev_bindc alive_eq (Ev.now _)))))))))
end Go.Proofs.Ytihgpkohglcijaa.Pure
