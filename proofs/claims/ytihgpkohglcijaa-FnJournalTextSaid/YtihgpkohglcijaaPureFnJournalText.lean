import Derived.Test.YtihgpkohglcijaaPx0
import Derived.Test.YtihgpkohglcijaaPx24
import Derived.Test.YtihgpkohglcijaaPx25
import Derived.Test.YtihgpkohglcijaaPz0
/- For every drawn list of deeds the program's text is the reference's, and it is read as those deeds, whole. No condition. -/
namespace Go.Proofs.Ytihgpkohglcijaa.Pure
open Go.RowKit Go.Proofs.YtihgpkohglcijaaW.PrintWords Go.Proofs.YtihgpkohglcijaaW.PrintLast Go.Proofs.YtihgpkohglcijaaW.PrintMore Go.Proofs.Ytihgpkohglcijaa.P Go.Proofs.Ytihgpkohglcijaa.Mt Go.Proofs.Ytihgpkohglcijaa.Pl
theorem written_l0 (b:List Int) (p:Int) (q:List S26) (hq:q.length≤6) (hs:∀y∈q,y.f1.size≤21):∀i,i≤q.length→∀out:List S26,out.length≤i→(∀y∈out,y.f1.size≤21)→
    ∃r,Ev (fun k=>spec_l20Written.l0 k out q (i:Int) b p) (r,p)∧r.length≤6∧∀y∈r,y.f1.size≤21:=by
  apply down
  · intro out ho hy
    exact⟨out,Ev.step (fun k=>rfl) (ev_neg (by omega) (Ev.now _)),by omega,hy⟩
  · intro i hi ih out ho hy
    have hx:=hs _ (List.getElem_mem hi)
    have hd:=spec_DeedText_ev q[i].f0 (s:=q[i].f1) (by omega)
    by_cases c:(deedT q[i].f0 q[i].f1).toList= []
    · obtain⟨r,h1,h2⟩:=ih out (by omega) hy
      refine⟨r,Ev.step (fun k=>rfl) (ev_pos (by omega) (ev_pos (by omega) ?_)),h2⟩
      rw[rd26_at hi,w1 hi (by omega)]
      exact Ev.bind hd (ev_pos c h1)
    · obtain⟨r,h1,h2⟩:=ih (out++ [(⟨q[i].f0,q[i].f1⟩:S26)]) (by rw[List.length_append,List.length_singleton];omega) (fun y hm=>by
        rcases List.mem_append.1 hm with h|h
        · exact hy y h
        · rw[List.mem_singleton.1 h];exact hx)
      refine⟨r,Ev.step (fun k=>rfl) (ev_pos (by omega) (ev_pos (by omega) ?_)),h2⟩
      rw[rd26_at hi,w1 hi (by omega)]
      exact Ev.bind hd (ev_neg c (ev_pos (by omega) h1))
theorem sum_le {q:List S26} (hs:∀y∈q,y.f1.size≤21):sumS q≤21*q.length:=by
  unfold sumS
  induction q with
  |nil=>exact Nat.zero_le _
  |cons x q ih=>
    have h1:=hs x List.mem_cons_self
    have h2:=ih (fun y hy=>hs y (List.mem_cons_of_mem _ hy))
    rw[List.map_cons,List.sum_cons,List.length_cons]
    omega
theorem draw_ev {c:List Int} (hc:∀x∈c,(Lit.int .u8 x).wf=true):∃q,Ev (fun k=>spec_DrawJournalText.f k c) q∧q.length≤7∧∀y∈q,y.f1.size≤21:=by
  obtain⟨b,hb,hcode⟩:=open_ev hc
  obtain⟨t,l,ls,p1,hm,a1,a2,h8,h6,hr⟩:=mind_ev hcode 0 (p:=0) (by omega) (by omega)
  obtain⟨q,p2,hq,b1,b2,b3,b4⟩:=deeds_ev hcode t (l:=l) (ls:=ls) (p:=p1) (by omega) (by omega) (by omega) h6 (fun y hy=>by have:=hr y hy;omega)
  obtain⟨r,h1,h2,h3⟩:=written_l0 b p2 q b3 b4 0 (Nat.zero_le _) [] (Nat.le_refl _) (by simp)
  have hw:Ev (fun k=>spec_l20Written.f k b 0) (r,p2):=by
    unfold spec_l20Written.f
    exact Ev.bind hm (Ev.bind hq h1)
  obtain⟨o,p3,ho,_,_⟩:=odd_ev hcode (p:=p2) (by omega) (by omega) 12
  unfold spec_DrawJournalText.f
  cases o with
  |true=>
    refine⟨r++ [(⟨9,(⟨#[]⟩:ByteArray)⟩:S26)],ev_bindc hb (Ev.bind hw (Ev.bind ho (ev_tt (ev_pos (by show r.length<_;omega) (Ev.now _))))),by rw[List.length_append,List.length_singleton];omega,fun y hy=>?_⟩
    rcases List.mem_append.1 hy with h|h
    · exact h3 y h
    · rw[List.mem_singleton.1 h];decide
  |false=>exact⟨r,ev_bindc hb (Ev.bind hw (Ev.bind ho (ev_ff (Ev.now _)))),by omega,h3⟩
theorem FnJournalText:laws_FnJournalText.Pure:=by
  intro c _ _ hc
  refine Ev.rounds (g:=fun k=>laws_FnJournalText.f k c) ?_
  unfold laws_FnJournalText.f
  by_cases hlen:(c.length:Int)>1048576
  · exact ev_pos hlen (Ev.now _)
  · obtain⟨q,hd,h7,hs⟩:=draw_ev hc
    have hsum:=sum_le hs
    have hj:=jour_size (l:=q)
    refine ev_neg hlen (Ev.bind hd (Ev.bind (impl_JournalText_ev (l:=q) (by omega) (by omega)) (Ev.bind (spec_JournalText_ev (l:=q) (by omega) (by omega)) (ev_pos rfl ?_))))
    by_cases he:(jour q).toList= []
    · exact ev_pos he (ev_bindc alive_eq (Ev.now _))
    · have hr:=impl_ReadJournal_ev (s:=jour q) (by omega)
      rw[rj_of_jour he]at hr
      exact ev_neg he (Ev.bind hr (Ev.bind (sameDeeds_same (l:=q) (by omega)) (ev_tt (ev_eq (Ev.now _) (by simp)))))
end Go.Proofs.Ytihgpkohglcijaa.Pure
