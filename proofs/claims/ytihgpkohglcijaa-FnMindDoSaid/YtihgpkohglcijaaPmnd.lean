/- Plain laws: the draws of sentences, deeds and minds say something on every code. -/
import Derived.Test.YtihgpkohglcijaaPx16
import Derived.Test.YtihgpkohglcijaaPx17
import Derived.Test.YtihgpkohglcijaaPx18
import Derived.Test.YtihgpkohglcijaaPx19
import Derived.Test.YtihgpkohglcijaaPtot
import Derived.Test.YtihgpkohglcijaaPnw
import Derived.Test.YtihgpkohglcijaaPdraw
import Derived.Test.YtihgpkohglcijaaPsdr
namespace Go.Proofs.Ytihgpkohglcijaa.Pl
open Go.RowKit Go.Proofs.YtihgpkohglcijaaW.PrintWords Go.Proofs.YtihgpkohglcijaaW.PrintLast Go.Proofs.YtihgpkohglcijaaW.PrintMore Go.Proofs.Ytihgpkohglcijaa.P Go.Proofs.Ytihgpkohglcijaa.Mt
theorem odd0 (b:List Int) (p:Int):Ev (fun k=>spec_l20Rd_odd.f k b p 0) (false,p):=by
  unfold spec_l20Rd_odd.f
  exact ev_neg (by omega) (Ev.now _)
theorem things0_ev {b:List Int} (hb:Code b) {p:Int} (h0:0≤p) (h1:p≤900000000):
    ∃r,Ev (fun k=>spec_l20Things.f k b p 0) (r,p+1)∧1≤r∧r≤3:=by
  unfold spec_l20Things.f
  obtain⟨r,hr,r0,r1,_⟩:=pick_ev hb (p:=p) h0 (by omega) 5
  have r1:=r1 (by omega)
  refine⟨rd [1,2,2,3,3] r,Ev.bind (odd0 b p) (ev_neg Bool.false_ne_true (ev_bindc rfl (Ev.bind hr (ev_pos r0 (ev_pos (by simpa using r1) (Ev.now _)))))),?_⟩
  have:r=0∨r=1∨r=2∨r=3∨r=4:=by omega
  rcases this with rfl|rfl|rfl|rfl|rfl<;>decide+kernel
theorem rank0_l0 {b:List Int} (hb:Code b) {t:Int} (ht:1≤t∧t≤3) {x:Int} (x0:0≤x) (x1:x<3):∀i:Nat,i≤wn t→∀(l:List Int) (p:Int),l.length=i→(∀y∈l,0≤y∧y≤9)→0≤p→p+10*(wn t - i:Nat)≤800000000→
    ∃r p',Ev (fun k=>spec_l20Rank.l0 k 0 l (wn t:Int) x (i:Int) b p) (r,p')∧p≤p'∧p'≤p+10*(wn t - i:Nat)+10∧rankOk t r=true:=by
  have hw:=wn_le t
  apply down
  · intro l p hl hx h0 h1
    obtain⟨j,hj,j0,j1,_⟩:=pick_ev hb (p:=p) (by omega) (by omega) (wn t:Int)
    have j1:=j1 (by omega)
    obtain⟨m,rfl⟩:=Int.eq_ofNat_of_zero_le j0
    have hm:m<l.length:=by omega
    refine⟨l.set ((m:Int)).toNat 0,p+1,Ev.step (fun k=>rfl) (ev_neg (by omega) (Ev.bind hj (ev_pos j0 (ev_pos (by omega) (ev_bindc rfl (Ev.bind (odd0 b (p+1)) (ev_ff (Ev.now _)))))))),by omega,by omega,rankOk_iff.2 ⟨ht,by rw[List.length_set,hl],fun y hy=>?_,?_⟩⟩
    · rcases List.mem_or_eq_of_mem_set hy with h|rfl
      · exact hx y h
      · omega
    · rw[Int.toNat_natCast]
      exact List.mem_set hm 0
  · intro i hi ih l p hl hx h0 h1
    obtain⟨z,hz,z0,z1,_⟩:=pick_ev hb (p:=p) (by omega) (by omega) (rd [2,4,10] x)
    have hq:1≤rd [2,4,10] x∧rd [2,4,10] x≤10:=by
      have:x=0∨x=1∨x=2:=by omega
      rcases this with rfl|rfl|rfl<;>decide+kernel
    have z1:=z1 hq.1
    obtain⟨r,p',hr,b1,b2,b3⟩:=ih (l++ [z]) (p+1) (by rw[List.length_append,hl];rfl) (fun y hy=>by
      rcases List.mem_append.1 hy with h|h
      · exact hx y h
      · rw[List.mem_singleton.1 h];omega) (by omega) (by omega)
    refine⟨r,p',Ev.step (fun k=>rfl) (ev_pos (by omega) (ev_bindc rfl (ev_pos x0 (ev_pos (by simpa using x1) (Ev.bind hz (ev_pos (by omega) ?_)))))),by omega,by omega,b3⟩
    rw[w1 hi (by omega)]
    exact hr
theorem rank0_ev {b:List Int} (hb:Code b) {p:Int} (h0:0≤p) (h1:p≤700000000) {t:Int} (ht:1≤t∧t≤3):
    ∃r p',Ev (fun k=>spec_l20Rank.f k b p t 0) (r,p')∧p≤p'∧p'≤p+100∧rankOk t r=true:=by
  have hw:=wn_le t
  have hv:spec_WorldsOf.f t=some (wn t:Int):=by
    unfold spec_WorldsOf.f
    rw[l1In_eq,Option.bind_some,decide_eq_true ht,if_pos rfl,if_pos (by omega),shl_wn ht]
  obtain⟨x,hx,x0,x1,_⟩:=pick_ev hb h0 (by omega) 3
  have x1:=x1 (by omega)
  have hmx:mx (wn t:Int) 1=(wn t:Int):=by unfold mx;split<;>omega
  obtain⟨r,p',hr,b1,b2,b3⟩:=rank0_l0 hb ht x0 x1 0 (Nat.zero_le _) [] (p+1) rfl (by simp) (by omega) (by omega)
  unfold spec_l20Rank.f
  refine⟨r,p',ev_bindc hv (Ev.bind hx ?_),by omega,by omega,b3⟩
  rw[hmx]
  exact hr
/-! ### deeds -/
theorem deed_ev {b:List Int} (hb:Code b) (t:Int) (l:List Int) (ls:List (List Int)) {p:Int} (h0:0≤p) (h1:p≤700000000):∃a s p',Ev (fun k=>spec_l20Deed.f k b p t l ls) (a,s,p')∧p≤p'∧p'≤p+40∧s.size≤21:=by
  obtain⟨i,hi,i0,i1,_⟩:=pick_ev hb (p:=p) h0 (by omega) 7
  have i1:=i1 (by omega)
  obtain⟨j,hj,_,_,_⟩:=pick_ev hb (p:=p+1) (by omega) (by omega) 60
  unfold spec_l20Deed.f
  generalize hK:wrap64 ((rd [0,0,0,1,1,1,2] i)+(wrap64 ((wrap64 (Int.tdiv j 59))*3)))=K
  have one:∀x:UInt8,(⟨#[x]⟩:ByteArray).size=1:=fun x=>rfl
  by_cases e:K=2
  · obtain⟨o,p1,ho,a1,a2⟩:=odd_ev hb (p:=p+1+1) (by omega) (by omega) 40
    cases o with
    |true=>
      refine⟨K,(⟨#[]⟩:ByteArray)++(⟨#[41]⟩:ByteArray),p1,ev_bindc rfl (Ev.bind hi (ev_pos i0 (ev_pos (by show i<7;omega) (Ev.bind hj ?_)))),by omega,by omega,by decide⟩
      simp only[hK]
      exact ev_pos e (Ev.bind ho (ev_tt (ev_pos (by decide) (Ev.now _))))
    |false=>
      refine⟨K,(⟨#[]⟩:ByteArray),p1,ev_bindc rfl (Ev.bind hi (ev_pos i0 (ev_pos (by show i<7;omega) (Ev.bind hj ?_)))),by omega,by omega,by decide⟩
      simp only[hK]
      exact ev_pos e (Ev.bind ho (ev_ff (Ev.now _)))
  · obtain⟨s,p2,hs,c1,c2,c3⟩:=sent_ev hb t (p:=p+1+1) (by omega) (by omega)
    obtain⟨o,p1,ho,a1,a2⟩:=odd_ev hb (p:=p2) (by omega) (by omega) 40
    cases o with
    |true=>
      refine⟨K,s++(⟨#[41]⟩:ByteArray),p1,ev_bindc rfl (Ev.bind hi (ev_pos i0 (ev_pos (by show i<7;omega) (Ev.bind hj ?_)))),by omega,by omega,by rw[ByteArray.size_append,one];omega⟩
      simp only[hK]
      exact ev_neg e (Ev.bind hs (Ev.bind ho (ev_tt (ev_pos (by show s.size+1≤_;omega) (Ev.now _)))))
    |false=>
      refine⟨K,s,p1,ev_bindc rfl (Ev.bind hi (ev_pos i0 (ev_pos (by show i<7;omega) (Ev.bind hj ?_)))),by omega,by omega,by omega⟩
      simp only[hK]
      exact ev_neg e (Ev.bind hs (Ev.bind ho (ev_ff (Ev.now _))))
/-! ### minds -/
theorem mind_l0 {b:List Int} (hb:Code b) (n:Int):∀(x:Nat) (t:Int) (l:List Int) (ls:List (List Int)) (p:Int),x≤5→0≤p→p+100*x≤600000000→0<l.length→l.length≤8→ls.length+x≤5→(∀y∈ls,y.length≤8)→
    ∃t' l' ls' p',Ev (fun k=>spec_l20Mind.l0 k n (x:Int) b p t l ls) (t',l',ls',p')∧p≤p'∧p'≤p+100*x+10∧l'.length≤8∧ls'.length≤6∧∀y∈ls',y.length≤8:=by
  intro x
  induction x with
  |zero=>
    intro t l ls p _ h0 h1 hl0 hl8 hs hr
    obtain⟨o,p1,ho,a1,a2⟩:=odd_ev hb h0 (by omega) n
    cases o with
    |false=>exact⟨t,l,ls,p1,Ev.step (fun k=>rfl) (ev_neg (by omega) (Ev.bind ho (ev_ff (Ev.now _)))),by omega,by omega,hl8,by omega,hr⟩
    |true=>
      obtain⟨z,hz,z0,z1,_⟩:=pick_ev hb (p:=p1) (by omega) (by omega) 3
      by_cases e0:z=0
      · exact⟨4,l,ls,p1+1,Ev.step (fun k=>rfl) (ev_neg (by omega) (Ev.bind ho (ev_tt (Ev.bind hz (ev_pos e0 (Ev.now _)))))),by omega,by omega,hl8,by omega,hr⟩
      by_cases e1:z=1
      · exact⟨t,l.set (0:Int).toNat 9,ls,p1+1,Ev.step (fun k=>rfl) (ev_neg (by omega) (Ev.bind ho (ev_tt (Ev.bind hz (ev_neg e0 (ev_pos e1 (ev_pos (by omega) (Ev.now _)))))))),by omega,by omega,by rw[List.length_set];exact hl8,by omega,hr⟩
      · refine⟨t,l,ls++ [[1]],p1+1,Ev.step (fun k=>rfl) (ev_neg (by omega) (Ev.bind ho (ev_tt (Ev.bind hz (ev_neg e0 (ev_neg e1 (ev_pos (by omega) (Ev.now _)))))))),by omega,by omega,hl8,by rw[List.length_append,List.length_singleton];omega,fun y hy=>?_⟩
        rcases List.mem_append.1 hy with h|h
        · exact hr y h
        · rw[List.mem_singleton.1 h];decide
  |succ x ih=>
    intro t l ls p hx h0 h1 hl0 hl8 hs hr
    obtain⟨a,s,p1,hd,a1,a2,a3⟩:=deed_ev hb t l ls h0 (by omega)
    obtain⟨r1,r2,r3,r4,hm,hgood⟩:=MindDo_tot t (l:=l) (ls:=ls) (by omega) (by omega) (fun y hy=>by have:=hr y hy;omega) a s
    have hw:wrap64 (((x+1:Nat):Int) - 1)=(x:Int):=by rw[w64 (by omega) (by omega)];omega
    cases r4 with
    |true=>
      obtain⟨g1,g2,g3⟩:=hgood rfl
      obtain⟨t',l',ls',p',h2,b1,b2,b3⟩:=ih r1 r2 r3 p1 (by omega) (by omega) (by omega) g1.1 g1.2 (by omega) g3
      refine⟨t',l',ls',p',Ev.step (fun k=>rfl) (ev_pos (by omega) (Ev.bind hd (Ev.bind hm (ev_tt ?_)))),by omega,by omega,b3⟩
      rw[hw]
      exact h2
    |false=>
      obtain⟨t',l',ls',p',h2,b1,b2,b3⟩:=ih t l ls p1 (by omega) (by omega) (by omega) hl0 hl8 (by omega) hr
      refine⟨t',l',ls',p',Ev.step (fun k=>rfl) (ev_pos (by omega) (Ev.bind hd (Ev.bind hm (ev_ff ?_)))),by omega,by omega,b3⟩
      rw[hw]
      exact h2
theorem mind_ev {b:List Int} (hb:Code b) (n:Int) {p:Int} (h0:0≤p) (h1:p≤500000000):
    ∃t l ls p',Ev (fun k=>spec_l20Mind.f k b p n) (t,l,ls,p')∧p≤p'∧p'≤p+1000∧l.length≤8∧ls.length≤6∧∀y∈ls,y.length≤8:=by
  unfold spec_l20Mind.f
  obtain⟨t,ht,t0,t1⟩:=things0_ev hb h0 (by omega)
  obtain⟨l,p1,hl,a1,a2,a3⟩:=rank0_ev hb (p:=p+1) (by omega) (by omega) (t:=t) ⟨t0,t1⟩
  have h8:=rank_short a3
  have hw:=wn_le t
  have hlen:=(rankOk_iff.1 a3).2.1
  have hn:=spec_MindNew_ev t (l:=l) (by omega)
  have en:newMind t l=(t,tidyL l,[]):=if_pos a3
  rw[en]at hn
  obtain⟨x,hx,x0,x1,_⟩:=pick_ev hb (p:=p1) (by omega) (by omega) 6
  have x1:=x1 (by omega)
  obtain⟨m,rfl⟩:=Int.eq_ofNat_of_zero_le x0
  obtain⟨t',l',ls',p',h2,b1,b2,b3⟩:=mind_l0 hb n m t (tidyL l) [] (p1+1) (by omega) (by omega) (by omega) (by rw[tidyL_length];omega) (by rw[tidyL_length];omega) (by simp only[List.length_nil];omega) (by simp)
  exact⟨t',l',ls',p',Ev.bind ht (Ev.bind hl (Ev.bind hn (Ev.bind hx h2))),by omega,by omega,b3⟩
end Go.Proofs.Ytihgpkohglcijaa.Pl
