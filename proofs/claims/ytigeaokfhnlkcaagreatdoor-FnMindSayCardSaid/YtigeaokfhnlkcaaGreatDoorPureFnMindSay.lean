import Derived.Test.YtigeaokfhnlkcaaGreatDoorPx13
import Derived.Test.YtigeaokfhnlkcaaGreatDoorPx26
import Derived.Test.YtigeaokfhnlkcaaGreatDoorPx31
import Derived.Test.YtigeaokfhnlkcaaGreatDoorPx32
import Derived.Test.YtigeaokfhnlkcaaGreatDoorPx33
import Derived.Test.YtigeaokfhnlkcaaGreatDoorPz0
/- For every drawn mind and lines: the answers and the mind behind them are the reference's; in two parts they are the same; no answer is empty; a is believed exactly if its firmness is not 0. No condition. -/
namespace Go.Proofs.YtigeaokfhnlkcaaGreatDoor.Pure
open Go.RowKit YtigeaokfhnlkcaaGreatDoorW PrintWords PrintLast PrintMore Go.Proofs.YtigeaokfhnlkcaaGreatDoor.P Go.Proofs.YtigeaokfhnlkcaaGreatDoor.Mt Go.Proofs.YtigeaokfhnlkcaaGreatDoor.Pl
theorem tX {l:List BA} (hn:l.length≤9223372036854775807):Ev (fun k=>jV.f k l l) true:=by
  unfold jV.f
  refine gm rfl ?_
  have key:∀i,i≤l.length→Ev (fun k=>jV.l0 k l l (i:Int)) true:=by
    apply down
    · exact Ev.step (fun k=>rfl) (gn (by omega) (Ev.now _))
    · intro i hi ih
      refine Ev.step (fun k=>rfl) (gm (by omega) (gm (by omega) (gm (by omega) (gm rfl ?_))))
      rw[w1 hi hn]
      exact ih
  exact key 0 (Nat.zero_le _)
theorem Cg {b:List Int} (hb:Pl.Code b) (t:Int) (l:List Int) (ls:List (List Int)):∀(x:Nat) (q:List BA) (p:Int),q.length+x≤6→(∀y∈q,y.size≤60)→0≤p→p+110*x≤500000000→
    ∃ss,Ev (fun k=>jL.l0 k q (x:Int) b p t l ls) (t,l,ls,ss)∧ss.length≤41∧∀y∈ss,y.size≤60:=by
  intro x
  induction x with
  |zero=>
    intro q p hq hs h0 h1
    obtain⟨o,p3,ho,_,_⟩:=xB hb (p:=p) h0 (by omega) 30
    cases o with
    |true=>exact⟨List.replicate 41 (⟨#[]⟩:BA),Ev.step (fun k=>rfl) (gn (by omega) (Ev.bind ho (oF (gm (by decide) (Ev.now _))))),by rw[List.length_replicate];omega,fun y hy=>by rw[List.eq_of_mem_replicate hy];decide⟩
    |false=>exact⟨q,Ev.step (fun k=>rfl) (gn (by omega) (Ev.bind ho (rG (Ev.now _)))),by omega,hs⟩
  |succ x ih=>
    intro q p hq hs h0 h1
    obtain⟨s,p',hl,a1,a2,a3⟩:=CZ hb t l ls (p:=p) h0 (by omega)
    have hq2:(q++ [s]).length=q.length+1:=by rw[List.length_append,List.length_singleton]
    obtain⟨ss,h2,b1,b2⟩:=ih (q++ [s]) p' (by omega) (fun y hy=>by
      rcases List.mem_append.1 hy with h|h
      · exact hs y h
      · rw[List.mem_singleton.1 h];exact a3) (by omega) (by omega)
    refine⟨ss,Ev.step (fun k=>rfl) (gm (by omega) (Ev.bind hl (gm (by omega) ?_))),b1,b2⟩
    have hw:wrap64 (((x+1:Nat):Int) - 1)=(x:Int):=by rw[su (by omega) (by omega)];omega
    rw[hw]
    exact h2
theorem Da {c:List Int} (hc:∀x∈c,(Lit.int .u8 x).wf=true):∃t l ls ss,Ev (fun k=>jL.f k c) (t,l,ls,ss)∧l.length≤8∧ls.length≤6∧(∀y∈ls,y.length≤8)∧ss.length≤41∧∀y∈ss,y.size≤60:=by
  obtain⟨b,hb,hcode⟩:=CW hc
  obtain⟨t,l,ls,p1,hm,a1,a2,h8,h6,hr⟩:=CY hcode 12 (p:=0) (by omega) (by omega)
  obtain⟨x,hx,x0,x1,_⟩:=qH hcode (p:=p1) (by omega) (by omega) 7
  have x1:=x1 (by omega)
  obtain⟨n,rfl⟩:=Int.eq_ofNat_of_zero_le x0
  obtain⟨ss,hs,c1,c2⟩:=Cg hcode t l ls n [] (p1+1) (by simp only[List.length_nil];omega) (by simp) (by omega) (by omega)
  unfold jL.f
  exact⟨t,l,ls,ss,ie hb (Ev.bind hm (Ev.bind hx hs)),h8,h6,hr,c1,c2⟩
theorem El {t:Int} {l:List Int} {ls:List (List Int)} {ss:List BA} (h1:l.length≤9223372036854775807) (h2:ls.length≤9223372036854775807) (h3:∀y∈ls,y.length≤9223372036854775807) (hn:¬(qv t l ls=true∧ss.length≤40)):
    Ev (fun k=>jo.f k t l ls ss) (0,[],[],[])∧Ev (fun k=>iU.f k t l ls ss) (0,[],[],[]):=by
  have im:=ux t h1 h3
  have sm:=qN t (l:=l) (ls:=ls) (by omega) (by omega) (fun y hy=>by have:=h3 y hy;omega)
  unfold jo.f iU.f
  cases h:qv t l ls with
  |false=>
    rw[h]at im sm
    exact⟨Ev.bind im (rG (Ev.step (fun k=>rfl) (Ev.now _))),ie rfl (Ev.bind sm (rG (Ev.step (fun k=>rfl) (Ev.now _))))⟩
  |true=>
    rw[h]at im sm
    have hd:decide ((ss.length:Int)>40)=true:=decide_eq_true (by have:¬ss.length≤40:=fun k=>hn ⟨h,k⟩;omega)
    refine⟨Ev.bind im (oF ?_),ie rfl (Ev.bind sm (oF ?_))⟩
    · rw[hd]
      exact Ev.step (fun k=>rfl) (Ev.now _)
    · rw[hd]
      exact Ev.step (fun k=>rfl) (Ev.now _)
theorem Em {ss yO zJ:List BA} {q:Int} {m:List Int} {ms:List (List Int)} (ok:qv q m ms=true) (hl:(yO++zJ).length=ss.length) (zZ:ss.length≤40) (hne:∀r∈yO++zJ,r.toList≠ []):Ev (fun k=>iw.l0 k ss (yO++zJ) yO zJ 0 q m ms q m ms) true:=by
  obtain⟨o1,o2,o3⟩:=qq.1 ok
  have l1:=len8 (oP.1 o1).1
  have l3:∀y∈ms,y.length≤8:=fun y hy=>len8 (oP.1 (o3 y hy)).1
  obtain⟨y,f,hy,hf,IE⟩:=CU ok
  have ha:(yO++zJ).length=yO.length+zJ.length:=List.length_append
  have key:∀i,i≤(yO++zJ).length→Ev (fun k=>iw.l0 k ss (yO++zJ) yO zJ (i:Int) q m ms q m ms) true:=by
    apply down
    · refine Ev.step (fun k=>rfl) (gn (by omega) ?_)
      refine Ev.bind hy (Ev.bind hf (Ev.bind (sX q (l:=m) (ls:=ms) (by omega) (by omega) (fun y hy=>by have:=l3 y hy;omega)) (oF ?_)))
      refine ie rfl (gm (show 0+yO.length<_ by omega) (ie rfl (gm (show([]++yO).length+zJ.length<_ by rw[List.nil_append];omega) ?_)))
      exact Ev.bind (tX (l:=yO++zJ) (by omega)) (oF (gm (by omega) (kQ (Ev.now _) IE)))
    · intro i hi ih
      refine Ev.step (fun k=>rfl) (gm (by omega) (gm (by omega) (gn ?_ ?_)))
      · rw[yI hi];exact hne _ (List.getElem_mem hi)
      · rw[w1 hi (by omega)];exact ih
  exact key 0 (Nat.zero_le _)
theorem FnMindSay:iw.Pure:=by
  intro c _ _ hc
  refine Ev.rounds (g:=fun k=>iw.f k c) ?_
  unfold iw.f
  by_cases hlen:(c.length:Int)>1048576
  · exact gm hlen (Ev.now _)
  obtain⟨t,l,ls,ss,hd,h8,h6,hr,hn,hz⟩:=Da hc
  have hr':∀y∈ls,y.length≤9223372036854775807:=fun y hy=>by have:=hr y hy;omega
  have hv:=qN t (l:=l) (ls:=ls) (by omega) (by omega) hr'
  by_cases good:qv t l ls=true∧ss.length≤40
  · obtain⟨ok,zZ⟩:=good
    rw[ok]at hv
    have hw:wrap64 ((ss.length:Int)/2)=((ss.length/2:Nat):Int):=by rw[su (by omega) (by omega)];omega
    have z1:∀y∈ss.take (ss.length/2),y.size≤1048576:=fun y hy=>by have:=hz y (List.mem_of_mem_take hy);omega
    have z2:∀y∈ss.drop (ss.length/2),y.size≤1048576:=fun y hy=>by have:=hz y (List.mem_of_mem_drop hy);omega
    obtain⟨q1,m1,ms1,yO,s1,ok1,e1⟩:=BZ ok z1
    obtain⟨q2,m2,Ig,zJ,s2,ok2,e2⟩:=BZ ok1 z2
    have sa:=s1.append s2
    rw[List.take_append_drop]at sa
    have d1:(ss.take (ss.length/2)).length=ss.length/2:=by rw[List.length_take];omega
    have d2:(ss.drop (ss.length/2)).length=ss.length - ss.length/2:=List.length_drop
    obtain⟨wi,ws⟩:=uB ok zZ sa
    have p1:=(uB ok (by omega) s1).1
    have p2:=(uB ok1 (by omega) s2).1
    have ha:(yO++zJ).length=ss.length:=by rw[List.length_append];omega
    obtain⟨o1,o2,o3⟩:=qq.1 ok2
    have l1:=len8 (oP.1 o1).1
    have l3:∀y∈Ig,y.length≤8:=fun y hy=>len8 (oP.1 (o3 y hy)).1
    have fin:=Em ok2 ha zZ sa.ne
    refine gn hlen (Ev.bind hd (Ev.bind wi (Ev.bind ws (Ev.bind (sX q2 (l:=m2) (ls:=Ig) (by omega) (by omega) (fun y hy=>by have:=l3 y hy;omega)) (oF (Ev.bind (tX (l:=yO++zJ) (by omega)) (oF (Ev.bind hv (oF (gn (by dsimp only;omega) ?_))))))))))
    dsimp only
    rw[hw,Int.toNat_natCast]
    exact gm (by omega) (gm (by omega) (Ev.bind p1 (Ev.bind p2 fin)))
  · obtain⟨wi,ws⟩:=El (ss:=ss) (by omega) (by omega) hr' good
    have same:=sX 0 (l:=[]) (ls:=[]) (by simp) (by simp) (by simp)
    have no:Ev (fun k=>qd.f k 0 [] []) true:=Ev.bind same (Ev.now _)
    refine gn hlen (Ev.bind hd (Ev.bind wi (Ev.bind ws (Ev.bind same (oF (Ev.bind (tX (l:=[]) (by simp)) (oF (Ev.bind hv ?_))))))))
    cases h:qv t l ls with
    |false=>exact rG (gm rfl (Ev.bind no (oF (ie xZ (Ev.now _)))))
    |true=>exact oF (gm (by have:¬ss.length≤40:=fun k=>good ⟨h,k⟩;dsimp only;omega) (gm rfl (Ev.bind no (oF (ie xZ (Ev.now _))))))
end Go.Proofs.YtigeaokfhnlkcaaGreatDoor.Pure
