import Derived.Test.YtigeaokfhnlkcaaGreatDoorPx0
import Derived.Test.YtigeaokfhnlkcaaGreatDoorPx2
import Derived.Test.YtigeaokfhnlkcaaGreatDoorPx3
import Derived.Test.YtigeaokfhnlkcaaGreatDoorPx9
import Derived.Test.YtigeaokfhnlkcaaGreatDoorPx20
import Derived.Test.YtigeaokfhnlkcaaGreatDoorPx21
import Derived.Test.YtigeaokfhnlkcaaGreatDoorPx22
import Derived.Test.YtigeaokfhnlkcaaGreatDoorPx23
import Derived.Test.YtigeaokfhnlkcaaGreatDoorPx24
import Derived.Test.YtigeaokfhnlkcaaGreatDoorPz0
/- For every drawn text and mind: the text of the deeds that are read is what was read; of any beginning of it the first ones are read; said line by line the deeds lead to the mind to which MindRun leads. No condition. -/
namespace Go.Proofs.YtigeaokfhnlkcaaGreatDoor.Pure
open Go.RowKit YtigeaokfhnlkcaaGreatDoorW PrintWords PrintLast PrintMore Go.Proofs.YtigeaokfhnlkcaaGreatDoor.P Go.Proofs.YtigeaokfhnlkcaaGreatDoor.Mt Go.Proofs.YtigeaokfhnlkcaaGreatDoor.Pl
theorem zZ {t:Int} {l:List Int} {ls:List (List Int)} {a:Int} {s:ByteArray} (h:¬(rG t l ls a s).2.2.2=true):rG t l ls a s=(t,l,ls,false):=by
  unfold rG at h⊢
  split
  · rename_i h1
    rw[if_pos h1]at h
    split
    · rfl
    · rename_i h2
      rw[if_neg h2]at h
      exact absurd rfl h
  · rename_i h1
    rw[if_neg h1]at h
    split
    · rename_i h2
      rw[if_pos h2]at h
      split
      · rename_i h3
        rw[if_pos h3]at h
        split
        · rfl
        · rename_i h4
          rw[if_neg h4]at h
          split
          · rfl
          · rename_i h5
            rw[if_neg h5]at h
            exact absurd rfl h
      · rfl
    · rfl
theorem xy (b:List Int) (p:Int) (q:List oK) (hq:q.length≤6) (hs:∀y∈q,y.f1.size≤21):∀i,i≤q.length→∀out:List oK,out.length≤i→(∀y∈out,y.f1.size≤21)→
    ∃r,Ev (fun k=>nx.l0 k out q (i:Int) b p) (r,p)∧r.length≤6∧∀y∈r,y.f1.size≤21:=by
  apply down
  · intro out ho hy
    exact⟨out,Ev.step (fun k=>rfl) (jW (by omega) (Ev.now _)),by omega,hy⟩
  · intro i hi ih out ho hy
    have hx:=hs _ (List.getElem_mem hi)
    have hd:=qO q[i].f0 (s:=q[i].f1) (by omega)
    by_cases c:(oY q[i].f0 q[i].f1).toList= []
    · obtain⟨r,h1,h2⟩:=ih out (by omega) hy
      refine⟨r,Ev.step (fun k=>rfl) (jb (by omega) (jb (by omega) ?_)),h2⟩
      rw[rR hi,w1 hi (by omega)]
      exact Ev.bind hd (jb c h1)
    · obtain⟨r,h1,h2⟩:=ih (out++ [(⟨q[i].f0,q[i].f1⟩:oK)]) (by rw[List.length_append,List.length_singleton];omega) (fun y hm=>by
        rcases List.mem_append.1 hm with h|h
        · exact hy y h
        · rw[List.mem_singleton.1 h];exact hx)
      refine⟨r,Ev.step (fun k=>rfl) (jb (by omega) (jb (by omega) ?_)),h2⟩
      rw[rR hi,w1 hi (by omega)]
      exact Ev.bind hd (jW c (jb (by omega) h1))
theorem BC {q:List oK} (hs:∀y∈q,y.f1.size≤21):qq q≤21*q.length:=by
  unfold qq
  induction q with
  |nil=>exact Nat.zero_le _
  |cons x q ih=>
    have h1:=hs x List.mem_cons_self
    have h2:=ih (fun y hy=>hs y (List.mem_cons_of_mem _ hy))
    rw[List.map_cons,List.sum_cons,List.length_cons]
    omega
theorem Aa {b:List Int} (hb:Pl.Code b) {p:Int} (h0:0≤p) (h1:p≤700000000) {s:ByteArray} (hs:s.size≤1000):∃r p',Ev (fun k=>ou.f k b p s) (r,p')∧r.size≤3000:=by
  unfold ou.f
  by_cases hz:(s.size:Int)=0
  · exact⟨_,p,jb hz (Ev.now _),by decide⟩
  · obtain⟨i,hi,i0,i1,_⟩:=pW hb h0 (by omega) (s.size:Int)
    have i1:=i1 (by omega)
    obtain⟨j,hj,j0,j1,_⟩:=pW hb (p:=p+1) (by omega) (by omega) 6
    have j1:=j1 (by omega)
    obtain⟨n,rfl⟩:=Int.eq_ofNat_of_zero_le i0
    have hw:wrap64 ((n:Int)+1)=((n+1:Nat):Int):=w1 (n:=s.size) (by omega) (by omega)
    have e1:(s.extract 0 ((n:Int)).toNat).size≤1000:=by rw[ByteArray.size_extract];omega
    have e2:(s.extract (((n+1:Nat):Int)).toNat s.size).size≤1000:=by rw[ByteArray.size_extract];omega
    have e3:(rdOf ByteArray.empty [(⟨#[]⟩:ByteArray),(⟨#[97]⟩:ByteArray),(⟨#[32]⟩:ByteArray),(⟨#[10]⟩:ByteArray),(⟨#[40]⟩:ByteArray),(⟨#[98,97,99,107]⟩:ByteArray)] j).size≤4:=by
      have:j=0∨j=1∨j=2∨j=3∨j=4∨j=5:=by omega
      rcases this with rfl|rfl|rfl|rfl|rfl|rfl<;>decide+kernel
    refine⟨_,_,jW hz (Ev.bind hi (jb i0 (jb (by show(n:Int)≤_;omega) (nt rfl (Ev.bind hj (jb j0 (jb (by show j<6;omega) (jb (by dsimp only;omega) (jb (by dsimp only;rw[hw];omega) (jb (by dsimp only;rw[hw];omega) (jb ?_ (Ev.now _)))))))))))),?_⟩
    · dsimp only
      rw[hw,ByteArray.size_append];omega
    · dsimp only
      rw[hw,ByteArray.size_append,ByteArray.size_append];omega
theorem xz {c:List Int} (hc:∀x∈c,(Lit.int .u8 x).wf=true):∃t l ls q,Ev (fun k=>oS.f k c) (t,l,ls,q)∧l.length≤8∧ls.length≤6∧(∀y∈ls,y.length≤8)∧q.length≤41:=by
  obtain⟨b,hb,hcode⟩:=yv hc
  obtain⟨t,l,ls,p1,hm,a1,a2,h8,h6,hr⟩:=yz hcode 12 (p:=0) (by omega) (by omega)
  obtain⟨o,p3,ho,c1,c2⟩:=wm hcode (p:=p1) (by omega) (by omega) 30
  obtain⟨q,p2,hq,b1,b2,b3,_⟩:=wU hcode t (l:=l) (ls:=ls) (p:=p3) (by omega) (by omega) (by omega) h6 (fun y hy=>by have:=hr y hy;omega)
  unfold oS.f
  cases o with
  |true=>exact⟨t,l,ls,List.replicate 41 z47,nt hb (Ev.bind hm (Ev.bind ho (pO (jb (by decide) (Ev.now _))))),h8,h6,hr,by rw[List.length_replicate];omega⟩
  |false=>exact⟨t,l,ls,q,nt hb (Ev.bind hm (Ev.bind ho (qy (Ev.bind hq (Ev.now _))))),h8,h6,hr,by omega⟩
theorem Ab {c:List Int} (hc:∀x∈c,(Lit.int .u8 x).wf=true):∃s,Ev (fun k=>oz.f k c) s∧s.size≤3000:=by
  obtain⟨b,hb,hcode⟩:=yv hc
  obtain⟨t,l,ls,p1,hm,a1,a2,h8,h6,hr⟩:=yz hcode 0 (p:=0) (by omega) (by omega)
  obtain⟨q,p2,hq,b1,b2,b3,b4⟩:=wU hcode t (l:=l) (ls:=ls) (p:=p1) (by omega) (by omega) (by omega) h6 (fun y hy=>by have:=hr y hy;omega)
  obtain⟨r,h1,h2,h3⟩:=xy b p2 q b3 b4 0 (Nat.zero_le _) [] (Nat.le_refl _) (by simp)
  have hw:Ev (fun k=>nx.f k b 0) (r,p2):=by
    unfold nx.f
    exact Ev.bind hm (Ev.bind hq h1)
  have hsum:=BC h3
  have hj:=yX (l:=r)
  have hjt:=tf (l:=r) (by omega) (by omega)
  obtain⟨x,hx,x0,x1,_⟩:=pW hcode (p:=p2) (by omega) (by omega) 3
  unfold oz.f
  by_cases e0:x=0
  · obtain⟨z,p',hz,hzs⟩:=Aa hcode (p:=p2+1) (by omega) (by omega) (s:=te r) (by omega)
    exact⟨z,nt hb (Ev.bind hw (Ev.bind hjt (Ev.bind hx (jb e0 (Ev.bind hz (Ev.now _)))))),hzs⟩
  by_cases e1:x=1
  · have hmn:0≤mn ((te r).size:Int) 250∧mn ((te r).size:Int) 250≤((te r).size:Int):=by unfold mn;split<;>omega
    obtain⟨i,hi,i0,i1,_⟩:=pW hcode (p:=p2+1) (by omega) (by omega) (mn ((te r).size:Int) 250+1)
    have i1:=i1 (by omega)
    refine⟨_,nt hb (Ev.bind hw (Ev.bind hjt (Ev.bind hx (jW e0 (jb e1 (Ev.bind hi (jb i0 (jb (by show i≤_;omega) (Ev.now _))))))))),?_⟩
    rw[ByteArray.size_extract];omega
  · exact⟨te r,nt hb (Ev.bind hw (Ev.bind hjt (Ev.bind hx (jW e0 (jW e1 (Ev.now _)))))),by omega⟩
theorem yH:∀{q:List oK} {y:oK},y∈q→y.f1.size≤qq q
  |x::q,y,h=>by
    unfold qq
    rw[List.map_cons,List.sum_cons]
    rcases List.mem_cons.1 h with rfl|h
    · omega
    · have:=yH h
      unfold qq at this
      omega
def Ac (b:Bool):ByteArray:=if b=true then(⟨#[111,107]⟩:ByteArray)else(⟨#[110,111]⟩:ByteArray)
theorem za {t:Int} {l:List Int} {ls:List (List Int)} (h:pU t l ls=true) {a:Int} {x:ByteArray} (hx:x.size≤1048576) (hd:(oY a x).toList≠ []):
    Ev (fun k=>oO.f k t l ls (oY a x)) ((rG t l ls a x).1,(rG t l ls a x).2.1,(rG t l ls a x).2.2.1,Ac (rG t l ls a x).2.2.2):=by
  obtain⟨b1,b2,b3⟩:=tW h
  have hsz:=rU a x
  have im:=vG t (l:=l) (ls:=ls) (by omega) (fun y hy=>by have:=b3 y hy;omega)
  rw[h]at im
  have ir:=qP (s:=oY a x) (by omega)
  rw[(told a x).resolve_left hd]at ir
  have id:=rZ h a x
  have il:Ev (fun k=>pD.f k t l ls (oY a x)) ((rG t l ls a x).1,(rG t l ls a x).2.1,(rG t l ls a x).2.2.1,Ac (rG t l ls a x).2.2.2):=by
    generalize rG t l ls a x=g at id
    obtain⟨q,m,ms,b⟩:=g
    cases b with
    |true=>exact Ev.bind ir (jb rfl (Ev.bind id (jb rfl (Ev.now _))))
    |false=>exact Ev.bind ir (jb rfl (Ev.bind id (jW Bool.false_ne_true (Ev.now _))))
  exact Ev.bind im (pO (Ev.bind il (Ev.now _)))
theorem yI {s:ByteArray} {q:List oK} {n t t2:Int} {l l2:List Int} {ls wq:List (List Int)} (h8:l.length≤8) (h6:ls.length≤6) (hr:∀y∈ls,y.length≤8) (hs:s.size≤3000) (hq:rj s=(q,n))
    (hend:pU t l ls=true→q.length≤40→∃c,rB q t l ls 0=(t2,l2,wq,c)):
    Ev (fun k=>(nc.f k t l ls q).bind fun b=>(if n≤(s.size:Int)then((mM.f k q).bind fun y=>(if 0≤n then(if y.toList=(s.extract 0 (n:Int).toNat).toList then((kr.f k t l ls).bind fun z=>(if z=true then(if(q.length:Int)>40 then((pe.f).bind fun v=>(some v))else((oU.f k t2 l2 wq b.1 b.2.1 b.2.2.1).bind fun v=>(if v=true then((pe.f).bind fun u=>(some u))else(none))))else((pe.f).bind fun v=>(some v))))else(none))else(none)))else(none))) true:=by
  have hlen:=xw s
  obtain⟨ht,hsum⟩:=yG s
  have hL:=(tH (s.size+1) s.toList).1
  rw[nB]at hL
  have hn:n=((sl (s.size+1) s.toList).2:Int):=(congrArg Prod.snd hq).symm
  rw[hq]at hlen ht hsum
  have hr':∀y∈ls,y.length≤9223372036854775807:=fun y hy=>by have:=hr y hy;omega
  have run:=um (t:=t) (l:=l) (ls:=ls) (q:=q) (by omega) hr' (by show q.length≤_;have:q.length≤s.size:=hlen;omega)
  have hjt:=tg (l:=q) (by have:q.length≤s.size:=hlen;omega) (by have:qq q≤s.size:=hsum;omega)
  have hv:=qJ t (l:=l) (ls:=ls) (by omega) (by omega) hr'
  have e:(te q).toList=(s.extract 0 (n:Int).toNat).toList:=by
    rw[qu,List.drop_zero,Nat.sub_zero,hn,Int.toNat_natCast]
    exact ht
  by_cases hm:pU t l ls=true
  · rw[hm]at hv
    by_cases xn:q.length≤40
    · obtain⟨c,hc⟩:=hend hm xn
      have ok:=uE q 0 hm
      rw[if_pos ⟨hm,xn⟩,hc]at run
      rw[hc]at ok
      obtain⟨b1,b2,b3⟩:=tW ok
      dsimp only at b1 b2 b3
      exact Ev.bind run (jb (by omega) (Ev.bind hjt (jb (by omega) (jb e (Ev.bind hv (pO (jW (by omega) (Ev.bind (vv t2 (l:=l2) (ls:=wq) (by omega) (by omega) (fun y hy=>by have:=b3 y hy;omega)) (pO (nt uV (Ev.now _)))))))))))
    · exact Ev.bind run (jb (by omega) (Ev.bind hjt (jb (by omega) (jb e (Ev.bind hv (pO (jb (by omega) (nt uV (Ev.now _)))))))))
  · rw[Bool.eq_false_iff.2 hm]at hv
    exact Ev.bind run (jb (by omega) (Ev.bind hjt (jb (by omega) (jb e (Ev.bind hv (qy (nt uV (Ev.now _))))))))
theorem Ad {s:ByteArray} {q:List oK} {n t:Int} {l:List Int} {ls:List (List Int)} (h8:l.length≤8) (h6:ls.length≤6) (hr:∀y∈ls,y.length≤8) (hs:s.size≤3000) (hq:rj s=(q,n)):
    Ev (fun k=>jU.l1 k s q n 0 t l ls t l ls) true:=by
  have hv:=qJ t (l:=l) (ls:=ls) (by omega) (by omega) (fun y hy=>by have:=hr y hy;omega)
  have hlen:q.length≤s.size:=by have:=xw s;rw[hq]at this;exact this
  have hsum:qq q≤s.size:=by have:=(yG s).2;rw[hq]at this;exact this
  have hall:=(vm (s.size+1) s.toList).1
  have hall:(q.all fun(x:oK)=>decide ((oY x.f0 x.f1).toList≠ []))=true:=by have e:(rj s).1=q:=congrArg Prod.fst hq;rw[←e];exact hall
  by_cases hm:pU t l ls=true
  · rw[hm]at hv
    have key:∀i,i≤q.length→∀(t2:Int) (l2:List Int) (wq:List (List Int)) (c:Int),rB (q.take i) t l ls 0=(t2,l2,wq,c)→Ev (fun k=>jU.l1 k s q n (i:Int) t l ls t2 l2 wq) true:=by
      apply down
      · intro t2 l2 wq c hc
        rw[List.take_length]at hc
        exact Ev.step (fun k=>rfl) (jW (by omega) (yI h8 h6 hr hs hq (fun _ _=>⟨c,hc⟩)))
      · intro i hi ih t2 l2 wq c hc
        have ok:=uE (q.take i) 0 hm
        rw[hc]at ok
        have hx:=yH (List.getElem_mem hi)
        have hd:(oY q[i].f0 q[i].f1).toList≠ []:=of_decide_eq_true (List.all_eq_true.1 hall _ (List.getElem_mem hi))
        have ml:=za (t:=t2) (l:=l2) (ls:=wq) ok (a:=q[i].f0) (x:=q[i].f1) (by omega) hd
        have dt:Ev (fun k=>oW.f k (la q (i:Int)).f0 (la q (i:Int)).f1) (oY q[i].f0 q[i].f1):=by
          rw[rR hi];exact ub _ (by omega)
        have st:rB (q.take (i+1)) t l ls 0=rB [q[i]] t2 l2 wq c:=by
          rw[List.take_succ_eq_append_getElem hi,sf,hc]
        refine Ev.step (fun k=>rfl) (jb (by omega) (Ev.bind hv (pO (jb (by omega) (Ev.bind dt (Ev.bind ml ?_))))))
        have no:=zZ (t:=t2) (l:=l2) (ls:=wq) (a:=q[i].f0) (s:=q[i].f1)
        have s1:rB [q[i]] t2 l2 wq c=if(rG t2 l2 wq q[i].f0 q[i].f1).2.2.2=true then((rG t2 l2 wq q[i].f0 q[i].f1).1,(rG t2 l2 wq q[i].f0 q[i].f1).2.1,(rG t2 l2 wq q[i].f0 q[i].f1).2.2.1,c+1)else(t2,l2,wq,c):=rfl
        rw[s1]at st
        rw[w1 hi (by omega)]
        generalize rG t2 l2 wq q[i].f0 q[i].f1=g at no st
        obtain⟨q1,m1,ms1,b⟩:=g
        cases b with
        |true=>
          rw[if_pos rfl]at st
          exact jb (show(Ac true).toList= [111,107] by decide+kernel) (ih q1 m1 ms1 (c+1) st)
        |false=>
          rw[if_neg Bool.false_ne_true]at st
          have e:=no (by simp)
          simp only[Prod.mk.injEq]at e
          obtain⟨rfl,rfl,rfl,_⟩:=e
          exact jW (show¬(Ac false).toList= [111,107] by decide+kernel) (jb (show(Ac false).toList= [110,111] by decide+kernel) (ih _ _ _ c st))
    exact key 0 (Nat.zero_le _) t l ls 0 rfl
  · rw[Bool.eq_false_iff.2 hm]at hv
    have ex:=yI (t2:=t) (l2:=l) (wq:=ls) h8 h6 hr hs hq (fun k=>absurd k hm)
    by_cases h0:q.length=0
    · exact Ev.step (fun k=>rfl) (jW (by omega) ex)
    · exact Ev.step (fun k=>rfl) (jb (by omega) (Ev.bind hv (qy ex)))
theorem FnReadJournal:jU.Pure:=by
  intro c d _ _ hc _ _ hd
  refine Ev.rounds (g:=fun k=>jU.f k c d) ?_
  unfold jU.f
  by_cases hlen:(c.length:Int)>1048576
  · exact jb hlen (Ev.now _)
  by_cases hlen2:(d.length:Int)>1048576
  · exact jW hlen (jb hlen2 (Ev.now _))
  obtain⟨s,hs,h3⟩:=Ab hc
  obtain⟨t,l,ls,z,hm,h8,h6,hr,_⟩:=xz hd
  obtain⟨q,n,hq⟩:∃q n,rj s=(q,n):=⟨_,_,rfl⟩
  have ij:=rf (s:=s) (by omega)
  have sj:=td (s:=s) (by omega)
  rw[hq]at ij sj
  have hl:q.length≤s.size:=by have:=xw s;rw[hq]at this;exact this
  refine jW hlen (jW hlen2 (Ev.bind hs (Ev.bind ij (Ev.bind sj (Ev.bind (sm (l:=q) (by omega)) (pO (jb rfl ?_)))))))
  have key:∀i,i≤s.size+1→Ev (fun k=>jU.l0 k d s q n (i:Int)) true:=by
    apply down
    · exact Ev.step (fun k=>rfl) (jW (by omega) (Ev.bind hm (Ad h8 h6 hr h3 hq)))
    · intro i hi ih
      have he:(s.extract 0 ((i:Int)).toNat).toList=s.toList.take i:=by rw[Int.toNat_natCast,qu,List.drop_zero,Nat.sub_zero]
      have hes:(s.extract 0 ((i:Int)).toNat).size≤i:=by rw[←nB,he,List.length_take];omega
      have hp:=xa ((s.extract 0 ((i:Int)).toNat).size+1) (s.size+1) s.toList i (by rw[nB];omega)
      have hL:=(tH ((s.extract 0 ((i:Int)).toNat).size+1) (s.toList.take i)).1
      rw[List.length_take,nB]at hL
      have rp:=rf (s:=s.extract 0 ((i:Int)).toNat) (by omega)
      unfold rj at rp hq
      rw[he]at rp
      generalize sl ((s.extract 0 ((i:Int)).toNat).size+1) (s.toList.take i)=g at rp hp hL
      obtain⟨x,m⟩:=g
      dsimp only at rp hp hL
      rw[congrArg Prod.fst hq]at hp
      dsimp only at hp
      have hxl:=hp.length_le
      have hmn:mn (x.length:Int) (q.length:Int)=(x.length:Int):=by unfold mn;rw[if_neg (by omega)]
      have ht:q.take ((mn (x.length:Int) (q.length:Int))).toNat=x:=by rw[hmn,Int.toNat_natCast];exact(List.prefix_iff_eq_take.1 hp).symm
      have sd:Ev (fun k=>nN.f k x (q.take ((mn (x.length:Int) (q.length:Int))).toNat)) true:=by rw[ht];exact sm (by omega)
      rw[←w1 (n:=s.size+1) hi (by omega)]at ih
      exact Ev.step (fun k=>rfl) (jb (by omega) (jb (by omega) (Ev.bind rp (jW (by dsimp only;omega) (jb (by dsimp only;omega) (jb (by dsimp only;omega) (Ev.bind sd (pO (jW (by dsimp only;omega) ih)))))))))
  exact key 0 (Nat.zero_le _)
end Go.Proofs.YtigeaokfhnlkcaaGreatDoor.Pure
