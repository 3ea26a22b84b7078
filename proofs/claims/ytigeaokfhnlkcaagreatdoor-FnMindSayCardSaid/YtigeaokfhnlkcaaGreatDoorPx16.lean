import Derived.Test.YtigeaokfhnlkcaaGreatDoorPx0
import Derived.Test.YtigeaokfhnlkcaaGreatDoorPx15
namespace Go.Proofs.YtigeaokfhnlkcaaGreatDoor.P
open Go.RowKit YtigeaokfhnlkcaaGreatDoorW PrintWords PrintLast PrintMore
attribute [local go_sem] max2_int min2_int max_two min_two max_three min_three max_four min_four
set_option linter.unusedVariables false
set_option linter.unusedSimpArgs false
set_option maxHeartbeats 8000000
set_option maxRecDepth 100000
def fD.p (c x:Int):Option Bool:=if c=0 then some (Go.bits .and .i64 x 1==1)else if c=1 then some (Go.bits .and .i64 (x/2) 1==1)else if c=2 then some (Go.bits .and .i64 (x/4) 1==1)else none
def fD.f:Nat→Int→BA→Int→Option (Int×Bool×Int×BA×Int)
 |0,_,_,_=>none
 |k+1,t,s,a=>(kt.f t).bind fun al=>(jx.f t s a).bind fun b=>
  if b.1=48 then some (0,true,b.2.1,b.2.2.1,b.2.2.2)
  else if b.1=49 then some (al,true,b.2.1,b.2.2.1,b.2.2.2)
  else if b.1=97 then(jJ.f (fD.p 0) b.2.1).bind fun x=>some (x,decide (0<b.2.1),b.2.1,b.2.2.1,b.2.2.2)
  else if b.1=98 then(jJ.f (fD.p 1) b.2.1).bind fun x=>some (x,decide (1<b.2.1),b.2.1,b.2.2.1,b.2.2.2)
  else if b.1=99 then(jJ.f (fD.p 2) b.2.1).bind fun x=>some (x,decide (2<b.2.1),b.2.1,b.2.2.1,b.2.2.2)
  else if b.1=33 then(fD.f k b.2.1 b.2.2.1 b.2.2.2).bind fun c=>some (Go.bits .xor .i64 al c.1,c.2.1,c.2.2.1,c.2.2.2.1,c.2.2.2.2)
  else if b.1=40 then(fD.f k b.2.1 b.2.2.1 b.2.2.2).bind fun c=>
   if c.2.1=true then(jx.f c.2.2.1 c.2.2.2.1 c.2.2.2.2).bind fun sg=>(fD.f k sg.2.1 sg.2.2.1 sg.2.2.2).bind fun d=>
    if d.2.1=true then(jx.f d.2.2.1 d.2.2.2.1 d.2.2.2.2).bind fun e=>
     if e.1=41 then
      (if sg.1=38 then some (Go.bits .and .i64 c.1 d.1,true,e.2.1,e.2.2.1,e.2.2.2)
      else if sg.1=124 then some (Go.bits .or .i64 c.1 d.1,true,e.2.1,e.2.2.1,e.2.2.2)
      else if sg.1=62 then some (Go.bits .or .i64 (Go.bits .xor .i64 al c.1) d.1,true,e.2.1,e.2.2.1,e.2.2.2)
      else some (0,false,e.2.1,e.2.2.1,e.2.2.2))
     else some (0,false,e.2.1,e.2.2.1,e.2.2.2)
    else some (0,false,d.2.2.1,d.2.2.2.1,d.2.2.2.2)
   else some (0,false,c.2.2.1,c.2.2.2.1,c.2.2.2.2)
  else some (0,false,b.2.1,b.2.2.1,b.2.2.2)
theorem fD.mono:∀a0 a1 a2 k,LeO (fD.f k a0 a1 a2) (fD.f (k+1) a0 a1 a2):=by
 intro a0 a1 a2 k;induction k generalizing a0 a1 a2 with
 |zero=>exact LeO.none _
 |succ k ih=>
  unfold fD.f;repeat' first
  |(with_reducible first|exact ih _ _ _|exact LeO.refl _|refine LeO.ite ?_ ?_|refine LeO.bind ?_ (fun _=>?_))
  |refine LeO.ite ?_ ?_
  |refine LeO.bind ?_ (fun _=>?_)
instance fD.mo {k a0 a1 a2}:lS (fD.f k a0 a1 a2) (fD.f (k+1) a0 a1 a2):=⟨fD.mono a0 a1 a2 k⟩
theorem fD.gives (w:World) (B:Nat) (c:Int) (hB:B<w.heap.size) (hd:w.cell? ⟨B,0,none⟩=some (.int .i64 c)):
  Hof.tQ 142 #[.pointer (some ⟨B,0,none⟩)] (fD.p c) w:=fun W x b hb hp=>by
 have hd':=(hb.cell (p:=⟨B,0,none⟩) hB).trans hd;clear hd hb hB;unfold fD.p at hp;by_cases h0:c=0
 ·subst h0;rw[if_pos rfl]at hp;obtain rfl:=pd hp;clear hp;go_enter Tryz.func142,Tryz.ntmps142;go_wp2;go_ret;exact⟨by first|rfl|(simp;done)|(simp[*];done),Below.refl _ _⟩
 ·skip;by_cases h1:c=1
  ·subst h1;rw[if_neg (by decide)]at hp;rw[if_pos rfl]at hp;obtain rfl:=pd hp;clear hp h0;go_enter Tryz.func142,Tryz.ntmps142;go_wp2;go_ret;exact⟨by first|rfl|(simp;done)|(simp[*];done),Below.refl _ _⟩
  ·skip;by_cases h2:c=2
   ·subst h2;rw[if_neg (by decide)]at hp;rw[if_neg (by decide)]at hp;rw[if_pos rfl]at hp;obtain rfl:=pd hp;clear hp h0 h1;go_enter Tryz.func142,Tryz.ntmps142;go_wp2;go_ret;exact⟨by first|rfl|(simp;done)|(simp[*];done),Below.refl _ _⟩
   ·skip;rw[if_neg h0,if_neg h1,if_neg h2]at hp;cases hp
theorem fD.calls (k:Nat):∀(g:Nat) (ar:Int) (au:BA) (av:Int) (r1:Int) (r2:Bool) (r3:Int) (r4:BA) (r5:Int) (w0 w:World) (hI:jA w0 w g ar au av) (hB:Below w0.heap.size w0 w) (h:fD.f k ar au av=some (r1,r2,r3,r4,r5)),
  Calls Tryz.prog 130 #[.pointer (some ⟨g,0,none⟩)] w fun e w'=>e= .returned (.tuple #[.int .i64 r1,.bool r2])∧jA w0 w' g r3 r4 r5∧Below w0.heap.size w0 w'∧kN w w' g none:=by
 induction k with
 |zero=>intro g ar au av r1 r2 r3 r4 r5 w0 w hI hB h;exact absurd h (by simp[fD.f])
 |succ k ih=>
 intro g t s a r1 r2 r3 r4 r5 w0 w hI hB h;simp only[fD.f]at h;have o:=Option.bind_eq_some_iff.mp h;clear h;obtain⟨al,aV,h⟩:=o;have o:=Option.bind_eq_some_iff.mp h;clear h;obtain⟨⟨b,t1,s1,a1⟩,hn,h⟩:=o;simp only at h;have aW:=bm (fun W=>kt.calls t al W aV);have HN:=bm (fun W hI hB=>jx.calls g t s a b t1 s1 a1 w0 W hI hB hn);have HI:=bm hI;have HB:=bm hB;have HK:=bm (kN.refl w g none);have IH:=bm ih;have HH:=bm h;have aL:=tf hI.1;clear aV hn hI hB ih h;go_enter Tryz.func130,Tryz.ntmps130;go_wp2_with fail;refine(aW.out _).mono ?_;rintro e w1 ⟨rfl,⟨n,rfl⟩⟩;have aY:=bm (jA.drewN HI.out n);have aZ:=bm (Gr HB.out n);have a7:=bm (Ij HK.out n);clear HI HB HK aL;go_wp2_with fail;refine(HN.out _ aY.out aZ.out).mono ?_;rintro e w2 ⟨rfl,aM,a8,ba⟩;have J:=bm aM;have I:=bm a8;have aa:=bm (kN.trans a7.out ba (.inl rfl));have aL:=tf aM.1;have bb:=jA.lt aM;clear aM a8 ba aY aZ a7 aW HN;by_cases ad:b=48
 ·subst ad;have h:=HH.out;clear HH;simp(config:={decide:=true}) only[if_true,if_false]at h;obtain⟨rfl,rfl,rfl,rfl,rfl⟩:0=r1∧true=r2∧t1=r3∧s1=r4∧a1=r5:=by simpa using h
  clear h IH;go_wp2;go_ret2;exact⟨rfl,J.out,I.out,aa.out⟩
 ·have ae:(b==48)=false:=pS ad;by_cases af:b=49
  ·subst af;have h:=HH.out;clear HH;simp(config:={decide:=true}) only[if_true,if_false]at h;clear ad ae;obtain⟨rfl,rfl,rfl,rfl,rfl⟩:al=r1∧true=r2∧t1=r3∧s1=r4∧a1=r5:=by simpa using h
   clear h IH;go_wp2;go_ret2;exact⟨rfl,J.out,I.out,aa.out⟩
  ·have ag:(b==49)=false:=pS af;by_cases ah:b=97
   ·subst ah;have h:=HH.out;clear HH;simp(config:={decide:=true}) only[if_true,if_false]at h;clear ad af ae ag;have o:=Option.bind_eq_some_iff.mp h;clear h;obtain⟨x,hx,h⟩:=o;obtain⟨rfl,rfl,rfl,rfl,rfl⟩:x=r1∧decide (0<t1)=r2∧t1=r3∧s1=r4∧a1=r5:=by simpa using h
    have HT:=bm (fun W hg=>jJ.calls 142 #[.pointer (some ⟨w2.heap.size,0,none⟩)] (Hof.enters Tryz.func142 (by kernel_rfl) rfl) (fD.p 0) t1 x W hg hx);clear h hx IH;have ai:=bm (jA.alloc J.out (.cells #[.int .i64 0] 3));have ab:=bm (I.out.alloc I.out.size (.cells #[.int .i64 0] 3));have aj:=bm (Gs aa.out (.cells #[.int .i64 0] 3));clear J I aa;go_wp2_with fail;go_region_held3 (fun w'=>w'.cell? ⟨g,0,none⟩=some (.int .i64 t1)∧w'.cell? ⟨w2.heap.size,0,none⟩=some (.int .i64 0)∧hJ (jA w0 w' g t1 s1 a1)∧hJ (Below w0.heap.size w0 w')∧hJ (kN w w' g none)) (((try go_split_ands);(try(refine And.intro ?_ (And.intro ?_ (And.intro ?_ (And.intro ?_ ?_)))));all_goals(first|assumption|exact⟨jA.drew ai.out⟩|exact⟨below_drew ab.out⟩|exact⟨Dt aj.out⟩|exact⟨jA.below (hJ.out (by assumption)) j⟩|exact⟨Ah (below_drew ab.out) j⟩|exact⟨Ah (hJ.out (by assumption)) j⟩|exact⟨kN.trans (hJ.out (by assumption)) (kN.of_below j g none) (.inl rfl)⟩|exact(j.cell (World.block_lt_of_cell? _ _ (by assumption))).trans (by assumption)|go_keep|(simp[*];done)|(trace_state;fail)))) ((go_at_call 114;refine(HT.out _ (fD.gives _ w2.heap.size 0 (by first|(simp;done)|exact World.block_lt_of_cell? _ ⟨w2.heap.size,0,none⟩ (by assumption)) (by first|assumption|(simp;done)))).mono ?_;rintro e wz ⟨rfl,j⟩));have hh:=(by assumption:wz.cell? ⟨g,0,none⟩=some (.int .i64 t1)∧wz.cell? ⟨w2.heap.size,0,none⟩=some (.int .i64 0)∧hJ (jA w0 wz g t1 s1 a1)∧hJ (Below w0.heap.size w0 wz)∧hJ (kN w wz g none));obtain⟨_,_,aw,ax,ay⟩:=hh;clear ai ab aj j;go_wp2;go_ret2;exact⟨rfl,aw.out,ax.out,ay.out⟩
   ·have an:(b==97)=false:=pS ah;by_cases ak:b=98
    ·subst ak;have h:=HH.out;clear HH;simp(config:={decide:=true}) only[if_true,if_false]at h;clear ad af ah ae ag an;have o:=Option.bind_eq_some_iff.mp h;clear h;obtain⟨x,hx,h⟩:=o;obtain⟨rfl,rfl,rfl,rfl,rfl⟩:x=r1∧decide (1<t1)=r2∧t1=r3∧s1=r4∧a1=r5:=by simpa using h
     have HT:=bm (fun W hg=>jJ.calls 142 #[.pointer (some ⟨w2.heap.size,0,none⟩)] (Hof.enters Tryz.func142 (by kernel_rfl) rfl) (fD.p 1) t1 x W hg hx);clear h hx IH;have ai:=bm (jA.alloc J.out (.cells #[.int .i64 1] 3));have ab:=bm (I.out.alloc I.out.size (.cells #[.int .i64 1] 3));have aj:=bm (Gs aa.out (.cells #[.int .i64 1] 3));clear J I aa;go_wp2_with fail;go_region_held3 (fun w'=>w'.cell? ⟨g,0,none⟩=some (.int .i64 t1)∧w'.cell? ⟨w2.heap.size,0,none⟩=some (.int .i64 1)∧hJ (jA w0 w' g t1 s1 a1)∧hJ (Below w0.heap.size w0 w')∧hJ (kN w w' g none)) (((try go_split_ands);(try(refine And.intro ?_ (And.intro ?_ (And.intro ?_ (And.intro ?_ ?_)))));all_goals(first|assumption|exact⟨jA.drew ai.out⟩|exact⟨below_drew ab.out⟩|exact⟨Dt aj.out⟩|exact⟨jA.below (hJ.out (by assumption)) j⟩|exact⟨Ah (below_drew ab.out) j⟩|exact⟨Ah (hJ.out (by assumption)) j⟩|exact⟨kN.trans (hJ.out (by assumption)) (kN.of_below j g none) (.inl rfl)⟩|exact(j.cell (World.block_lt_of_cell? _ _ (by assumption))).trans (by assumption)|go_keep|(simp[*];done)|(trace_state;fail)))) ((go_at_call 114;refine(HT.out _ (fD.gives _ w2.heap.size 1 (by first|(simp;done)|exact World.block_lt_of_cell? _ ⟨w2.heap.size,0,none⟩ (by assumption)) (by first|assumption|(simp;done)))).mono ?_;rintro e wz ⟨rfl,j⟩));have hh:=(by assumption:wz.cell? ⟨g,0,none⟩=some (.int .i64 t1)∧wz.cell? ⟨w2.heap.size,0,none⟩=some (.int .i64 1)∧hJ (jA w0 wz g t1 s1 a1)∧hJ (Below w0.heap.size w0 wz)∧hJ (kN w wz g none));obtain⟨_,_,aw,ax,ay⟩:=hh;clear ai ab aj j;go_wp2;go_ret2;exact⟨rfl,aw.out,ax.out,ay.out⟩
    ·have az:(b==98)=false:=pS ak;by_cases ao:b=99
     ·subst ao;have h:=HH.out;clear HH;simp(config:={decide:=true}) only[if_true,if_false]at h;clear ad af ah ak ae ag an az;have o:=Option.bind_eq_some_iff.mp h;clear h;obtain⟨x,hx,h⟩:=o;obtain⟨rfl,rfl,rfl,rfl,rfl⟩:x=r1∧decide (2<t1)=r2∧t1=r3∧s1=r4∧a1=r5:=by simpa using h
      have HT:=bm (fun W hg=>jJ.calls 142 #[.pointer (some ⟨w2.heap.size,0,none⟩)] (Hof.enters Tryz.func142 (by kernel_rfl) rfl) (fD.p 2) t1 x W hg hx);clear h hx IH;have ai:=bm (jA.alloc J.out (.cells #[.int .i64 2] 3));have ab:=bm (I.out.alloc I.out.size (.cells #[.int .i64 2] 3));have aj:=bm (Gs aa.out (.cells #[.int .i64 2] 3));clear J I aa;go_wp2_with fail;go_region_held3 (fun w'=>w'.cell? ⟨g,0,none⟩=some (.int .i64 t1)∧w'.cell? ⟨w2.heap.size,0,none⟩=some (.int .i64 2)∧hJ (jA w0 w' g t1 s1 a1)∧hJ (Below w0.heap.size w0 w')∧hJ (kN w w' g none)) (((try go_split_ands);(try(refine And.intro ?_ (And.intro ?_ (And.intro ?_ (And.intro ?_ ?_)))));all_goals(first|assumption|exact⟨jA.drew ai.out⟩|exact⟨below_drew ab.out⟩|exact⟨Dt aj.out⟩|exact⟨jA.below (hJ.out (by assumption)) j⟩|exact⟨Ah (below_drew ab.out) j⟩|exact⟨Ah (hJ.out (by assumption)) j⟩|exact⟨kN.trans (hJ.out (by assumption)) (kN.of_below j g none) (.inl rfl)⟩|exact(j.cell (World.block_lt_of_cell? _ _ (by assumption))).trans (by assumption)|go_keep|(simp[*];done)|(trace_state;fail)))) ((go_at_call 114;refine(HT.out _ (fD.gives _ w2.heap.size 2 (by first|(simp;done)|exact World.block_lt_of_cell? _ ⟨w2.heap.size,0,none⟩ (by assumption)) (by first|assumption|(simp;done)))).mono ?_;rintro e wz ⟨rfl,j⟩));have hh:=(by assumption:wz.cell? ⟨g,0,none⟩=some (.int .i64 t1)∧wz.cell? ⟨w2.heap.size,0,none⟩=some (.int .i64 2)∧hJ (jA w0 wz g t1 s1 a1)∧hJ (Below w0.heap.size w0 wz)∧hJ (kN w wz g none));obtain⟨_,_,aw,ax,ay⟩:=hh;clear ai ab aj j;go_wp2;go_ret2;exact⟨rfl,aw.out,ax.out,ay.out⟩
     ·have aP:(b==99)=false:=pS ao;by_cases aA:b=33
      ·subst aA;have h:=HH.out;clear HH;simp(config:={decide:=true}) only[if_true,if_false]at h;clear ad af ah ak ao ae ag an az aP;have o:=Option.bind_eq_some_iff.mp h;clear h;obtain⟨⟨c1,c2,c3,c4,c5⟩,hc,h⟩:=o;obtain⟨rfl,rfl,rfl,rfl,rfl⟩:Go.bits .xor .i64 al c1=r1∧c2=r2∧c3=r3∧c4=r4∧c5=r5:=by simpa using h
       have HC:=bm (fun W hI hB=>IH.out g t1 s1 a1 c1 c2 c3 c4 c5 w0 W hI hB hc);clear h hc IH;go_wp2_with fail;refine(HC.out _ J.out I.out).mono ?_;rintro e _ ⟨rfl,aB,aC,aD⟩;have aE:=bm aB;have aF:=bm aC;have aG:=bm (kN.trans aa.out aD (.inl rfl));clear aB aC aD aL bb;go_wp2;go_ret2;exact⟨rfl,aE.out,aF.out,aG.out⟩
      ·have bc:(b==33)=false:=pS aA;by_cases aN:b=40
       ·subst aN;have h:=HH.out;clear HH;simp(config:={decide:=true}) only[if_true,if_false]at h;clear ad af ah ak ao aA ae ag an az aP bc;have o:=Option.bind_eq_some_iff.mp h;clear h;obtain⟨⟨c1,c2,c3,c4,c5⟩,hc,h⟩:=o;have HC:=bm (fun W hI hB=>IH.out g t1 s1 a1 c1 c2 c3 c4 c5 w0 W hI hB hc);have HH:=bm h;clear h hc;go_wp2_with fail;refine(HC.out _ J.out I.out).mono ?_;rintro e _ ⟨rfl,aB,aC,aD⟩;have aE:=bm aB;have aF:=bm aC;have aG:=bm (kN.trans aa.out aD (.inl rfl));clear aB aC aD aL bb J I aa HC;obtain⟨h⟩:=HH;cases c2 with
        |false=>
         simp(config:={decide:=true}) only[if_true,if_false]at h;obtain⟨rfl,rfl,rfl,rfl,rfl⟩:0=r1∧false=r2∧c3=r3∧c4=r4∧c5=r5:=by simpa using h
         clear h IH;go_wp2;go_ret2;exact⟨rfl,aE.out,aF.out,aG.out⟩
        |true=>
         simp(config:={decide:=true}) only[if_true,if_false]at h;have o:=Option.bind_eq_some_iff.mp h;clear h;obtain⟨⟨sg,t4,s4,a4⟩,bd,h⟩:=o;have o:=Option.bind_eq_some_iff.mp h;clear h;obtain⟨⟨d1,d2,d3,d4,d5⟩,hd,h⟩:=o;have HN:=bm (fun W hI hB=>jx.calls g c3 c4 c5 sg t4 s4 a4 w0 W hI hB bd);have HD:=bm (fun W hI hB=>IH.out g t4 s4 a4 d1 d2 d3 d4 d5 w0 W hI hB hd);have HH:=bm h;clear h bd hd IH;go_wp2_with fail;refine(HN.out _ aE.out aF.out).mono ?_;rintro e _ ⟨rfl,bf,bg,bh⟩;have bj:=bm bf;have bk:=bm bg;have bl:=bm (kN.trans aG.out bh (.inl rfl));clear bf bg bh aE aF aG HN;go_wp2_with fail;refine(HD.out _ bj.out bk.out).mono ?_;rintro e _ ⟨rfl,bn,bo,bp⟩;have aR:=bm bn;have aS:=bm bo;have aT:=bm (kN.trans bl.out bp (.inl rfl));clear bn bo bp bj bk bl HD;obtain⟨h⟩:=HH;cases d2 with
         |false=>
          simp(config:={decide:=true}) only[if_true,if_false]at h;obtain⟨rfl,rfl,rfl,rfl,rfl⟩:0=r1∧false=r2∧d3=r3∧d4=r4∧d5=r5:=by simpa using h
          clear h;go_wp2;go_ret2;exact⟨rfl,aR.out,aS.out,aT.out⟩
         |true=>
          simp(config:={decide:=true}) only[if_true,if_false]at h;have o:=Option.bind_eq_some_iff.mp h;clear h;obtain⟨⟨e1,t6,s6,a6⟩,he,h⟩:=o;have HE:=bm (fun W hI hB=>jx.calls g d3 d4 d5 e1 t6 s6 a6 w0 W hI hB he);have HH:=bm h;clear h he;go_wp2_with fail;refine(HE.out _ aR.out aS.out).mono ?_;rintro e _ ⟨rfl,bq,br,bs⟩;have aH:=bm bq;have aI:=bm br;have aJ:=bm (kN.trans aT.out bs (.inl rfl));clear bq br bs aR aS aT HE;obtain⟨h⟩:=HH;(try simp only at h);by_cases aK:e1=41
          ·subst aK;rw[if_pos rfl]at h;by_cases aq:sg=38
           ·subst aq;simp(config:={decide:=true}) only[if_true,if_false]at h;obtain⟨rfl,rfl,rfl,rfl,rfl⟩:Go.bits .and .i64 c1 d1=r1∧true=r2∧t6=r3∧s6=r4∧a6=r5:=by simpa using h
            clear h;go_wp2;go_ret2;exact⟨rfl,aH.out,aI.out,aJ.out⟩
           ·rw[if_neg aq]at h;have aQ:(sg==38)=false:=pS aq;by_cases z124:sg=124
            ·subst z124;simp(config:={decide:=true}) only[if_true,if_false]at h;obtain⟨rfl,rfl,rfl,rfl,rfl⟩:Go.bits .or .i64 c1 d1=r1∧true=r2∧t6=r3∧s6=r4∧a6=r5:=by simpa using h
             clear h aq aQ;go_wp2;go_ret2;exact⟨rfl,aH.out,aI.out,aJ.out⟩
            ·rw[if_neg z124]at h;have aU:(sg==124)=false:=pS z124;by_cases aO:sg=62
             ·subst aO;simp(config:={decide:=true}) only[if_true,if_false]at h;obtain⟨rfl,rfl,rfl,rfl,rfl⟩:Go.bits .or .i64 (Go.bits .xor .i64 al c1) d1=r1∧true=r2∧t6=r3∧s6=r4∧a6=r5:=by simpa using h
              clear h aq aQ z124 aU;go_wp2;go_ret2;exact⟨rfl,aH.out,aI.out,aJ.out⟩
             ·rw[if_neg aO]at h;have bu:(sg==62)=false:=pS aO;obtain⟨rfl,rfl,rfl,rfl,rfl⟩:0=r1∧false=r2∧t6=r3∧s6=r4∧a6=r5:=by simpa using h
              clear h aq z124 aO;go_wp2;go_ret2;exact⟨rfl,aH.out,aI.out,aJ.out⟩
          ·rw[if_neg aK]at h;obtain⟨rfl,rfl,rfl,rfl,rfl⟩:0=r1∧false=r2∧t6=r3∧s6=r4∧a6=r5:=by simpa using h
           have bw:(e1 !=41)=true:=pR aK;have bx:(e1==41)=false:=pS aK;clear h aK;go_wp2;go_ret2;exact⟨rfl,aH.out,aI.out,aJ.out⟩
       ·have bA:(b==40)=false:=pS aN;have h:=HH.out;clear HH;(try simp only at h);rw[if_neg ad,if_neg af,if_neg ah,if_neg ak,if_neg ao,if_neg aA,if_neg aN]at h;obtain⟨rfl,rfl,rfl,rfl,rfl⟩:0=r1∧false=r2∧t1=r3∧s1=r4∧a1=r5:=by simpa using h
        clear h IH ad af ah ak ao aA aN;go_wp2;go_ret2;exact⟨rfl,J.out,I.out,aa.out⟩
end Go.Proofs.YtigeaokfhnlkcaaGreatDoor.P
