import Derived.Test.YtigeaokfhnlkcaaGreatDoorPx0
import Derived.Test.YtigeaokfhnlkcaaGreatDoorPx13
import Derived.Test.YtigeaokfhnlkcaaGreatDoorPx14
import Derived.Test.YtigeaokfhnlkcaaGreatDoorPx15
import Derived.Test.YtigeaokfhnlkcaaGreatDoorPx16
namespace Go.Proofs.YtigeaokfhnlkcaaGreatDoor.P
open Go.RowKit YtigeaokfhnlkcaaGreatDoorW PrintWords PrintLast PrintMore
attribute [local go_sem] max2_int min2_int max_two min_two max_three min_three max_four min_four
set_option linter.unusedVariables false
set_option linter.unusedSimpArgs false
set_option maxHeartbeats 8000000
set_option maxRecDepth 100000
def nB.f (k:Nat) (a0:Int) (a1:BA):Option (Int×Bool):=(fD.f k a0 a1 0).bind fun c=>if c.2.1=true then(if c.2.2.2.2=(a1.size:Int)then some (c.1,true)else some (-1,false))else some (-1,false)
theorem nB.mono:∀a0 a1 k,LeO (nB.f k a0 a1) (nB.f (k+1) a0 a1):=by
 intro a0 a1 k;unfold nB.f;exact LeO.bind (fD.mono _ _ _ _) (fun _=>LeO.refl _)
instance nB.mo {k a0 a1}:lS (nB.f k a0 a1) (nB.f (k+1) a0 a1):=⟨nB.mono a0 a1 k⟩
theorem nB.calls (k:Nat) (a0:Int) (a1:BA) (r1:Int) (r2:Bool) (w:World) (h:nB.f k a0 a1=some (r1,r2)):
  Calls Tryz.prog 106 #[.int .i64 a0,.string a1] w fun e w'=>e= .returned (.tuple #[.int .i64 r1,.bool r2])∧Below w.heap.size w w':=by
 have aC:=bm (Below.refl w.heap.size w);unfold nB.f at h;have ck:=Option.bind_eq_some_iff.mp h;clear h;obtain⟨⟨c1,c2,c3,c4,c5⟩,hc,h⟩:=ck;have HC:=bm (fun W g hI hB=>fD.calls k g a0 a1 0 c1 c2 c3 c4 c5 w W hI hB hc);have HH:=bm h;clear h hc;have hu:=Tryz.underlying130;go_enter Tryz.func106,Tryz.ntmps106;go_wp2_with (first|(refine re 12 #[.int .i64 a0,.string a1,.int .i64 0] 130 ?_;intro gb hg _ aU hb;have bw:=bW aC hb;have bx:=bm (aU);have bA:=bG aC hg;clear aC;have aC:=bw;have BK:=bx;have GW:=bA;clear bw bx bA;clear hb aU hg)|fail);refine(HC.out _ gb ⟨kS BK,GW.out⟩ (wZ aC)).mono ?_;rintro e _ ⟨rfl,bB,bD,cl⟩;have cI:=tR bB.1;have av:=bm bD;clear bB bD cl aC BK GW HC;obtain⟨h⟩:=HH;cases c2 with
 |false=>
  simp(config:={decide:=true}) only[if_true,if_false]at h;obtain⟨rfl,rfl⟩: -1=r1∧false=r2:=by simpa using h
  clear h;go_wp2;go_ret2;exact⟨rfl,av.out⟩
 |true=>
  simp(config:={decide:=true}) only[if_true]at h;by_cases he:c5=(a1.size:Int)
  ·rw[if_pos he]at h;obtain⟨rfl,rfl⟩:c1=r1∧true=r2:=by simpa using h
   have cm:(c5 !=(a1.size:Int))=false:=by simpa using he
   clear h;go_wp2;go_ret2;exact⟨rfl,av.out⟩
  ·rw[if_neg he]at h;obtain⟨rfl,rfl⟩: -1=r1∧false=r2:=by simpa using h
   have cm:(c5 !=(a1.size:Int))=true:=by simpa using he
   have cJ:(c5==(a1.size:Int))=false:=by simpa using he
   clear h;go_wp2;go_ret2;exact⟨rfl,av.out⟩
def kJ.f (k:Nat) (a0:Int) (a1:BA):Option (Int×Bool):=(jD.f a0).bind fun aq=>(if aq=true then(if(a1.size:Int)>120 then(some ((-1),false))else((nB.f k a0 a1).bind fun ae=>(some (ae.1,ae.2))))else(some ((-1),false)))
instance kJ.mo {k a0 a1}:lS (kJ.f k a0 a1) (kJ.f (k+1) a0 a1):=by unfold kJ.f;infer_instance
theorem kJ.calls (k:Nat) (a0:Int) (a1:BA) (r1:Int) (r2:Bool) (w:World) (h:kJ.f k a0 a1=some (r1,r2)):
  Calls Tryz.prog 73 #[.int .i64 a0,.string a1] w fun e w'=>e= .returned (.tuple #[.int .i64 r1,.bool r2])∧Below w.heap.size w w':=by
 have HB:=bm (Below.refl w.heap.size w);have H:=h;clear h;unfold kJ.f at H;obtain⟨aq,A3,H⟩:=bE H;try dsimp only at H
 by_cases c4:aq=true
 subst c4;rw[if_pos rfl]at H;rcases iT H with⟨c5,H⟩|⟨c5,H⟩
 have aV:=pK c5;have bF:decide (120<a1.size)=true:=pK (by omega);clear c5;obtain⟨rfl,rfl⟩:=s2 H
 rotate_left
 have aV:=pF c5;have bF:decide (120<a1.size)=false:=pF (by omega);clear c5;obtain⟨⟨bH,bJ⟩,A6,H⟩:=bE H;try dsimp only at H
 obtain⟨rfl,rfl⟩:=s2 H
 rotate_left
 replace c4:=pD c4;subst c4;rw[if_neg pV]at H;obtain⟨rfl,rfl⟩:=s2 H
 rotate_left
 all_goals(go_enter Tryz.func73,Tryz.ntmps73;go_wp2_with (first|(refine gB (some 7) Tryz.func70 #[.int .i64 a0] rfl ?_;(refine(jD.calls a0 true _ A3.out).mono ?_);rintro e w' ⟨rfl,⟨nd,rfl⟩⟩;refine⟨_,rfl,?_⟩)|(refine gB (some 16) Tryz.func106 #[.int .i64 a0,.string a1] rfl ?_;(refine(nB.calls k a0 a1 bH bJ _ A6.out).mono ?_);rintro e _ ⟨rfl,hb⟩;refine⟨_,rfl,?_⟩;replace HB:=bW HB hb;clear hb)|(refine gB (some 7) Tryz.func70 #[.int .i64 a0] rfl ?_;(refine(jD.calls a0 false _ A3.out).mono ?_);rintro e w' ⟨rfl,⟨nd,rfl⟩⟩;refine⟨_,rfl,?_⟩)))
 iterate 3(go_ret2;exact⟨eF,wZ HB⟩)
def jr.l0:Nat→Int→Int→LI→Int→Int→Option (Int)
 |0,_,_,_,_,_=>none
 |k+1,x1,x5,x8,x9,x10=>if x10<x9 then(if 0≤x10 then(if x10<(x8.length:Int)then(if(Go.bits .and .i64 (shr .i64 x1 x10) 1)=1 then(jr.l0 k x1 (mn x5 (rd x8 x10)) x8 x9 (wrap64 (x10+1)))else(jr.l0 k x1 x5 x8 x9 (wrap64 (x10+1))))else(none))else(none))else(some x5)
def jr.f (k:Nat) (l0:LI) (a1:Int):Option (Int):=jr.l0 k a1 10 l0 (l0.length:Int) 0
theorem jr.hZ:∀k,(∀y0 y1 y2 y3 y4,lS (jr.l0 k y0 y1 y2 y3 y4) (jr.l0 (k+1) y0 y1 y2 y3 y4))
 |0=>fun _ _ _ _ _=> .z (by simp only[jr.l0])
 |k+1=>by
  have i0:=jr.hZ k;exact fun _ _ _ _ _=>by unfold jr.l0;infer_instance
instance jr.mo {k a0 a1}:lS (jr.f k a0 a1) (jr.f (k+1) a0 a1):=by have i0:=jr.hZ k;unfold jr.f;infer_instance
theorem jr.mono:∀a0 a1 k,LeO (jr.f k a0 a1) (jr.f (k+1) a0 a1):=fun _ _ _=>jr.mo.h
theorem jr.calls (k:Nat) (A0:Option Addr) (c0:Nat) (l0:LI) (a1:Int) (r:Int) (w:World) (bO:Kd.C KI w A0 l0.length l0) (bT:l0.length≤c0) (h:jr.f k l0 a1=some r):
  Calls Tryz.prog 122 #[.slice A0 l0.length c0,.int .i64 a1] w fun e w'=>e= .returned (.int .i64 r)∧Below w.heap.size w w':=by
 have bV:=bm bO;have cK:=bm bT;clear bO bT;have HB:=bm (Below.refl w.heap.size w);have H:=h;clear h;unfold jr.f at H;have H':=bm H;clear H;go_enter Tryz.func122,Tryz.ntmps122;go_wp2;go_loopg [5,10] k (fun kq v5 v10 w'=>∃(af:Int) (o:Int),v5= .int .i64 af∧v10= .int .i64 o∧hJ (jr.l0 kq a1 af l0 (l0.length:Int) o=some r)∧hJ (kq≤k)∧hJ (Below w.heap.size w w'))
 case atStart=>exact⟨(10),(0),eA,eA,H',⟨Nat.le_refl _⟩,⟨wZ HB⟩⟩
 case round=>
  clear H';obtain⟨af,o,rfl,rfl,HA,aN,HB⟩:=hrel;cases gk with
  |zero=>exact absurd HA.out (by simp[jr.l0])
  |succ k1=>
   have H:=HA.out;clear HA;simp only[jr.l0]at H;rcases pP H with⟨bZ,H⟩|⟨bZ,H⟩
   ·obtain⟨cD,H⟩:=pN H;obtain⟨aV,H⟩:=pN H;have ak:=pM (ko:0≤o);obtain⟨aD,az⟩:∃j_:Int,(shr .i64 a1 o)=j_:=⟨_,rfl⟩;first|rw[az]at H|simp only[az]at H
    have cn:(a1/2^min o.toNat 64)=aD:=az;have cp:o≤64→(a1/2^o.toNat)=aD:=shr_small az;rcases iT H with⟨c8,H⟩|⟨c8,H⟩
    ·obtain⟨b0,b1⟩:=pf c8;clear c8;obtain⟨b4,aA⟩:∃j_:Int,(mn af (rd l0 o))=j_:=⟨_,rfl⟩;first|rw[aA]at H|simp only[aA]at H
     have cq:(if(rd l0 o)<af then(rd l0 o)else af)=b4:=aA;have H':=bm H;clear H;have ag:0≤(o:Int):=ko;have ah:o<(l0.length:Int):=ko;obtain⟨a6,aG,I⟩:=Kd.at_int bV.out o ag ah;cases aG;replace I:=pE HB I;replace ag:=pM ag;replace ah:=pM ah;go_wp2;go_roundg k1
     case measure=>have:=aN.out;omega
     case rel=>exact⟨(b4),(wrap64 (o+1)),(by first|rfl|(simp;done)|(simp only[←aA]<;>(first|rfl|simp))|(simp[*];done)),eA,H',⟨by have:=aN.out;omega⟩,⟨wZ HB⟩⟩
    ·obtain⟨b0,b1⟩:=pe c8;have H':=bm H;clear H;have ag:0≤(o:Int):=ko;have ah:o<(l0.length:Int):=ko;obtain⟨a6,aG,I⟩:=Kd.at_int bV.out o ag ah;cases aG;replace I:=pE HB I;replace ag:=pM ag;replace ah:=pM ah;go_wp2;go_roundg k1
     case measure=>have:=aN.out;omega
     case rel=>exact⟨(af),(wrap64 (o+1)),eA,eA,H',⟨by have:=aN.out;omega⟩,⟨wZ HB⟩⟩
   ·obtain rfl:=pd H;go_wp2;go_ret;exact⟨eF,wZ HB⟩
def jw.p (l1:LI) (least x:Int):Option Bool:=if 0≤x then(if x<(l1.length:Int)then some (decide (rd l1 x=least))else none)else none
def jw.f (k:Nat) (a0:Int) (l1:LI) (a2:Int):Option Int:=(jr.f k l1 a2).bind fun s=>(jJ.f (jw.p l1 s) a0).bind fun t=>some (Go.bits .and .i64 a2 t)
theorem jw.mono:∀a0 a1 a2 k,LeO (jw.f k a0 a1 a2) (jw.f (k+1) a0 a1 a2):=by
 intro a0 a1 a2 k;unfold jw.f;exact LeO.bind (jr.mono _ _ _) (fun b=>LeO.refl _)
instance jw.mo {k a0 a1 a2}:lS (jw.f k a0 a1 a2) (jw.f (k+1) a0 a1 a2):=⟨jw.mono a0 a1 a2 k⟩
theorem jw.gives (w:World) (B C:Nat) (A1:Option Addr) (c1:Nat) (l1:LI) (s:Int) (ar:Kd.C KI w A1 l1.length l1) (hB:B<w.heap.size) (hC:C<w.heap.size)
  (hd:w.cell? ⟨B,0,none⟩=some (.slice A1 l1.length c1)) (he:w.cell? ⟨C,0,none⟩=some (.int .i64 s)):
  Hof.tQ 131 #[.pointer (some ⟨B,0,none⟩),.pointer (some ⟨C,0,none⟩)] (jw.p l1 s) w:=fun W x b hb hp=>by
 have hd':=(hb.cell (p:=⟨B,0,none⟩) hB).trans hd;have he':=(hb.cell (p:=⟨C,0,none⟩) hC).trans he;have b5:=bm (Below.refl W.heap.size W);have HR:=bm (Kd.C_below ar hb);clear hd he hb ar hB hC;unfold jw.p at hp;by_cases h0:0≤x
 ·rw[if_pos h0]at hp;by_cases h1:x<(l1.length:Int)
  ·rw[if_pos h1]at hp;obtain rfl:=pd hp;obtain⟨ad,e,hx⟩:=Kd.at_int HR.out x h0 h1;cases e;clear hp;have p0:=pM h0;have p1:=pM h1;have cL:decide (0≤x)=true:=pK h0;have cM:decide (x<(l1.length:Int))=true:=pK h1;clear h0 h1;by_cases hg:rd l1 x=s
   ·have cr:(rd l1 x==s)=true:=pT hg;have a7:decide (rd l1 x=s)=true:=pK hg;clear hg;go_enter Tryz.func131,Tryz.ntmps131;go_wp2;repeat(go_quiet (fail);try go_wp2)
    go_ret;exact⟨by rw[a7];rfl,wZ b5⟩
   ·have cr:(rd l1 x==s)=false:=pS hg;have a7:decide (rd l1 x=s)=false:=pF hg;clear hg;go_enter Tryz.func131,Tryz.ntmps131;go_wp2;repeat(go_quiet (fail);try go_wp2)
    go_ret;exact⟨by rw[a7];rfl,wZ b5⟩
  ·rw[if_neg h1]at hp;cases hp
 ·rw[if_neg h0]at hp;cases hp
theorem jw.calls (k:Nat) (a0:Int) (A1:Option Addr) (c1:Nat) (l1:LI) (a2:Int) (r:Int) (w:World) (ar:Kd.C KI w A1 l1.length l1) (aH:l1.length≤c1) (h:jw.f k a0 l1 a2=some r):
  Calls Tryz.prog 107 #[.int .i64 a0,.slice A1 l1.length c1,.int .i64 a2] w fun e w'=>e= .returned (.int .i64 r)∧Below w.heap.size w w':=by
 have HR:=bm ar;have a8:=bm aH;have HB:=bm (Below.refl w.heap.size w);unfold jw.f at h;clear ar aH;obtain⟨s,hs,h⟩:=Option.bind_eq_some_iff.mp h;obtain⟨t,ht,h⟩:=Option.bind_eq_some_iff.mp h;obtain rfl:=pd h;have HS:=bm (fun W hR=>jr.calls k A1 c1 l1 a2 s W hR a8.out hs);have HT:=bm (fun C W hg=>jJ.calls 131 #[.pointer (some ⟨w.heap.size,0,none⟩),.pointer (some ⟨C,0,none⟩)] (Hof.enters Tryz.func131 (by kernel_rfl) rfl) (jw.p l1 s) a0 t W hg ht);clear h hs ht;have HW:=bm (zK HB.out (.cells #[.slice A1 l1.length c1] 23));go_enter Tryz.func107,Tryz.ntmps107;go_wp2_with fail;refine(HS.out _ (Kd.C_below HR.out HW.out)).mono ?_;rintro e w2 ⟨rfl,aQ⟩;have ct:w2.cell? ⟨w.heap.size,0,none⟩=some (.slice A1 l1.length c1):=(aQ.cell (p:=⟨w.heap.size,0,none⟩) (by simp)).trans (by simp);have b6:hJ (w.heap.size<w2.heap.size):=⟨Nat.lt_of_lt_of_le (by simp) aQ.size⟩;have cu:=bm (below_then HW.out HW.out.size aQ);clear aQ;have av:=fun(u:Value)=>bm (zK cu.out (.cells #[u] 3))
 go_wp2_with fail;refine(HT.out w2.heap.size _ (jw.gives _ w.heap.size w2.heap.size A1 c1 l1 s (Kd.C_below HR.out (av _).out) (by have:=b6.out;simp;omega) (by simp) ?cx (by simp))).mono ?_
 case cx=>have:=b6.out;exact(World.cell?_alloc_past _ _ _ this).trans ct
 rintro e _ ⟨rfl,cv⟩;go_wp2;go_ret;exact⟨rfl,below_then (av _).out (av _).out.size cv⟩
mutual
def gY.j0:Nat→LI→Int→Option LI
 |0,_,_=>none
 |k+1,x1,x9=>gY.l0 k x9 (([]:LI)) x1 (x1.length:Int) 0
def gY.l0:Nat→Int→LI→LI→Int→Int→Option LI
 |0,_,_,_,_,_=>none
 |k+1,x9,x10,yY,GJ,Ak=>if Ak<GJ then(if 0≤Ak then(if Ak<(yY.length:Int)then(if(Go.bits .and .i64 (shr .i64 x9 Ak) 1)=0 then(if x10.length<17592186044416 then(gY.l0 k x9 (x10++ [wrap64 ((rd yY Ak)+10)]) yY GJ (wrap64 (Ak+1)))else(none))else(if x10.length<17592186044416 then(gY.l0 k x9 (x10++ [rd yY Ak]) yY GJ (wrap64 (Ak+1)))else(none)))else(none))else(none))else((jE.f k x10).bind fun aI=>(some aI))
end
def gY.f (k:Nat) (a0:Int) (l1:LI) (a2:Int) (a3:Int):Option LI:=if a2=0 then((jw.f k a0 l1 a3).bind fun al=>(gY.j0 k l1 al))else(gY.j0 k l1 a3)
theorem gY.hZ:∀k,(∀y0 y1,lS (gY.j0 k y0 y1) (gY.j0 (k+1) y0 y1))∧(∀y0 y1 y2 y3 y4,lS (gY.l0 k y0 y1 y2 y3 y4) (gY.l0 (k+1) y0 y1 y2 y3 y4))
 |0=>⟨fun _ _=> .z (by simp only[gY.j0]),fun _ _ _ _ _=> .z (by simp only[gY.l0])⟩
 |k+1=>by
  have⟨i0,i1⟩:=gY.hZ k;exact⟨fun _ _=>by unfold gY.j0;infer_instance,fun _ _ _ _ _=>by unfold gY.l0;infer_instance⟩
instance gY.mo {k a0 a1 a2 a3}:lS (gY.f k a0 a1 a2 a3) (gY.f (k+1) a0 a1 a2 a3):=by have⟨i0,i1⟩:=gY.hZ k;unfold gY.f;infer_instance
theorem gY.calls (k:Nat) (a0:Int) (A1:Option Addr) (c1:Nat) (l1:LI) (a2:Int) (a3:Int) (r:LI) (w:World) (ar:Kd.C KI w A1 l1.length l1) (aH:l1.length≤c1) (h:gY.f k a0 l1 a2 a3=some r):
  Calls Tryz.prog 74 #[.int .i64 a0,.slice A1 l1.length c1,.int .i64 a2,.int .i64 a3] w fun e w'=>∃b7:Value,e= .returned (b7)∧Kd.R KI 3 w' w.heap.size (fun _=>True) b7 r∧Below w.heap.size w w':=by
 have ba:=bm ar;have a8:=bm aH;clear ar aH;have HB:=bm (Below.refl w.heap.size w);have H:=h;clear h;unfold gY.f at H;have bb:=bm H;clear H;go_enter Tryz.func74,Tryz.ntmps74;go_upto_if 15 with(fail)
 go_cut [9] (fun v9 wc=>∃(kq:Nat) (ab:Int),v9= .int .i64 ab∧hJ (gY.j0 kq l1 ab=some r)∧hJ (kq≤k)∧hJ (Below w.heap.size w wc))
 case first=>
  have H:=bb.out;clear bb;rcases iT H with⟨c6,H⟩|⟨c6,H⟩
  ·obtain⟨ak,b8⟩:=pf c6;clear c6;(first|rw[ak]|(simp only[i64_w,i32_w];rw[ak])|skip);obtain⟨al,A7,H⟩:=bE H;try dsimp only at H
   have H':=bm H;clear H;go_wp2_with (first|(refine gB (some 19) Tryz.func107 #[.int .i64 a0,.slice A1 l1.length c1,.int .i64 a3] rfl ?_;(refine(jw.calls k a0 _ _ l1 a3 al _ ?_ ?_ A7.out).mono ?_);exact cY ba HB;exact a8.out;rintro e _ ⟨rfl,hb⟩;refine⟨_,rfl,?_⟩;replace HB:=bW HB hb;clear hb));go_meet
   case rel=>exact⟨_,(al),eA,H',⟨by first|omega|exact Nat.le_refl _⟩,⟨wZ HB⟩⟩
  ·obtain⟨ak,b8⟩:=pe c6;(first|rw[ak]|(simp only[i64_w,i32_w];rw[ak])|skip);have H':=bm H;clear H;go_wp2;go_meet
   case rel=>exact⟨_,(a3),eA,H',⟨by first|omega|exact Nat.le_refl _⟩,⟨wZ HB⟩⟩
 case rest=>
  clear bb;obtain⟨kq,ab,rfl,HA,aR,HB⟩:=hcut;cases kq with
  |zero=>exact absurd HA.out (by simp[gY.j0])
  |succ uR=>
   have H:=HA.out;clear HA;simp only[gY.j0]at H;obtain⟨aW,aw⟩:∃y_:LI,y_=(([]:LI)):=⟨_,rfl⟩;replace H:(gY.l0 uR ab aW l1 (l1.length:Int) 0)=some r:=by first|(rw[aw];exact H)|exact H
   have aJ:=bm aw;clear aw;have H':=bm H;clear H;go_wp2_with (first|((with_reducible refine gate_dst (N:=20) rfl ?_);refine Kd.R_lit KI _ 3 ?hg (N:=20) ?hd (xs:=([]:LI)) (inner:=[]) (ok:=fun _=>True) (okp:=fun _=>True) ?hr ?hp (fun _ hk=>hk) trivial (Below.refl _ _) (Nat.le_refl _) (by simp) ?_;(case hd=>rfl);(case hg=>rfl);(case hr=>first|(go_simp;done)|(go_simp;rfl));(case hp=>exact(Reps.none _ _));intro _ _ au hb cw bc;clear cw bc;(first|rw[←aJ.out]at au|(simp only[Int.reduceToNat]at au;rw[←aJ.out]at au));have bd:=rL au HB;replace HB:=bW HB hb;clear hb au));go_loopg [10,23] uR (fun kq v10 cy w'=>∃(aa:LI) (j:Int),cy= .int .i64 j∧hJ (gY.l0 kq ab aa l1 (l1.length:Int) j=some r)∧hJ (kq≤uR)∧hJ (Kd.R KI 3 w' w.heap.size (fun _=>True) v10 aa)∧hJ (Below w.heap.size w w'))
   case atStart=>exact⟨(aW),(0),eA,H',⟨Nat.le_refl _⟩,⟨rS bd⟩,⟨wZ HB⟩⟩
   case round=>
    clear H';obtain⟨aa,j,rfl,HA,aT,rF,HB⟩:=hrel;cases gk with
    |zero=>exact absurd HA.out (by simp[gY.l0])
    |succ k2=>
     have H:=HA.out;clear HA;simp only[gY.l0]at H;rcases pP H with⟨bf,H⟩|⟨bf,H⟩
     ·obtain⟨cz,H⟩:=pN H;obtain⟨cA,H⟩:=pN H;have cB:=pM (ko:0≤j);obtain⟨an,ao⟩:∃j_:Int,(shr .i64 ab j)=j_:=⟨_,rfl⟩;first|rw[ao]at H|simp only[ao]at H
      have ch:(ab/2^min j.toNat 64)=an:=ao;have cj:j≤64→(ab/2^j.toNat)=an:=shr_small ao;rcases iT H with⟨aE,H⟩|⟨aE,H⟩
      ·obtain⟨bg,bh⟩:=pf aE;clear aE;obtain⟨cb,H⟩:=iN H;have bj:=bm cb;clear cb;obtain⟨aY,ax⟩:∃y_:LI,y_=(aa++ [wrap64 ((rd l1 j)+10)]):=⟨_,rfl⟩;rw[←ax]at H
       have bk:=bm ax;clear ax;have H':=bm H;clear H;have ai:0≤(j:Int):=ko;have aj:j<(l1.length:Int):=ko;obtain⟨bl,aM,J⟩:=Kd.at_int ba.out j ai aj;cases aM;replace J:=pE HB J;replace ai:=pM ai;replace aj:=pM aj;go_wp2_with (first|((with_reducible refine gate_builtin (b:=.append) (xs:= #[.tmp 35,.tmp 37]) rfl ?_);at_builtin;refine Kd.R_append KI (w0:=w) w.heap.size rfl (.tmp 35) (.tmp 37) 23 3 (.int .i64 0) 8 rfl Tryz.underlying23 info3 rfl (by decide) (by omega) u10 aa (wrap64 ((rd l1 j)+10)) [.int .i64 (wrap64 ((rd l1 j)+10))] (fun _=>True) (fun _=>False) rfl rfl ?aP (fun _ hk=>hk.elim) ?aF ?aO ?aB ?aS ?aL ?_;(case aP=>exact rfl);(case aB=>exact(wZ HB));(case aF=>exact(fun _ _=>trivial));(case aO=>exact(rS rF));(case aS=>exact(below_size (wZ HB)));(case aL=>have:=bj.out;omega);intro _ _ ho hb hg bn;rw[←bk.out]at ho;replace HB:=bm (hb);have bo:=bm (ho);clear rF;clear ho hb hg bn));go_roundg k2
       case measure=>have:=aR.out;have:=aT.out;omega
       case rel=>exact⟨(aY),(wrap64 (j+1)),eA,H',⟨by have:=aR.out;have:=aT.out;omega⟩,⟨rS bo⟩,⟨wZ HB⟩⟩
      ·obtain⟨bg,bh⟩:=pe aE;obtain⟨cc,H⟩:=iN H;have bp:=bm cc;clear cc;obtain⟨aZ,ay⟩:∃y_:LI,y_=(aa++ [rd l1 j]):=⟨_,rfl⟩;rw[←ay]at H
       have bq:=bm ay;clear ay;have H':=bm H;clear H;have ai:0≤(j:Int):=ko;have aj:j<(l1.length:Int):=ko;obtain⟨bl,aM,J⟩:=Kd.at_int ba.out j ai aj;cases aM;replace J:=pE HB J;replace ai:=pM ai;replace aj:=pM aj;go_wp2_with (first|((with_reducible refine gate_builtin (b:=.append) (xs:= #[.tmp 35,.tmp 37]) rfl ?_);at_builtin;refine Kd.R_append KI (w0:=w) w.heap.size rfl (.tmp 35) (.tmp 37) 23 3 (.int .i64 0) 8 rfl Tryz.underlying23 info3 rfl (by decide) (by omega) u10 aa (rd l1 j) [.int .i64 (rd l1 j)] (fun _=>True) (fun _=>False) rfl rfl ?aP (fun _ hk=>hk.elim) ?aF ?aO ?aB ?aS ?aL ?_;(case aP=>exact rfl);(case aB=>exact(wZ HB));(case aF=>exact(fun _ _=>trivial));(case aO=>exact(rS rF));(case aS=>exact(below_size (wZ HB)));(case aL=>have:=bp.out;omega);intro _ _ ho hb hg bn;rw[←bq.out]at ho;replace HB:=bm (hb);have br:=bm (ho);clear rF;clear ho hb hg bn));go_roundg k2
       case measure=>have:=aR.out;have:=aT.out;omega
       case rel=>exact⟨(aZ),(wrap64 (j+1)),eA,H',⟨by have:=aR.out;have:=aT.out;omega⟩,⟨rS br⟩,⟨wZ HB⟩⟩
     ·obtain⟨aI,cC,H⟩:=bE H;try dsimp only at H
      obtain rfl:=pd H;obtain⟨cd,cf,cg⟩:=Kd.R_slice rF.out;subst cg;go_wp2_with (first|(refine gB (some 41) Tryz.func82 #[.slice cd aa.length cf] rfl ?_;(refine(jE.calls k2 _ _ aa aI _ ?_ ?_ cC.out).mono ?_);exact cZ (Kd.R_reads' rF.out).2.2;exact(Kd.R_reads' rF.out).2.1;rintro e _ ⟨_,rfl,bs,hb⟩;refine⟨_,rfl,?_⟩;have bu:=bm (Kd.R_lower (Kd.R_new' bs (Kd.R_lt (rS rF))) (below_size (wZ HB)));replace rF:=bm (Kd.R_elder' (rS rF) (Kd.R_base bs) hb);replace HB:=bW HB hb;clear hb;(try clear bs)));go_ret;exact⟨_,eF,by(repeat apply Kd.RS);exact Kd.R_mono bu.out (fun _ hk=>trivial),wZ HB⟩
end Go.Proofs.YtigeaokfhnlkcaaGreatDoor.P
