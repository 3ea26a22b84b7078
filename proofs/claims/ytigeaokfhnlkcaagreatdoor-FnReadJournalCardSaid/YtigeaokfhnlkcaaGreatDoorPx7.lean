import Derived.Test.YtigeaokfhnlkcaaGreatDoorPx0
import Derived.Test.YtigeaokfhnlkcaaGreatDoorPx3
import Derived.Test.YtigeaokfhnlkcaaGreatDoorPx5
import Derived.Test.YtigeaokfhnlkcaaGreatDoorPx6
namespace Go.Proofs.YtigeaokfhnlkcaaGreatDoor.P
open Go.RowKit YtigeaokfhnlkcaaGreatDoorW PrintWords PrintLast PrintMore
attribute [local go_sem] max2_int min2_int max_two min_two max_three min_three max_four min_four
set_option linter.unusedVariables false
set_option linter.unusedSimpArgs false
set_option maxHeartbeats 8000000
set_option maxRecDepth 100000
def pd.f (k:Nat) (a0:Int) (a1:ByteArray):Option (Int×Bool):=(jf.f k a0 a1 0).bind fun c=>if c.2.1=true then(if c.2.2.2.2=(a1.size:Int)then some (c.1,true)else some (-1,false))else some (-1,false)
theorem pd.mono:∀a0 a1 k,LeO (pd.f k a0 a1) (pd.f (k+1) a0 a1):=by
 intro a0 a1 k;unfold pd.f;exact LeO.bind (jf.mono _ _ _ _) (fun _=>LeO.refl _)
instance pd.mo {k a0 a1}:ph (pd.f k a0 a1) (pd.f (k+1) a0 a1):=⟨pd.mono a0 a1 k⟩
theorem pd.calls (k:Nat) (a0:Int) (a1:ByteArray) (r1:Int) (r2:Bool) (w:World) (h:pd.f k a0 a1=some (r1,r2)):
  Calls Tryz.prog 106 #[.int .i64 a0,.string a1] w fun e w'=>e= .returned (.tuple #[.int .i64 r1,.bool r2])∧Below w.heap.size w w':=by
 have az:=bm (Below.refl w.heap.size w);unfold pd.f at h;have cc:=Option.bind_eq_some_iff.mp h;clear h;obtain⟨⟨c1,c2,c3,c4,c5⟩,hc,h⟩:=cc;have HC:=bm (fun W g hI hB=>jf.calls k g a0 a1 0 c1 c2 c3 c4 c5 w W hI hB hc);have HH:=bm h;clear h hc;have hu:=Tryz.underlying130;go_enter Tryz.func106,Tryz.ntmps106;go_wp2_with (first|(refine pN 12 #[.int .i64 a0,.string a1,.int .i64 0] 130 ?_;intro gb hg w1 aQ hb;have br:=bW az hb;have bs:=bm (aQ);have bu:=bG az hg;clear az;have az:=br;have BK:=bs;have GW:=bu;clear br bs bu;clear hb aQ hg)|fail);refine(HC.out _ gb ⟨kS BK,GW.out⟩ (wZ az)).mono ?_;rintro e w3 ⟨rfl,bw,bx,cd⟩;have cB:=tl bw.1;have ar:=bm bx;clear bw bx cd az BK GW HC;obtain⟨h⟩:=HH;cases c2 with
 |false=>
  simp(config:={decide:=true}) only[if_true,if_false]at h;obtain⟨rfl,rfl⟩: -1=r1∧false=r2:=by simpa using h
  clear h;go_wp2;go_ret2;exact⟨rfl,ar.out⟩
 |true=>
  simp(config:={decide:=true}) only[if_true]at h;by_cases he:c5=(a1.size:Int)
  ·rw[if_pos he]at h;obtain⟨rfl,rfl⟩:c1=r1∧true=r2:=by simpa using h
   have cf:(c5 !=(a1.size:Int))=false:=by simpa using he
   clear h;go_wp2;go_ret2;exact⟨rfl,ar.out⟩
  ·rw[if_neg he]at h;obtain⟨rfl,rfl⟩: -1=r1∧false=r2:=by simpa using h
   have cf:(c5 !=(a1.size:Int))=true:=by simpa using he
   have cC:(c5==(a1.size:Int))=false:=by simpa using he
   clear h;go_wp2;go_ret2;exact⟨rfl,ar.out⟩
def pr.f (k:Nat) (a0:Int) (a1:ByteArray):Option (Int×Bool):=(oD.f a0).bind fun t198=>(if t198=true then(if(a1.size:Int)>120 then(some ((-1),false))else((pd.f k a0 a1).bind fun ae=>(some (ae.1,ae.2))))else(some ((-1),false)))
instance pr.mo {k a0 a1}:ph (pr.f k a0 a1) (pr.f (k+1) a0 a1):=by unfold pr.f;infer_instance
theorem pr.calls (k:Nat) (a0:Int) (a1:ByteArray) (r1:Int) (r2:Bool) (w:World) (h:pr.f k a0 a1=some (r1,r2)):
  Calls Tryz.prog 73 #[.int .i64 a0,.string a1] w fun e w'=>e= .returned (.tuple #[.int .i64 r1,.bool r2])∧Below w.heap.size w w':=by
 have HB:=bm (Below.refl w.heap.size w);have H:=h;clear h;unfold pr.f at H;obtain⟨t198,A3,H⟩:=bE H;try dsimp only at H
 by_cases c4:t198=true
 ·subst c4;rw[if_pos rfl]at H;rcases iT H with⟨c5,H⟩|⟨c5,H⟩
  ·have aR:=mV c5;have bz:decide (120<a1.size)=true:=mV (by omega);clear c5;obtain⟨rfl,rfl⟩:=s2 H;go_enter Tryz.func73,Tryz.ntmps73;go_wp2_with (first|(refine gB (some 7) Tryz.func70 #[.int .i64 a0] rfl ?_;(with_reducible refine(oD.calls a0 true _ A3.out).mono ?_);rintro e w' ⟨rfl,⟨nd,rfl⟩⟩;refine⟨_,rfl,?_⟩));go_ret2;exact rz HB
  ·have aR:=mP c5;have bz:decide (120<a1.size)=false:=mP (by omega);clear c5;obtain⟨⟨t199,t200⟩,A6,H⟩:=bE H;try dsimp only at H
   obtain⟨rfl,rfl⟩:=s2 H;go_enter Tryz.func73,Tryz.ntmps73;go_wp2_with (first|(refine gB (some 7) Tryz.func70 #[.int .i64 a0] rfl ?_;(with_reducible refine(oD.calls a0 true _ A3.out).mono ?_);rintro e w' ⟨rfl,⟨nd,rfl⟩⟩;refine⟨_,rfl,?_⟩)|(refine gB (some 16) Tryz.func106 #[.int .i64 a0,.string a1] rfl ?_;(with_reducible refine(pd.calls k a0 a1 t199 t200 _ A6.out).mono ?_);rintro e w7 ⟨rfl,hb⟩;refine⟨_,rfl,?_⟩;replace HB:=bW HB hb;clear hb));go_ret2;exact rz HB
 ·replace c4:=mN c4;subst c4;rw[if_neg nz]at H;obtain⟨rfl,rfl⟩:=s2 H;go_enter Tryz.func73,Tryz.ntmps73;go_wp2_with (first|(refine gB (some 7) Tryz.func70 #[.int .i64 a0] rfl ?_;(with_reducible refine(oD.calls a0 false _ A3.out).mono ?_);rintro e w' ⟨rfl,⟨nd,rfl⟩⟩;refine⟨_,rfl,?_⟩));go_ret2;exact rz HB
def np.l0:Nat→Int→Int→List Int→Int→Int→Option (Int)
 |0,_,_,_,_,_=>none
 |k+1,x1,x5,x8,x9,x10=>if x10<x9 then(if 0≤x10 then(if x10<(x8.length:Int)then(if(Go.bits .and .i64 (shr .i64 x1 x10) 1)=1 then(np.l0 k x1 (mn x5 (rd x8 x10)) x8 x9 (wrap64 (x10+1)))else(np.l0 k x1 x5 x8 x9 (wrap64 (x10+1))))else(none))else(none))else(some x5)
def np.f (k:Nat) (l0:List Int) (a1:Int):Option (Int):=np.l0 k a1 10 l0 (l0.length:Int) 0
theorem np.kU:∀k,(∀y0 y1 y2 y3 y4,ph (np.l0 k y0 y1 y2 y3 y4) (np.l0 (k+1) y0 y1 y2 y3 y4))
 |0=>fun _ _ _ _ _=> .z (by simp only[np.l0])
 |k+1=>by
  have i0:=np.kU k;exact fun _ _ _ _ _=>by unfold np.l0;infer_instance
instance np.mo {k a0 a1}:ph (np.f k a0 a1) (np.f (k+1) a0 a1):=by have i0:=np.kU k;unfold np.f;infer_instance
theorem np.mono:∀a0 a1 k,LeO (np.f k a0 a1) (np.f (k+1) a0 a1):=fun _ _ _=>np.mo.h
theorem np.calls (k:Nat) (A0:Option Addr) (c0:Nat) (l0:List Int) (a1:Int) (r:Int) (w:World) (bA:Kd.C (Kd.int .i64) w A0 l0.length l0) (bB:l0.length≤c0) (h:np.f k l0 a1=some r):
  Calls Tryz.prog 122 #[.slice A0 l0.length c0,.int .i64 a1] w fun e w'=>e= .returned (.int .i64 r)∧Below w.heap.size w w':=by
 have bD:=bm bA;have cD:=bm bB;clear bA bB;have HB:=bm (Below.refl w.heap.size w);have H:=h;clear h;unfold np.f at H;have H':=bm H;clear H;go_enter Tryz.func122,Tryz.ntmps122;go_wp2;go_loopg [5,10] k (fun kq v5 v10 w'=>∃(af:Int) (o:Int),v5= .int .i64 af∧v10= .int .i64 o∧kn (np.l0 kq a1 af l0 (l0.length:Int) o=some r)∧kn (kq≤k)∧kn (Below w.heap.size w w'))
 case atStart=>exact⟨(10),(0),(by first|rfl|(simp;done)|(simp[*];done)),(by first|rfl|(simp;done)|(simp[*];done)),H',⟨Nat.le_refl _⟩,⟨wZ HB⟩⟩
 case round=>
  clear H';obtain⟨af,o,rfl,rfl,HA,aJ,HB⟩:=hrel;cases gk with
  |zero=>exact absurd HA.out (by simp[np.l0])
  |succ k1=>
   have H:=HA.out;clear HA;simp only[np.l0]at H;rcases nA H with⟨bF,H⟩|⟨bF,H⟩
   ·obtain⟨cw,H⟩:=mY H;obtain⟨aR,H⟩:=mY H;have ak:=mX (nY:0≤o);obtain⟨aA,ax⟩:∃j_:Int,(shr .i64 a1 o)=j_:=⟨_,rfl⟩;first|rw[ax]at H|simp only[ax]at H
    have cg:(a1/2^min o.toNat 64)=aA:=ax;have ch:o≤64→(a1/2^o.toNat)=aA:=shr_small ax;rcases iT H with⟨c8,H⟩|⟨c8,H⟩
    ·obtain⟨bH,bJ⟩:=nL c8;clear c8;obtain⟨bO,ay⟩:∃j_:Int,(mn af (rd l0 o))=j_:=⟨_,rfl⟩;first|rw[ay]at H|simp only[ay]at H
     have cj:(if(rd l0 o)<af then(rd l0 o)else af)=bO:=ay;have H':=bm H;clear H;have ag:0≤(o:Int):=nY;have ah:o<(l0.length:Int):=nY;obtain⟨aW,aD,I⟩:=Kd.at_int bD.out o ag ah;cases aD;replace I:=mO HB I;replace ag:=mX ag;replace ah:=mX ah;go_wp2;go_roundg k1
     case measure=>have:=aJ.out;omega
     case rel=>exact⟨(bO),(wrap64 (o+1)),(by first|rfl|(simp;done)|(simp only[←ay]<;>(first|rfl|simp))|(simp[*];done)),(by first|rfl|(simp;done)|(simp[*];done)),H',⟨by have:=aJ.out;omega⟩,⟨wZ HB⟩⟩
    ·obtain⟨bH,bJ⟩:=nK c8;have H':=bm H;clear H;have ag:0≤(o:Int):=nY;have ah:o<(l0.length:Int):=nY;obtain⟨aW,aD,I⟩:=Kd.at_int bD.out o ag ah;cases aD;replace I:=mO HB I;replace ag:=mX ag;replace ah:=mX ah;go_wp2;go_roundg k1
     case measure=>have:=aJ.out;omega
     case rel=>exact⟨(af),(wrap64 (o+1)),(by first|rfl|(simp;done)|(simp[*];done)),(by first|rfl|(simp;done)|(simp[*];done)),H',⟨by have:=aJ.out;omega⟩,⟨wZ HB⟩⟩
   ·obtain rfl:=oJ H;go_wp2;go_ret;exact rz HB
def nR.p (l1:List Int) (least x:Int):Option Bool:=if 0≤x then(if x<(l1.length:Int)then some (decide (rd l1 x=least))else none)else none
def nR.f (k:Nat) (a0:Int) (l1:List Int) (a2:Int):Option Int:=(np.f k l1 a2).bind fun s=>(nQ.f (nR.p l1 s) a0).bind fun t=>some (Go.bits .and .i64 a2 t)
theorem nR.mono:∀a0 a1 a2 k,LeO (nR.f k a0 a1 a2) (nR.f (k+1) a0 a1 a2):=by
 intro a0 a1 a2 k;unfold nR.f;exact LeO.bind (np.mono _ _ _) (fun b=>LeO.refl _)
instance nR.mo {k a0 a1 a2}:ph (nR.f k a0 a1 a2) (nR.f (k+1) a0 a1 a2):=⟨nR.mono a0 a1 a2 k⟩
theorem nR.gives (w:World) (B C:Nat) (A1:Option Addr) (c1:Nat) (l1:List Int) (s:Int) (ao:Kd.C (Kd.int .i64) w A1 l1.length l1) (hB:B<w.heap.size) (hC:C<w.heap.size)
  (hd:w.cell? ⟨B,0,none⟩=some (.slice A1 l1.length c1)) (he:w.cell? ⟨C,0,none⟩=some (.int .i64 s)):
  Hof.tI 131 #[.pointer (some ⟨B,0,none⟩),.pointer (some ⟨C,0,none⟩)] (nR.p l1 s) w:=fun W x b hb hp=>by
 have hd':=(hb.cell (p:=⟨B,0,none⟩) hB).trans hd;have he':=(hb.cell (p:=⟨C,0,none⟩) hC).trans he;have bT:=bm (Below.refl W.heap.size W);have HR:=bm (Kd.C_below ao hb);clear hd he hb ao hB hC;unfold nR.p at hp;by_cases h0:0≤x
 ·rw[if_pos h0]at hp;by_cases h1:x<(l1.length:Int)
  ·rw[if_pos h1]at hp;obtain rfl:=oJ hp;obtain⟨ad,e,hx⟩:=Kd.at_int HR.out x h0 h1;cases e;clear hp;have p0:=mX h0;have p1:=mX h1;have cE:decide (0≤x)=true:=mV h0;have cF:decide (x<(l1.length:Int))=true:=mV h1;clear h0 h1;by_cases hg:rd l1 x=s
   ·have ck:(rd l1 x==s)=true:=nT hg;have aY:decide (rd l1 x=s)=true:=mV hg;clear hg;go_enter Tryz.func131,Tryz.ntmps131;go_wp2;repeat(go_quiet (fail);try go_wp2)
    go_ret;exact⟨by rw[aY];rfl,wZ bT⟩
   ·have ck:(rd l1 x==s)=false:=nF hg;have aY:decide (rd l1 x=s)=false:=mP hg;clear hg;go_enter Tryz.func131,Tryz.ntmps131;go_wp2;repeat(go_quiet (fail);try go_wp2)
    go_ret;exact⟨by rw[aY];rfl,wZ bT⟩
  ·rw[if_neg h1]at hp;cases hp
 ·rw[if_neg h0]at hp;cases hp
theorem nR.calls (k:Nat) (a0:Int) (A1:Option Addr) (c1:Nat) (l1:List Int) (a2:Int) (r:Int) (w:World) (ao:Kd.C (Kd.int .i64) w A1 l1.length l1) (aE:l1.length≤c1) (h:nR.f k a0 l1 a2=some r):
  Calls Tryz.prog 107 #[.int .i64 a0,.slice A1 l1.length c1,.int .i64 a2] w fun e w'=>e= .returned (.int .i64 r)∧Below w.heap.size w w':=by
 have HR:=bm ao;have aZ:=bm aE;have HB:=bm (Below.refl w.heap.size w);unfold nR.f at h;clear ao aE;obtain⟨s,hs,h⟩:=Option.bind_eq_some_iff.mp h;obtain⟨t,ht,h⟩:=Option.bind_eq_some_iff.mp h;obtain rfl:=oJ h;have HS:=bm (fun W hR=>np.calls k A1 c1 l1 a2 s W hR aZ.out hs);have HT:=bm (fun C W hg=>nQ.calls 131 #[.pointer (some ⟨w.heap.size,0,none⟩),.pointer (some ⟨C,0,none⟩)] (Hof.enters Tryz.func131 (by kernel_rfl) rfl) (nR.p l1 s) a0 t W hg ht);clear h hs ht;have HW:=bm (xB HB.out (.cells #[.slice A1 l1.length c1] 23));go_enter Tryz.func107,Tryz.ntmps107;go_wp2_with fail;refine(HS.out _ (Kd.C_below HR.out HW.out)).mono ?_;rintro e w2 ⟨rfl,aK⟩;have cl:w2.cell? ⟨w.heap.size,0,none⟩=some (.slice A1 l1.length c1):=(aK.cell (p:=⟨w.heap.size,0,none⟩) (by simp)).trans (by simp);have bV:kn (w.heap.size<w2.heap.size):=⟨Nat.lt_of_lt_of_le (by simp) aK.size⟩;have cm:=bm (below_then HW.out HW.out.size aK);clear aK;have ar:=fun(u:Value)=>bm (xB cm.out (.cells #[u] 3))
 go_wp2_with fail;refine(HT.out w2.heap.size _ (nR.gives _ w.heap.size w2.heap.size A1 c1 l1 s (Kd.C_below HR.out (ar _).out) (by have:=bV.out;simp;omega) (by simp) ?cx (by simp))).mono ?_
 case cx=>have:=bV.out;exact(World.cell?_alloc_past _ _ _ this).trans cl
 rintro e w3 ⟨rfl,cn⟩;go_wp2;go_ret;exact⟨rfl,below_then (ar _).out (ar _).out.size cn⟩
mutual
def kY.j0:Nat→List Int→Int→Option (List Int)
 |0,_,_=>none
 |k+1,x1,x9=>kY.l0 k x9 (([]:List Int)) x1 (x1.length:Int) 0
def kY.l0:Nat→Int→List Int→List Int→Int→Int→Option (List Int)
 |0,_,_,_,_,_=>none
 |k+1,x9,x10,Ct,Ao,ze=>if ze<Ao then(if 0≤ze then(if ze<(Ct.length:Int)then(if(Go.bits .and .i64 (shr .i64 x9 ze) 1)=0 then(if x10.length<17592186044416 then(kY.l0 k x9 (x10++ [wrap64 ((rd Ct ze)+10)]) Ct Ao (wrap64 (ze+1)))else(none))else(if x10.length<17592186044416 then(kY.l0 k x9 (x10++ [rd Ct ze]) Ct Ao (wrap64 (ze+1)))else(none)))else(none))else(none))else((oB.f k x10).bind fun t213=>(some t213))
end
def kY.f (k:Nat) (a0:Int) (l1:List Int) (a2:Int) (a3:Int):Option (List Int):=if a2=0 then((nR.f k a0 l1 a3).bind fun t202=>(kY.j0 k l1 t202))else(kY.j0 k l1 a3)
theorem kY.kU:∀k,(∀y0 y1,ph (kY.j0 k y0 y1) (kY.j0 (k+1) y0 y1))∧(∀y0 y1 y2 y3 y4,ph (kY.l0 k y0 y1 y2 y3 y4) (kY.l0 (k+1) y0 y1 y2 y3 y4))
 |0=>⟨fun _ _=> .z (by simp only[kY.j0]),fun _ _ _ _ _=> .z (by simp only[kY.l0])⟩
 |k+1=>by
  have⟨i0,i1⟩:=kY.kU k;exact⟨fun _ _=>by unfold kY.j0;infer_instance,fun _ _ _ _ _=>by unfold kY.l0;infer_instance⟩
instance kY.mo {k a0 a1 a2 a3}:ph (kY.f k a0 a1 a2 a3) (kY.f (k+1) a0 a1 a2 a3):=by have⟨i0,i1⟩:=kY.kU k;unfold kY.f;infer_instance
theorem kY.calls (k:Nat) (a0:Int) (A1:Option Addr) (c1:Nat) (l1:List Int) (a2:Int) (a3:Int) (r:List Int) (w:World) (ao:Kd.C (Kd.int .i64) w A1 l1.length l1) (aE:l1.length≤c1) (h:kY.f k a0 l1 a2 a3=some r):
  Calls Tryz.prog 74 #[.int .i64 a0,.slice A1 l1.length c1,.int .i64 a2,.int .i64 a3] w fun e w'=>∃bZ:Value,e= .returned (bZ)∧Kd.R (Kd.int .i64) 3 w' w.heap.size (fun _=>True) bZ r∧Below w.heap.size w w':=by
 have a6:=bm ao;have aZ:=bm aE;clear ao aE;have HB:=bm (Below.refl w.heap.size w);have H:=h;clear h;unfold kY.f at H;have a7:=bm H;clear H;go_enter Tryz.func74,Tryz.ntmps74;go_upto_if 15 with(fail)
 go_cut [9] (fun v9 wc=>∃(kq:Nat) (ab:Int),v9= .int .i64 ab∧kn (kY.j0 kq l1 ab=some r)∧kn (kq≤k)∧kn (Below w.heap.size w wc))
 case first=>
  have H:=a7.out;clear a7;rcases iT H with⟨c6,H⟩|⟨c6,H⟩
  ·obtain⟨ak,b0⟩:=nL c6;clear c6;(first|rw[ak]|(simp only[i64_w,i32_w];rw[ak])|skip);obtain⟨t202,A7,H⟩:=bE H;try dsimp only at H
   have H':=bm H;clear H;go_wp2_with (first|(refine gB (some 19) Tryz.func107 #[.int .i64 a0,.slice A1 l1.length c1,.int .i64 a3] rfl ?_;(with_reducible refine(nR.calls k a0 _ _ l1 a3 t202 _ ?_ ?_ A7.out).mono ?_);exact cY a6 HB;exact aZ.out;rintro e w8 ⟨rfl,hb⟩;refine⟨_,rfl,?_⟩;replace HB:=bW HB hb;clear hb));go_meet
   case rel=>exact⟨_,(t202),(by first|rfl|(simp;done)|(simp[*];done)),H',⟨by first|omega|exact Nat.le_refl _⟩,⟨wZ HB⟩⟩
  ·obtain⟨ak,b0⟩:=nK c6;(first|rw[ak]|(simp only[i64_w,i32_w];rw[ak])|skip);have H':=bm H;clear H;go_wp2;go_meet
   case rel=>exact⟨_,(a3),(by first|rfl|(simp;done)|(simp[*];done)),H',⟨by first|omega|exact Nat.le_refl _⟩,⟨wZ HB⟩⟩
 case rest=>
  clear a7;obtain⟨kq,ab,rfl,HA,aM,HB⟩:=hcut;cases kq with
  |zero=>exact absurd HA.out (by simp[kY.j0])
  |succ zk=>
   have H:=HA.out;clear HA;simp only[kY.j0]at H;obtain⟨aT,au⟩:∃y_:List Int,y_=(([]:List Int)):=⟨_,rfl⟩;replace H:(kY.l0 zk ab aT l1 (l1.length:Int) 0)=some r:=by first|(rw[au];exact H)|exact H
   have aG:=bm au;clear au;have H':=bm H;clear H;go_wp2_with (first|((with_reducible refine gate_dst (N:=20) rfl ?_);refine Kd.R_lit (Kd.int .i64) _ 3 ?hg (N:=20) ?hd (xs:=([]:List Int)) (inner:=[]) (ok:=fun _=>True) (okp:=fun _=>True) ?hr ?hp (fun _ hk=>hk) trivial (Below.refl _ _) (Nat.le_refl _) (by simp) ?_;(case hd=>rfl);(case hg=>rfl);(case hr=>first|(go_simp;done)|(go_simp;rfl));(case hp=>exact(Reps.none _ _));intro cy w9 aq hb cp a8;clear cp a8;(first|rw[←aG.out]at aq|(simp only[Int.reduceToNat]at aq;rw[←aG.out]at aq));have ba:=rL aq HB;replace HB:=bW HB hb;clear hb aq));go_loopg [10,23] zk (fun kq v10 cq w'=>∃(aa:List Int) (j:Int),cq= .int .i64 j∧kn (kY.l0 kq ab aa l1 (l1.length:Int) j=some r)∧kn (kq≤zk)∧kn (Kd.R (Kd.int .i64) 3 w' w.heap.size (fun _=>True) v10 aa)∧kn (Below w.heap.size w w'))
   case atStart=>exact⟨(aT),(0),(by first|rfl|(simp;done)|(simp[*];done)),H',⟨Nat.le_refl _⟩,⟨by(repeat apply Kd.RS);exact ba.out⟩,⟨wZ HB⟩⟩
   case round=>
    clear H';obtain⟨aa,j,rfl,HA,aN,qx,HB⟩:=hrel;cases gk with
    |zero=>exact absurd HA.out (by simp[kY.l0])
    |succ k2=>
     have H:=HA.out;clear HA;simp only[kY.l0]at H;rcases nA H with⟨bb,H⟩|⟨bb,H⟩
     ·obtain⟨cr,H⟩:=mY H;obtain⟨ct,H⟩:=mY H;have cu:=mX (nY:0≤j);obtain⟨al,an⟩:∃j_:Int,(shr .i64 ab j)=j_:=⟨_,rfl⟩;first|rw[an]at H|simp only[an]at H
      have ca:(ab/2^min j.toNat 64)=al:=an;have cb:j≤64→(ab/2^j.toNat)=al:=shr_small an;rcases iT H with⟨aC,H⟩|⟨aC,H⟩
      ·obtain⟨bc,bd⟩:=nL aC;clear aC;obtain⟨b5,H⟩:=iN H;have bf:=bm b5;clear b5;obtain⟨aU,av⟩:∃y_:List Int,y_=(aa++ [wrap64 ((rd l1 j)+10)]):=⟨_,rfl⟩;rw[←av]at H
       have bg:=bm av;clear av;have H':=bm H;clear H;have ai:0≤(j:Int):=nY;have aj:j<(l1.length:Int):=nY;obtain⟨bh,aI,J⟩:=Kd.at_int a6.out j ai aj;cases aI;replace J:=mO HB J;replace ai:=mX ai;replace aj:=mX aj;go_wp2_with (first|((with_reducible refine gate_builtin (b:=.append) (xs:= #[.tmp 35,.tmp 37]) rfl ?_);at_builtin;refine Kd.R_append (Kd.int .i64) (w0:=w) w.heap.size rfl (.tmp 35) (.tmp 37) 23 3 (.int .i64 0) 8 rfl Tryz.underlying23 info3 rfl (by decide) (by omega) u10 aa (wrap64 ((rd l1 j)+10)) [.int .i64 (wrap64 ((rd l1 j)+10))] (fun _=>True) (fun _=>False) rfl rfl ?aP (fun _ hk=>hk.elim) ?aF ?aO ?aB ?aS ?aL ?_;(case aP=>exact rfl);(case aB=>exact(wZ HB));(case aF=>exact(fun _ _=>trivial));(case aO=>exact(rS qx));(case aS=>exact(below_size (wZ HB)));(case aL=>have:=bf.out;omega);intro v208 cG ho hb hg bj;rw[←bg.out]at ho;replace HB:=bm (hb);have bk:=bm (ho);clear qx;clear ho hb hg bj));go_roundg k2
       case measure=>have:=aM.out;have:=aN.out;omega
       case rel=>exact⟨(aU),(wrap64 (j+1)),(by first|rfl|(simp;done)|(simp[*];done)),H',⟨by have:=aM.out;have:=aN.out;omega⟩,⟨by(repeat apply Kd.RS);exact bk.out⟩,⟨wZ HB⟩⟩
      ·obtain⟨bc,bd⟩:=nK aC;obtain⟨b6,H⟩:=iN H;have bl:=bm b6;clear b6;obtain⟨aV,aw⟩:∃y_:List Int,y_=(aa++ [rd l1 j]):=⟨_,rfl⟩;rw[←aw]at H
       have bn:=bm aw;clear aw;have H':=bm H;clear H;have ai:0≤(j:Int):=nY;have aj:j<(l1.length:Int):=nY;obtain⟨bh,aI,J⟩:=Kd.at_int a6.out j ai aj;cases aI;replace J:=mO HB J;replace ai:=mX ai;replace aj:=mX aj;go_wp2_with (first|((with_reducible refine gate_builtin (b:=.append) (xs:= #[.tmp 35,.tmp 37]) rfl ?_);at_builtin;refine Kd.R_append (Kd.int .i64) (w0:=w) w.heap.size rfl (.tmp 35) (.tmp 37) 23 3 (.int .i64 0) 8 rfl Tryz.underlying23 info3 rfl (by decide) (by omega) u10 aa (rd l1 j) [.int .i64 (rd l1 j)] (fun _=>True) (fun _=>False) rfl rfl ?aP (fun _ hk=>hk.elim) ?aF ?aO ?aB ?aS ?aL ?_;(case aP=>exact rfl);(case aB=>exact(wZ HB));(case aF=>exact(fun _ _=>trivial));(case aO=>exact(rS qx));(case aS=>exact(below_size (wZ HB)));(case aL=>have:=bl.out;omega);intro cz cH ho hb hg bj;rw[←bn.out]at ho;replace HB:=bm (hb);have bo:=bm (ho);clear qx;clear ho hb hg bj));go_roundg k2
       case measure=>have:=aM.out;have:=aN.out;omega
       case rel=>exact⟨(aV),(wrap64 (j+1)),(by first|rfl|(simp;done)|(simp[*];done)),H',⟨by have:=aM.out;have:=aN.out;omega⟩,⟨by(repeat apply Kd.RS);exact bo.out⟩,⟨wZ HB⟩⟩
     ·obtain⟨t213,cv,H⟩:=bE H;try dsimp only at H
      obtain rfl:=oJ H;obtain⟨b7,b8,b9⟩:=Kd.R_slice qx.out;subst b9;go_wp2_with (first|(refine gB (some 41) Tryz.func82 #[.slice b7 aa.length b8] rfl ?_;(with_reducible refine(oB.calls k2 _ _ aa t213 _ ?_ ?_ cv.out).mono ?_);exact cZ (Kd.R_reads' qx.out).2.2;exact(Kd.R_reads' qx.out).2.1;rintro e cI ⟨cA,rfl,bp,hb⟩;refine⟨_,rfl,?_⟩;have bq:=bm (Kd.R_lower (Kd.R_new' bp (Kd.R_lt (rS qx))) (below_size (wZ HB)));replace qx:=bm (Kd.R_elder' (rS qx) (Kd.R_base bp) hb);replace HB:=bW HB hb;clear hb;(try clear bp)));go_ret;exact⟨_,by first|rfl|(simp[*,jY,jZ]<;>rfl),by(repeat apply Kd.RS);exact Kd.R_mono bq.out (fun _ hk=>trivial),wZ HB⟩
end Go.Proofs.YtigeaokfhnlkcaaGreatDoor.P
