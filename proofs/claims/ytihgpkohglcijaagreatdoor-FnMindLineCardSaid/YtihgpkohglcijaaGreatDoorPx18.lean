import Derived.Test.YtihgpkohglcijaaGreatDoorPx0
import Derived.Test.YtihgpkohglcijaaGreatDoorPx14
import Derived.Test.YtihgpkohglcijaaGreatDoorPx16
import Derived.Test.YtihgpkohglcijaaGreatDoorPx17
namespace Go.Proofs.YtihgpkohglcijaaGreatDoor.P
open Go.RowKit YtihgpkohglcijaaGreatDoorW PrintWords PrintLast PrintMore
attribute [local go_sem] max2_int min2_int max_two min_two max_three min_three max_four min_four
set_option linter.unusedVariables false
set_option linter.unusedSimpArgs false
set_option maxHeartbeats 8000000
set_option maxRecDepth 100000
def lr.f (k:Nat) (a0:Int) (a1:ByteArray):Option (Int×Bool):=(fy.f k a0 a1 0).bind fun c=>if c.2.1=true then(if c.2.2.2.2=(a1.size:Int)then some (c.1,true)else some (-1,false))else some (-1,false)
theorem lr.mono:∀a0 a1 k,LeO (lr.f k a0 a1) (lr.f (k+1) a0 a1):=by
 intro a0 a1 k;unfold lr.f;exact LeO.bind (fy.mono _ _ _ _) (fun _=>LeO.refl _)
instance lr.mo {k a0 a1}:ku (lr.f k a0 a1) (lr.f (k+1) a0 a1):=⟨lr.mono a0 a1 k⟩
theorem lr.calls (k:Nat) (a0:Int) (a1:ByteArray) (r1:Int) (r2:Bool) (w:World) (h:lr.f k a0 a1=some (r1,r2)):
  Calls Tryz.prog 65 #[.int .i64 a0,.string a1] w fun e w'=>e= .returned (.tuple #[.int .i64 r1,.bool r2])∧Below w.heap.size w w':=by
 have aC:=bm (Below.refl w.heap.size w);unfold lr.f at h;have cj:=Option.bind_eq_some_iff.mp h;clear h;obtain⟨⟨c1,c2,c3,c4,c5⟩,hc,h⟩:=cj;have HC:=bm (fun W g hI hB=>fy.calls k g a0 a1 0 c1 c2 c3 c4 c5 w W hI hB hc);have HH:=bm h;clear h hc;have hu:=Tryz.underlying120;go_enter Tryz.func65,Tryz.ntmps65;go_wp2_with (first|(refine mK 12 #[.int .i64 a0,.string a1,.int .i64 0] 120 ?_;intro gb hg _ aU hb;have bw:=bW aC hb;have bx:=bm (aU);have bz:=bG aC hg;clear aC;have aC:=bw;have BK:=bx;have GW:=bz;clear bw bx bz;clear hb aU hg)|fail);refine(HC.out _ gb ⟨kS BK,GW.out⟩ (wZ aC)).mono ?_;rintro e _ ⟨rfl,bA,bB,ck⟩;have cH:=qM bA.1;have av:=bm bB;clear bA bB ck aC BK GW HC;obtain⟨h⟩:=HH;cases c2 with
 |false=>
  simp(config:={decide:=true}) only[if_true,if_false]at h;obtain⟨rfl,rfl⟩: -1=r1∧false=r2:=by simpa using h
  clear h;go_wp2;go_ret2;exact⟨rfl,av.out⟩
 |true=>
  simp(config:={decide:=true}) only[if_true]at h;by_cases he:c5=(a1.size:Int)
  ·rw[if_pos he]at h;obtain⟨rfl,rfl⟩:c1=r1∧true=r2:=by simpa using h
   have cl:(c5 !=(a1.size:Int))=false:=by simpa using he
   clear h;go_wp2;go_ret2;exact⟨rfl,av.out⟩
  ·rw[if_neg he]at h;obtain⟨rfl,rfl⟩: -1=r1∧false=r2:=by simpa using h
   have cl:(c5 !=(a1.size:Int))=true:=by simpa using he
   have cI:(c5==(a1.size:Int))=false:=by simpa using he
   clear h;go_wp2;go_ret2;exact⟨rfl,av.out⟩
def jH.f (k:Nat) (a0:Int) (a1:ByteArray):Option (Int×Bool):=(kn.f a0).bind fun aq=>(if aq=true then(if(a1.size:Int)>120 then(some ((-1),false))else((lr.f k a0 a1).bind fun ae=>(some (ae.1,ae.2))))else(some ((-1),false)))
instance jH.mo {k a0 a1}:ku (jH.f k a0 a1) (jH.f (k+1) a0 a1):=by unfold jH.f;infer_instance
theorem jH.calls (k:Nat) (a0:Int) (a1:ByteArray) (r1:Int) (r2:Bool) (w:World) (h:jH.f k a0 a1=some (r1,r2)):
  Calls Tryz.prog 15 #[.int .i64 a0,.string a1] w fun e w'=>e= .returned (.tuple #[.int .i64 r1,.bool r2])∧Below w.heap.size w w':=by
 have HB:=bm (Below.refl w.heap.size w);have H:=h;clear h;unfold jH.f at H;obtain⟨aq,A3,H⟩:=bE H;try dsimp only at H
 by_cases c4:aq=true
 subst c4;rw[if_pos rfl]at H;rcases iT H with⟨c5,H⟩|⟨c5,H⟩
 have aV:=vG c5;have bD:decide (120<a1.size)=true:=vG (by omega);clear c5;obtain⟨rfl,rfl⟩:=s2 H
 rotate_left
 have aV:=vB c5;have bD:decide (120<a1.size)=false:=vB (by omega);clear c5;obtain⟨⟨bF,bH⟩,A6,H⟩:=bE H;try dsimp only at H
 obtain⟨rfl,rfl⟩:=s2 H
 rotate_left
 replace c4:=uZ c4;subst c4;rw[if_neg vR]at H;obtain⟨rfl,rfl⟩:=s2 H
 rotate_left
 all_goals(go_enter Tryz.func15,Tryz.ntmps15;go_wp2_with (first|(refine gB (some 7) Tryz.func64 #[.int .i64 a0] rfl ?_;(with_reducible refine(kn.calls a0 true _ A3.out).mono ?_);rintro e w' ⟨rfl,⟨nd,rfl⟩⟩;refine⟨_,rfl,?_⟩)|(refine gB (some 16) Tryz.func65 #[.int .i64 a0,.string a1] rfl ?_;(with_reducible refine(lr.calls k a0 a1 bF bH _ A6.out).mono ?_);rintro e _ ⟨rfl,hb⟩;refine⟨_,rfl,?_⟩;replace HB:=bW HB hb;clear hb)|(refine gB (some 7) Tryz.func64 #[.int .i64 a0] rfl ?_;(with_reducible refine(kn.calls a0 false _ A3.out).mono ?_);rintro e w' ⟨rfl,⟨nd,rfl⟩⟩;refine⟨_,rfl,?_⟩)))
 iterate 3(go_ret2;exact vo HB)
def iI.l0:Nat→Int→Int→List Int→Int→Int→Option (Int)
 |0,_,_,_,_,_=>none
 |k+1,x1,x5,x8,x9,x10=>if x10<x9 then(if 0≤x10 then(if x10<(x8.length:Int)then(if(Go.bits .and .i64 (shr .i64 x1 x10) 1)=1 then(iI.l0 k x1 (mn x5 (rd x8 x10)) x8 x9 (wrap64 (x10+1)))else(iI.l0 k x1 x5 x8 x9 (wrap64 (x10+1))))else(none))else(none))else(some x5)
def iI.f (k:Nat) (l0:List Int) (a1:Int):Option (Int):=iI.l0 k a1 10 l0 (l0.length:Int) 0
theorem iI.gF:∀k,(∀y0 y1 y2 y3 y4,ku (iI.l0 k y0 y1 y2 y3 y4) (iI.l0 (k+1) y0 y1 y2 y3 y4))
 |0=>fun _ _ _ _ _=> .z (by simp only[iI.l0])
 |k+1=>by
  have i0:=iI.gF k;exact fun _ _ _ _ _=>by unfold iI.l0;infer_instance
instance iI.mo {k a0 a1}:ku (iI.f k a0 a1) (iI.f (k+1) a0 a1):=by have i0:=iI.gF k;unfold iI.f;infer_instance
theorem iI.mono:∀a0 a1 k,LeO (iI.f k a0 a1) (iI.f (k+1) a0 a1):=fun _ _ _=>iI.mo.h
theorem iI.calls (k:Nat) (A0:Option Addr) (c0:Nat) (l0:List Int) (a1:Int) (r:Int) (w:World) (bJ:Kd.C (Kd.int .i64) w A0 l0.length l0) (bO:l0.length≤c0) (h:iI.f k l0 a1=some r):
  Calls Tryz.prog 153 #[.slice A0 l0.length c0,.int .i64 a1] w fun e w'=>e= .returned (.int .i64 r)∧Below w.heap.size w w':=by
 have bT:=bm bJ;have cJ:=bm bO;clear bJ bO;have HB:=bm (Below.refl w.heap.size w);have H:=h;clear h;unfold iI.f at H;have H':=bm H;clear H;go_enter Tryz.func153,Tryz.ntmps153;go_wp2;go_loopg [5,10] k (fun kq v5 v10 w'=>∃(af:Int) (o:Int),v5= .int .i64 af∧v10= .int .i64 o∧gm (iI.l0 kq a1 af l0 (l0.length:Int) o=some r)∧gm (kq≤k)∧gm (Below w.heap.size w w'))
 case atStart=>exact⟨(10),(0),(by first|rfl|(simp;done)|(simp[*];done)),(by first|rfl|(simp;done)|(simp[*];done)),H',⟨Nat.le_refl _⟩,⟨wZ HB⟩⟩
 case round=>
  clear H';obtain⟨af,o,rfl,rfl,HA,aN,HB⟩:=hrel;cases gk with
  |zero=>exact absurd HA.out (by simp[iI.l0])
  |succ k1=>
   have H:=HA.out;clear HA;simp only[iI.l0]at H;rcases vL H with⟨bV,H⟩|⟨bV,H⟩
   ·obtain⟨cC,H⟩:=vJ H;obtain⟨aV,H⟩:=vJ H;have ak:=vI (jK:0≤o);obtain⟨aD,az⟩:∃j_:Int,(shr .i64 a1 o)=j_:=⟨_,rfl⟩;first|rw[az]at H|simp only[az]at H
    have cm:(a1/2^min o.toNat 64)=aD:=az;have cn:o≤64→(a1/2^o.toNat)=aD:=shr_small az;rcases iT H with⟨c8,H⟩|⟨c8,H⟩
    ·obtain⟨bZ,b0⟩:=vl c8;clear c8;obtain⟨b1,aA⟩:∃j_:Int,(mn af (rd l0 o))=j_:=⟨_,rfl⟩;first|rw[aA]at H|simp only[aA]at H
     have cp:(if(rd l0 o)<af then(rd l0 o)else af)=b1:=aA;have H':=bm H;clear H;have ag:0≤(o:Int):=jK;have ah:o<(l0.length:Int):=jK;obtain⟨a6,aG,I⟩:=Kd.at_int bT.out o ag ah;cases aG;replace I:=vA HB I;replace ag:=vI ag;replace ah:=vI ah;go_wp2;go_roundg k1
     case measure=>have:=aN.out;omega
     case rel=>exact⟨(b1),(wrap64 (o+1)),(by first|rfl|(simp;done)|(simp only[←aA]<;>(first|rfl|simp))|(simp[*];done)),(by first|rfl|(simp;done)|(simp[*];done)),H',⟨by have:=aN.out;omega⟩,⟨wZ HB⟩⟩
    ·obtain⟨bZ,b0⟩:=vk c8;have H':=bm H;clear H;have ag:0≤(o:Int):=jK;have ah:o<(l0.length:Int):=jK;obtain⟨a6,aG,I⟩:=Kd.at_int bT.out o ag ah;cases aG;replace I:=vA HB I;replace ag:=vI ag;replace ah:=vI ah;go_wp2;go_roundg k1
     case measure=>have:=aN.out;omega
     case rel=>exact⟨(af),(wrap64 (o+1)),(by first|rfl|(simp;done)|(simp[*];done)),(by first|rfl|(simp;done)|(simp[*];done)),H',⟨by have:=aN.out;omega⟩,⟨wZ HB⟩⟩
   ·obtain rfl:=vZ H;go_wp2;go_ret;exact vo HB
def iO.p (l1:List Int) (least x:Int):Option Bool:=if 0≤x then(if x<(l1.length:Int)then some (decide (rd l1 x=least))else none)else none
def iO.f (k:Nat) (a0:Int) (l1:List Int) (a2:Int):Option Int:=(iI.f k l1 a2).bind fun s=>(jb.f (iO.p l1 s) a0).bind fun t=>some (Go.bits .and .i64 a2 t)
theorem iO.mono:∀a0 a1 a2 k,LeO (iO.f k a0 a1 a2) (iO.f (k+1) a0 a1 a2):=by
 intro a0 a1 a2 k;unfold iO.f;exact LeO.bind (iI.mono _ _ _) (fun b=>LeO.refl _)
instance iO.mo {k a0 a1 a2}:ku (iO.f k a0 a1 a2) (iO.f (k+1) a0 a1 a2):=⟨iO.mono a0 a1 a2 k⟩
theorem iO.gives (w:World) (B C:Nat) (A1:Option Addr) (c1:Nat) (l1:List Int) (s:Int) (ar:Kd.C (Kd.int .i64) w A1 l1.length l1) (hB:B<w.heap.size) (hC:C<w.heap.size)
  (hd:w.cell? ⟨B,0,none⟩=some (.slice A1 l1.length c1)) (he:w.cell? ⟨C,0,none⟩=some (.int .i64 s)):
  Hof.qL 161 #[.pointer (some ⟨B,0,none⟩),.pointer (some ⟨C,0,none⟩)] (iO.p l1 s) w:=fun W x b hb hp=>by
 have hd':=(hb.cell (p:=⟨B,0,none⟩) hB).trans hd;have he':=(hb.cell (p:=⟨C,0,none⟩) hC).trans he;have b4:=bm (Below.refl W.heap.size W);have HR:=bm (Kd.C_below ar hb);clear hd he hb ar hB hC;unfold iO.p at hp;by_cases h0:0≤x
 ·rw[if_pos h0]at hp;by_cases h1:x<(l1.length:Int)
  ·rw[if_pos h1]at hp;obtain rfl:=vZ hp;obtain⟨ad,e,hx⟩:=Kd.at_int HR.out x h0 h1;cases e;clear hp;have p0:=vI h0;have p1:=vI h1;have cK:decide (0≤x)=true:=vG h0;have cL:decide (x<(l1.length:Int))=true:=vG h1;clear h0 h1;by_cases hg:rd l1 x=s
   ·have cq:(rd l1 x==s)=true:=vP hg;have a7:decide (rd l1 x=s)=true:=vG hg;clear hg;go_enter Tryz.func161,Tryz.ntmps161;go_wp2;repeat(go_quiet (fail);try go_wp2)
    go_ret;exact⟨by rw[a7];rfl,wZ b4⟩
   ·have cq:(rd l1 x==s)=false:=vO hg;have a7:decide (rd l1 x=s)=false:=vB hg;clear hg;go_enter Tryz.func161,Tryz.ntmps161;go_wp2;repeat(go_quiet (fail);try go_wp2)
    go_ret;exact⟨by rw[a7];rfl,wZ b4⟩
  ·rw[if_neg h1]at hp;cases hp
 ·rw[if_neg h0]at hp;cases hp
theorem iO.calls (k:Nat) (a0:Int) (A1:Option Addr) (c1:Nat) (l1:List Int) (a2:Int) (r:Int) (w:World) (ar:Kd.C (Kd.int .i64) w A1 l1.length l1) (aH:l1.length≤c1) (h:iO.f k a0 l1 a2=some r):
  Calls Tryz.prog 144 #[.int .i64 a0,.slice A1 l1.length c1,.int .i64 a2] w fun e w'=>e= .returned (.int .i64 r)∧Below w.heap.size w w':=by
 have HR:=bm ar;have a8:=bm aH;have HB:=bm (Below.refl w.heap.size w);unfold iO.f at h;clear ar aH;obtain⟨s,hs,h⟩:=Option.bind_eq_some_iff.mp h;obtain⟨t,ht,h⟩:=Option.bind_eq_some_iff.mp h;obtain rfl:=vZ h;have HS:=bm (fun W hR=>iI.calls k A1 c1 l1 a2 s W hR a8.out hs);have HT:=bm (fun C W hg=>jb.calls 161 #[.pointer (some ⟨w.heap.size,0,none⟩),.pointer (some ⟨C,0,none⟩)] (Hof.enters Tryz.func161 (by kernel_rfl) rfl) (iO.p l1 s) a0 t W hg ht);clear h hs ht;have HW:=bm (xA HB.out (.cells #[.slice A1 l1.length c1] 23));go_enter Tryz.func144,Tryz.ntmps144;go_wp2_with fail;refine(HS.out _ (Kd.C_below HR.out HW.out)).mono ?_;rintro e w2 ⟨rfl,aQ⟩;have cr:w2.cell? ⟨w.heap.size,0,none⟩=some (.slice A1 l1.length c1):=(aQ.cell (p:=⟨w.heap.size,0,none⟩) (by simp)).trans (by simp);have b5:gm (w.heap.size<w2.heap.size):=⟨Nat.lt_of_lt_of_le (by simp) aQ.size⟩;have ct:=bm (below_then HW.out HW.out.size aQ);clear aQ;have av:=fun(u:Value)=>bm (xA ct.out (.cells #[u] 3))
 go_wp2_with fail;refine(HT.out w2.heap.size _ (iO.gives _ w.heap.size w2.heap.size A1 c1 l1 s (Kd.C_below HR.out (av _).out) (by have:=b5.out;simp;omega) (by simp) ?cx (by simp))).mono ?_
 case cx=>have:=b5.out;exact(World.cell?_alloc_past _ _ _ this).trans cr
 rintro e _ ⟨rfl,cu⟩;go_wp2;go_ret;exact⟨rfl,below_then (av _).out (av _).out.size cu⟩
mutual
def iv.j0:Nat→List Int→Int→Option (List Int)
 |0,_,_=>none
 |k+1,x1,x9=>iv.l0 k x9 (([]:List Int)) x1 (x1.length:Int) 0
def iv.l0:Nat→Int→List Int→List Int→Int→Int→Option (List Int)
 |0,_,_,_,_,_=>none
 |k+1,x9,x10,xL,Eu,Bo=>if Bo<Eu then(if 0≤Bo then(if Bo<(xL.length:Int)then(if(Go.bits .and .i64 (shr .i64 x9 Bo) 1)=0 then(if x10.length<17592186044416 then(iv.l0 k x9 (x10++ [wrap64 ((rd xL Bo)+10)]) xL Eu (wrap64 (Bo+1)))else(none))else(if x10.length<17592186044416 then(iv.l0 k x9 (x10++ [rd xL Bo]) xL Eu (wrap64 (Bo+1)))else(none)))else(none))else(none))else((kr.f k x10).bind fun aI=>(some aI))
end
def iv.f (k:Nat) (a0:Int) (l1:List Int) (a2:Int) (a3:Int):Option (List Int):=if a2=0 then((iO.f k a0 l1 a3).bind fun al=>(iv.j0 k l1 al))else(iv.j0 k l1 a3)
theorem iv.gF:∀k,(∀y0 y1,ku (iv.j0 k y0 y1) (iv.j0 (k+1) y0 y1))∧(∀y0 y1 y2 y3 y4,ku (iv.l0 k y0 y1 y2 y3 y4) (iv.l0 (k+1) y0 y1 y2 y3 y4))
 |0=>⟨fun _ _=> .z (by simp only[iv.j0]),fun _ _ _ _ _=> .z (by simp only[iv.l0])⟩
 |k+1=>by
  have⟨i0,i1⟩:=iv.gF k;exact⟨fun _ _=>by unfold iv.j0;infer_instance,fun _ _ _ _ _=>by unfold iv.l0;infer_instance⟩
instance iv.mo {k a0 a1 a2 a3}:ku (iv.f k a0 a1 a2 a3) (iv.f (k+1) a0 a1 a2 a3):=by have⟨i0,i1⟩:=iv.gF k;unfold iv.f;infer_instance
theorem iv.calls (k:Nat) (a0:Int) (A1:Option Addr) (c1:Nat) (l1:List Int) (a2:Int) (a3:Int) (r:List Int) (w:World) (ar:Kd.C (Kd.int .i64) w A1 l1.length l1) (aH:l1.length≤c1) (h:iv.f k a0 l1 a2 a3=some r):
  Calls Tryz.prog 122 #[.int .i64 a0,.slice A1 l1.length c1,.int .i64 a2,.int .i64 a3] w fun e w'=>∃b6:Value,e= .returned (b6)∧Kd.R (Kd.int .i64) 3 w' w.heap.size (fun _=>True) b6 r∧Below w.heap.size w w':=by
 have ba:=bm ar;have a8:=bm aH;clear ar aH;have HB:=bm (Below.refl w.heap.size w);have H:=h;clear h;unfold iv.f at H;have bb:=bm H;clear H;go_enter Tryz.func122,Tryz.ntmps122;go_upto_if 15 with(fail)
 go_cut [9] (fun v9 wc=>∃(kq:Nat) (ab:Int),v9= .int .i64 ab∧gm (iv.j0 kq l1 ab=some r)∧gm (kq≤k)∧gm (Below w.heap.size w wc))
 case first=>
  have H:=bb.out;clear bb;rcases iT H with⟨c6,H⟩|⟨c6,H⟩
  ·obtain⟨ak,b7⟩:=vl c6;clear c6;(first|rw[ak]|(simp only[i64_w,i32_w];rw[ak])|skip);obtain⟨al,A7,H⟩:=bE H;try dsimp only at H
   have H':=bm H;clear H;go_wp2_with (first|(refine gB (some 19) Tryz.func144 #[.int .i64 a0,.slice A1 l1.length c1,.int .i64 a3] rfl ?_;(with_reducible refine(iO.calls k a0 _ _ l1 a3 al _ ?_ ?_ A7.out).mono ?_);exact cY ba HB;exact a8.out;rintro e _ ⟨rfl,hb⟩;refine⟨_,rfl,?_⟩;replace HB:=bW HB hb;clear hb));go_meet
   case rel=>exact⟨_,(al),(by first|rfl|(simp;done)|(simp[*];done)),H',⟨by first|omega|exact Nat.le_refl _⟩,⟨wZ HB⟩⟩
  ·obtain⟨ak,b7⟩:=vk c6;(first|rw[ak]|(simp only[i64_w,i32_w];rw[ak])|skip);have H':=bm H;clear H;go_wp2;go_meet
   case rel=>exact⟨_,(a3),(by first|rfl|(simp;done)|(simp[*];done)),H',⟨by first|omega|exact Nat.le_refl _⟩,⟨wZ HB⟩⟩
 case rest=>
  clear bb;obtain⟨kq,ab,rfl,HA,aR,HB⟩:=hcut;cases kq with
  |zero=>exact absurd HA.out (by simp[iv.j0])
  |succ sl=>
   have H:=HA.out;clear HA;simp only[iv.j0]at H;obtain⟨aW,aw⟩:∃y_:List Int,y_=(([]:List Int)):=⟨_,rfl⟩;replace H:(iv.l0 sl ab aW l1 (l1.length:Int) 0)=some r:=by first|(rw[aw];exact H)|exact H
   have aJ:=bm aw;clear aw;have H':=bm H;clear H;go_wp2_with (first|((with_reducible refine gate_dst (N:=20) rfl ?_);refine Kd.R_lit (Kd.int .i64) _ 3 ?hg (N:=20) ?hd (xs:=([]:List Int)) (inner:=[]) (ok:=fun _=>True) (okp:=fun _=>True) ?hr ?hp (fun _ hk=>hk) trivial (Below.refl _ _) (Nat.le_refl _) (by simp) ?_;(case hd=>rfl);(case hg=>rfl);(case hr=>first|(go_simp;done)|(go_simp;rfl));(case hp=>exact(Reps.none _ _));intro _ _ au hb cv bc;clear cv bc;(first|rw[←aJ.out]at au|(simp only[Int.reduceToNat]at au;rw[←aJ.out]at au));have bd:=vm au HB;replace HB:=bW HB hb;clear hb au));go_loopg [10,23] sl (fun kq v10 cw w'=>∃(aa:List Int) (j:Int),cw= .int .i64 j∧gm (iv.l0 kq ab aa l1 (l1.length:Int) j=some r)∧gm (kq≤sl)∧gm (Kd.R (Kd.int .i64) 3 w' w.heap.size (fun _=>True) v10 aa)∧gm (Below w.heap.size w w'))
   case atStart=>exact⟨(aW),(0),(by first|rfl|(simp;done)|(simp[*];done)),H',⟨Nat.le_refl _⟩,⟨by(repeat apply Kd.RS);exact bd.out⟩,⟨wZ HB⟩⟩
   case round=>
    clear H';obtain⟨aa,j,rfl,HA,aT,nB,HB⟩:=hrel;cases gk with
    |zero=>exact absurd HA.out (by simp[iv.l0])
    |succ k2=>
     have H:=HA.out;clear HA;simp only[iv.l0]at H;rcases vL H with⟨bf,H⟩|⟨bf,H⟩
     ·obtain⟨cy,H⟩:=vJ H;obtain⟨cz,H⟩:=vJ H;have cA:=vI (jK:0≤j);obtain⟨an,ao⟩:∃j_:Int,(shr .i64 ab j)=j_:=⟨_,rfl⟩;first|rw[ao]at H|simp only[ao]at H
      have cg:(ab/2^min j.toNat 64)=an:=ao;have ch:j≤64→(ab/2^j.toNat)=an:=shr_small ao;rcases iT H with⟨aE,H⟩|⟨aE,H⟩
      ·obtain⟨bg,bh⟩:=vl aE;clear aE;obtain⟨ca,H⟩:=iN H;have bj:=bm ca;clear ca;obtain⟨aY,ax⟩:∃y_:List Int,y_=(aa++ [wrap64 ((rd l1 j)+10)]):=⟨_,rfl⟩;rw[←ax]at H
       have bk:=bm ax;clear ax;have H':=bm H;clear H;have ai:0≤(j:Int):=jK;have aj:j<(l1.length:Int):=jK;obtain⟨bl,aM,J⟩:=Kd.at_int ba.out j ai aj;cases aM;replace J:=vA HB J;replace ai:=vI ai;replace aj:=vI aj;go_wp2_with (first|((with_reducible refine gate_builtin (b:=.append) (xs:= #[.tmp 35,.tmp 37]) rfl ?_);at_builtin;refine Kd.R_append (Kd.int .i64) (w0:=w) w.heap.size rfl (.tmp 35) (.tmp 37) 23 3 (.int .i64 0) 8 rfl Tryz.underlying23 info3 rfl (by decide) (by omega) u10 aa (wrap64 ((rd l1 j)+10)) [.int .i64 (wrap64 ((rd l1 j)+10))] (fun _=>True) (fun _=>False) rfl rfl ?aP (fun _ hk=>hk.elim) ?aF ?aO ?aB ?aS ?aL ?_;(case aP=>exact rfl);(case aB=>exact(wZ HB));(case aF=>exact(fun _ _=>trivial));(case aO=>exact(rS nB));(case aS=>exact(below_size (wZ HB)));(case aL=>have:=bj.out;omega);intro _ _ ho hb hg bn;rw[←bk.out]at ho;replace HB:=bm (hb);have bo:=bm (ho);clear nB;clear ho hb hg bn));go_roundg k2
       case measure=>have:=aR.out;have:=aT.out;omega
       case rel=>exact⟨(aY),(wrap64 (j+1)),(by first|rfl|(simp;done)|(simp[*];done)),H',⟨by have:=aR.out;have:=aT.out;omega⟩,⟨by(repeat apply Kd.RS);exact bo.out⟩,⟨wZ HB⟩⟩
      ·obtain⟨bg,bh⟩:=vk aE;obtain⟨cb,H⟩:=iN H;have bp:=bm cb;clear cb;obtain⟨aZ,ay⟩:∃y_:List Int,y_=(aa++ [rd l1 j]):=⟨_,rfl⟩;rw[←ay]at H
       have bq:=bm ay;clear ay;have H':=bm H;clear H;have ai:0≤(j:Int):=jK;have aj:j<(l1.length:Int):=jK;obtain⟨bl,aM,J⟩:=Kd.at_int ba.out j ai aj;cases aM;replace J:=vA HB J;replace ai:=vI ai;replace aj:=vI aj;go_wp2_with (first|((with_reducible refine gate_builtin (b:=.append) (xs:= #[.tmp 35,.tmp 37]) rfl ?_);at_builtin;refine Kd.R_append (Kd.int .i64) (w0:=w) w.heap.size rfl (.tmp 35) (.tmp 37) 23 3 (.int .i64 0) 8 rfl Tryz.underlying23 info3 rfl (by decide) (by omega) u10 aa (rd l1 j) [.int .i64 (rd l1 j)] (fun _=>True) (fun _=>False) rfl rfl ?aP (fun _ hk=>hk.elim) ?aF ?aO ?aB ?aS ?aL ?_;(case aP=>exact rfl);(case aB=>exact(wZ HB));(case aF=>exact(fun _ _=>trivial));(case aO=>exact(rS nB));(case aS=>exact(below_size (wZ HB)));(case aL=>have:=bp.out;omega);intro _ _ ho hb hg bn;rw[←bq.out]at ho;replace HB:=bm (hb);have br:=bm (ho);clear nB;clear ho hb hg bn));go_roundg k2
       case measure=>have:=aR.out;have:=aT.out;omega
       case rel=>exact⟨(aZ),(wrap64 (j+1)),(by first|rfl|(simp;done)|(simp[*];done)),H',⟨by have:=aR.out;have:=aT.out;omega⟩,⟨by(repeat apply Kd.RS);exact br.out⟩,⟨wZ HB⟩⟩
     ·obtain⟨aI,cB,H⟩:=bE H;try dsimp only at H
      obtain rfl:=vZ H;obtain⟨cc,cd,cf⟩:=Kd.R_slice nB.out;subst cf;go_wp2_with (first|(refine gB (some 41) Tryz.func126 #[.slice cc aa.length cd] rfl ?_;(with_reducible refine(kr.calls k2 _ _ aa aI _ ?_ ?_ cB.out).mono ?_);exact cZ (Kd.R_reads' nB.out).2.2;exact(Kd.R_reads' nB.out).2.1;rintro e _ ⟨_,rfl,bs,hb⟩;refine⟨_,rfl,?_⟩;have bu:=bm (Kd.R_lower (Kd.R_new' bs (Kd.R_lt (rS nB))) (below_size (wZ HB)));replace nB:=bm (Kd.R_elder' (rS nB) (Kd.R_base bs) hb);replace HB:=bW HB hb;clear hb;(try clear bs)));go_ret;exact⟨_,by first|rfl|(simp[*,fM,fN]<;>rfl),by(repeat apply Kd.RS);exact Kd.R_mono bu.out (fun _ hk=>trivial),wZ HB⟩
end Go.Proofs.YtihgpkohglcijaaGreatDoor.P
