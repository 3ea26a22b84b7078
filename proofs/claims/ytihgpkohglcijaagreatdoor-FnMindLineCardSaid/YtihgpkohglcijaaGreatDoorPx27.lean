import Derived.Test.YtihgpkohglcijaaGreatDoorPx0
import Derived.Test.YtihgpkohglcijaaGreatDoorPx2
import Derived.Test.YtihgpkohglcijaaGreatDoorPx3
import Derived.Test.YtihgpkohglcijaaGreatDoorPx4
import Derived.Test.YtihgpkohglcijaaGreatDoorPx12
namespace Go.Proofs.YtihgpkohglcijaaGreatDoor.P
open Go.RowKit YtihgpkohglcijaaGreatDoorW PrintWords PrintLast PrintMore
attribute [local go_sem] max2_int min2_int max_two min_two max_three min_three max_four min_four
set_option linter.unusedVariables false
set_option linter.unusedSimpArgs false
set_option maxHeartbeats 8000000
set_option maxRecDepth 100000
abbrev zj:Array Bool:= #[false,false,false,false,false,false,false,false,false,false,false,false,false]
mutual
def gW.j0:Nat→ByteArray→List (nZ)→Option (Int×ByteArray×Bool)
 |0,_,_=>none
 |k+1,x0,x4=>if(x0.size:Int)>4 then(if 4≤(x0.size:Int)then(if x4.length<5864062014805 then(gW.j1 k x0 (x4++ [(⟨1,x0.extract 4 x0.size⟩:nZ)]))else(none))else(none))else(gW.j1 k x0 x4)
def gW.j1:Nat→ByteArray→List (nZ)→Option (Int×ByteArray×Bool)
 |0,_,_=>none
 |k+1,x0,x4=>gW.l0 k x0 x4 0
def gW.l0:Nat→ByteArray→List (nZ)→Int→Option (Int×ByteArray×Bool)
 |0,_,_,_=>none
 |k+1,x0,x4,x5=>if x5<(x4.length:Int)then(if x0.toList=([]:List UInt8)then(gW.l0 k x0 x4 (wrap64 (x5+1)))else(if 0≤x5 then((iJ.f k ((nH x4 x5).f0) ((nH x4 x5).f1)).bind fun aH=>(if aH.toList=x0.toList then(some ((nH x4 x5).f0,(nH x4 x5).f1,true))else(gW.l0 k x0 x4 (wrap64 (x5+1)))))else(none)))else(some (0,(⟨#[]⟩:ByteArray),false))
end
def gW.f (k:Nat) (a0:ByteArray):Option (Int×ByteArray×Bool):=(some (([(⟨2,(⟨#[]⟩:ByteArray)⟩:nZ)]:List (nZ)):List (nZ))).bind fun ar=>(if(a0.size:Int)>6 then(if 6≤(a0.size:Int)then(if ar.length<5864062014805 then(gW.j0 k a0 (ar++ [(⟨0,a0.extract 6 a0.size⟩:nZ)]))else(none))else(none))else(gW.j0 k a0 ar))
theorem gW.gF:∀k,(∀y0 y1,ku (gW.j0 k y0 y1) (gW.j0 (k+1) y0 y1))∧(∀y0 y1,ku (gW.j1 k y0 y1) (gW.j1 (k+1) y0 y1))∧(∀y0 y1 y2,ku (gW.l0 k y0 y1 y2) (gW.l0 (k+1) y0 y1 y2))
 |0=>⟨fun _ _=> .z (by simp only[gW.j0]),fun _ _=> .z (by simp only[gW.j1]),fun _ _ _=> .z (by simp only[gW.l0])⟩
 |k+1=>by
  have⟨i0,i1,i2⟩:=gW.gF k;exact⟨fun _ _=>by unfold gW.j0;infer_instance,fun _ _=>by unfold gW.j1;infer_instance,fun _ _ _=>by unfold gW.l0;infer_instance⟩
instance gW.mo {k a0}:ku (gW.f k a0) (gW.f (k+1) a0):=by have⟨i0,i1,i2⟩:=gW.gF k;unfold gW.f;infer_instance
theorem gW.calls (k:Nat) (a0:ByteArray) (r1:Int) (r2:ByteArray) (r3:Bool) (w:World) (h:gW.f k a0=some (r1,r2,r3)):
  Calls Tryz.prog 46 #[.string a0] w fun e w'=>e= .returned (.tuple #[.agg #[.int .i64 r1,.string r2],.bool r3])∧Below w.heap.size w w':=by
 have ed:=Tryz.underlying58;have HB:=bm (Below.refl w.heap.size w);have H:=h;clear h;unfold gW.f at H;obtain⟨ar,bk⟩:∃y_:List (nZ),y_=(([(⟨2,(⟨#[]⟩:ByteArray)⟩:nZ)]:List (nZ))):=⟨_,rfl⟩;rw[←bk]at H
 have bB:=bm bk;clear bk;have cm:=bm H;clear H;go_enter Tryz.func46,Tryz.ntmps46;go_upto_if 10 with(first|(refine mK 2 #[.int .i64 0,.string (⟨#[]⟩:ByteArray)] 58 ?_;intro al hg _ cj hb;have ad:=bm (cj);have dw:=bG HB hg;replace HB:=bW HB hb;clear hb cj hg)|((with_reducible refine gate_dst (N:=7) rfl ?_);refine Kd.R_lit yK _ 58 ?hg (N:=7) ?hd (xs:=([(⟨2,(⟨#[]⟩:ByteArray)⟩:nZ)]:List (nZ))) (inner:=[.int .i64 2,.string (⟨#[]⟩:ByteArray)]) (ok:=fun _=>True) (okp:=fun _=>True) ?hr ?hp (fun _ hk=>hk) trivial (Below.refl _ _) (Nat.le_refl _) (by simp) ?_;(case hd=>rfl);(case hg=>rfl);(case hr=>first|(go_simp;done)|(go_simp;rfl));(case hp=>exact(Reps.c2 (show Kd.M yK _ _ _ (⟨2,(⟨#[]⟩:ByteArray)⟩:nZ) [.int .i64 2,.string (⟨#[]⟩:ByteArray)] from(uC _ _ _ (⟨2,(⟨#[]⟩:ByteArray)⟩:nZ))) (Reps.none _ _)));intro cN _ bD hb a8 av;clear a8 av;(first|rw[←bB.out]at bD|(simp only[Int.reduceToNat]at bD;rw[←bB.out]at bD));have ba:=bm (Kd.R_lower (Kd.R_newB bD (g:=al) (o:=.cells #[.int .i64 0,.string (⟨#[]⟩:ByteArray)] 58 (0,0)) (kS ad)) (below_size (wZ HB)));replace ad:=bU ad hb;replace HB:=bW HB hb;clear hb bD))
 (try simp only[Act.put,qA,qB,qC]);go_cut [4] (fun v4 wc=>∃(kq:Nat) (a7:List (nZ)),gm (gW.j0 kq a0 a7=some (r1,r2,r3))∧gm (kq≤k)∧gm (Kd.R yK 58 wc w.heap.size (fun k_=>k_≠al) v4 a7)∧lE wc al #[.int .i64 0,.string (⟨#[]⟩:ByteArray)] 58∧gm (Below w.heap.size w wc))
 case first=>
  have H:=cm.out;clear cm;rcases iT H with⟨c6,H⟩|⟨c6,H⟩
  ·have bc:=vG c6;have cO:decide (6<a0.size)=true:=vG (by omega);clear c6;(first|rw[bc]|(simp only[i64_w,i32_w];rw[bc])|skip);obtain⟨cP,ee,H⟩:=vK H;obtain⟨c8,H⟩:=iN H;have cQ:=bm c8;clear c8;obtain⟨ck,bl⟩:∃y_:List (nZ),y_=(ar++ [(⟨0,a0.extract 6 a0.size⟩:nZ)]):=⟨_,rfl⟩;rw[←bl]at H
   have cn:=bm bl;clear bl;have H':=bm H;clear H;go_wp2_with (first|((with_reducible refine gate_builtin (b:=.append) (xs:= #[.tmp 11,.tmp 15]) rfl ?_);at_builtin;refine Kd.R_append yK (w0:=w) w.heap.size rfl (.tmp 11) (.tmp 15) 50 58 (.agg #[(.int .i64 0),(.string ⟨#[]⟩)]) 24 rfl Tryz.underlying50 yQ rfl (by decide) (by omega) cN ar (⟨0,a0.extract 6 a0.size⟩:nZ) [.int .i64 0,.string (a0.extract 6 a0.size)] (fun k_=>k_≠al) (fun _=>False) rfl rfl ?aP (fun _ hk=>hk.elim) ?aF ?aO ?aB ?aS ?aL ?_;(case aP=>exact uC _ _ _ (⟨0,a0.extract 6 a0.size⟩:nZ));(case aB=>exact(wZ HB));(case aF=>exact(fun k_ hk=>Kd.freshB (g:=al) (o:=.cells #[.int .i64 0,.string (⟨#[]⟩:ByteArray)] 58 (0,0)) (kS ad) k_ hk));(case aO=>exact(by(repeat apply Kd.RS);exact Kd.R_mono ba.out (fun _ hk=>hk.2)));(case aS=>exact(below_size (wZ HB)));(case aL=>have:=cQ.out;omega);intro _ _ ho hb hg cp;rw[←cn.out]at ho;replace ad:=bN ad hg (Kd.R_away ba.out (fun _ hk=>hk.2));replace HB:=bm (hb);have cq:=bm (ho);clear ba;clear ho hb hg cp));go_meet
   case rel=>exact⟨_,(ck),H',⟨by first|omega|exact Nat.le_refl _⟩,⟨by(repeat apply Kd.RS);exact cq.out⟩,⟨kS ad⟩,⟨wZ HB⟩⟩
  ·have bc:=vB c6;have cO:decide (6<a0.size)=false:=vB (by omega);clear c6;(first|rw[bc]|(simp only[i64_w,i32_w];rw[bc])|skip);have H':=bm H;clear H;go_wp2;go_meet
   case rel=>exact⟨_,(ar),H',⟨by first|omega|exact Nat.le_refl _⟩,⟨by(repeat apply Kd.RS);exact Kd.R_mono ba.out (fun _ hk=>hk.2)⟩,⟨kS ad⟩,⟨wZ HB⟩⟩
 case rest=>
  clear cm;obtain⟨kq,a7,HA,bx,oD,ad,HB⟩:=hcut;cases kq with
  |zero=>exact absurd HA.out (by simp[gW.j0])
  |succ Fh=>
   have H:=HA.out;clear HA;simp only[gW.j0]at H;have bF:=bm H;clear H;go_upto_if 19 with(fail)
   go_cut [4] (fun v4 wc=>∃(kq:Nat) (au:List (nZ)),gm (gW.j1 kq a0 au=some (r1,r2,r3))∧gm (kq≤Fh)∧gm (Kd.R yK 58 wc w.heap.size (fun k_=>k_≠al) v4 au)∧lE wc al #[.int .i64 0,.string (⟨#[]⟩:ByteArray)] 58∧gm (Below w.heap.size w wc))
   case first=>
    have H:=bF.out;clear bF;rcases iT H with⟨aI,H⟩|⟨aI,H⟩
    ·have az:=vG aI;have bn:decide (4<a0.size)=true:=vG (by omega);clear aI;(first|rw[az]|(simp only[i64_w,i32_w];rw[az])|skip);obtain⟨dx,dy,H⟩:=vK H;obtain⟨cR,H⟩:=iN H;have ct:=bm cR;clear cR;obtain⟨cl,bo⟩:∃y_:List (nZ),y_=(a7++ [(⟨1,a0.extract 4 a0.size⟩:nZ)]):=⟨_,rfl⟩;rw[←bo]at H
     have cu:=bm bo;clear bo;have H':=bm H;clear H;go_wp2_with (first|((with_reducible refine gate_builtin (b:=.append) (xs:= #[.tmp 20,.tmp 24]) rfl ?_);at_builtin;refine Kd.R_append yK (w0:=w) w.heap.size rfl (.tmp 20) (.tmp 24) 50 58 (.agg #[(.int .i64 0),(.string ⟨#[]⟩)]) 24 rfl Tryz.underlying50 yQ rfl (by decide) (by omega) u4 a7 (⟨1,a0.extract 4 a0.size⟩:nZ) [.int .i64 1,.string (a0.extract 4 a0.size)] (fun k_=>k_≠al) (fun _=>False) rfl rfl ?aP (fun _ hk=>hk.elim) ?aF ?aO ?aB ?aS ?aL ?_;(case aP=>exact uC _ _ _ (⟨1,a0.extract 4 a0.size⟩:nZ));(case aB=>exact(wZ HB));(case aF=>exact(fun k_ hk=>Kd.freshB (g:=al) (o:=.cells #[.int .i64 0,.string (⟨#[]⟩:ByteArray)] 58 (0,0)) (kS ad) k_ hk));(case aO=>exact(rS oD));(case aS=>exact(below_size (wZ HB)));(case aL=>have:=ct.out;omega);intro _ _ ho hb hg cp;rw[←cu.out]at ho;replace ad:=bN ad hg (Kd.R_away oD.out (fun _ hk=>hk));replace HB:=bm (hb);have cv:=bm (ho);clear oD;clear ho hb hg cp));go_meet
     case rel=>exact⟨_,(cl),H',⟨by have:=bx.out;first|omega|exact Nat.le_refl _⟩,⟨by(repeat apply Kd.RS);exact cv.out⟩,⟨kS ad⟩,⟨wZ HB⟩⟩
    ·have az:=vB aI;have bn:decide (4<a0.size)=false:=vB (by omega);clear aI;(first|rw[az]|(simp only[i64_w,i32_w];rw[az])|skip);have H':=bm H;clear H;go_wp2;go_meet
     case rel=>exact⟨_,(a7),H',⟨by have:=bx.out;first|omega|exact Nat.le_refl _⟩,⟨by(repeat apply Kd.RS);exact oD.out⟩,⟨kS ad⟩,⟨wZ HB⟩⟩
   case rest=>
    clear bF;obtain⟨kq,au,HA,ca,oD,ad,HB⟩:=hcut;cases kq with
    |zero=>exact absurd HA.out (by simp[gW.j1])
    |succ Fl=>
     have H:=HA.out;clear HA;simp only[gW.j1]at H;have H':=bm H;clear H;go_wp2;go_loopg [5] Fl (fun kq v5 w'=>∃(ak:Int) (aw:Int) (ax:ByteArray),v5= .int .i64 ak∧gm (gW.l0 kq a0 au ak=some (r1,r2,r3))∧gm (kq≤Fl)∧gm (Kd.R yK 58 w' w.heap.size (fun k_=>k_≠al) u4 au)∧gm (w'.heap[al]?=some (.cells #[.int .i64 aw,.string ax] 58 (0,0)))∧gm (Below w.heap.size w w'))
     case atStart=>exact⟨(0),(0),((⟨#[]⟩:ByteArray)),(by first|rfl|(simp;done)|(simp[*];done)),H',⟨Nat.le_refl _⟩,⟨by(repeat apply Kd.RS);exact oD.out⟩,⟨kS ad⟩,⟨wZ HB⟩⟩
     case round=>
      clear H';obtain⟨ak,aw,ax,rfl,HA,cb,oD,ad,HB⟩:=hrel;cases gk with
      |zero=>exact absurd HA.out (by simp[gW.l0])
      |succ k3=>
       have H:=HA.out;clear HA;simp only[gW.l0]at H;rcases vL H with⟨cw,H⟩|⟨cw,H⟩
       ·rcases iT H with⟨bz,H⟩|⟨bz,H⟩
        ·obtain⟨cx,cy⟩:=vl bz;clear bz;have H':=bm H;clear H;obtain⟨eh,ei,cS⟩:=Kd.R_slice oD.out;subst cS;go_wp2;go_roundg k3
         case measure=>have:=bx.out;have:=ca.out;have:=cb.out;omega
         case rel=>exact⟨(wrap64 (ak+1)),(aw),(ax),(by first|rfl|(simp;done)|(simp[*];done)),H',⟨by have:=bx.out;have:=ca.out;have:=cb.out;omega⟩,⟨by(repeat apply Kd.RS);exact oD.out⟩,⟨kS ad⟩,⟨wZ HB⟩⟩
        ·obtain⟨cx,cy⟩:=vk bz;obtain⟨dz,H⟩:=vJ H;obtain⟨aH,cU,H⟩:=bE H;try dsimp only at H
         rcases iT H with⟨bA,H⟩|⟨bA,H⟩
         ·obtain⟨cz,cA⟩:=vl bA;clear bA;obtain⟨rfl,rfl,rfl⟩:=s3 H;obtain⟨ej,cV,bJ⟩:=Kd.R_slice oD.out;subst bJ;have aJ:0≤(ak:Int):=jK;have aK:ak<(au.length:Int):=jK;obtain⟨bO,bT,bV,bZ⟩:=wN (Kd.R_reads' oD.out).2.2 ak aJ aK;cases bT;replace aJ:=vI aJ;replace aK:=vI aK;go_wp2_with (first|(go_at_call 95;(with_reducible refine(iJ.calls k3 ((nH au ak).f0) ((nH au ak).f1) aH _ cU.out).mono ?_);rintro e _ ⟨rfl,hb⟩;replace oD:=bR oD hb;replace ad:=bU ad hb;replace HB:=bW HB hb;clear hb;have b0:0≤(ak:Int):=jK;have b1:ak<(au.length:Int):=jK;obtain⟨cB,cW,cX,c0⟩:=wN (Kd.R_reads' oD.out).2.2 ak b0 b1;obtain rfl:bO=cB:=(by injection cW);replace b0:=vI b0;replace b1:=vI b1;obtain⟨_,_,_,_⟩:=b2 ad));refine bodyPost_ret (results_ct rfl _ _ al 58 #[.int .i64 ((nH au ak).f0),.string ((nH au ak).f1)] (0,0) _ rfl (kP ad) Tryz.underlying58 rfl (by kernel_rfl)) rfl ?_;exact vo HB
         ·obtain⟨cz,cA⟩:=vk bA;have H':=bm H;clear H;obtain⟨ek,el,de⟩:=Kd.R_slice oD.out;subst de;have aJ:0≤(ak:Int):=jK;have aK:ak<(au.length:Int):=jK;obtain⟨bO,bT,bV,bZ⟩:=wN (Kd.R_reads' oD.out).2.2 ak aJ aK;cases bT;replace aJ:=vI aJ;replace aK:=vI aK;go_wp2_with (first|(go_at_call 95;(with_reducible refine(iJ.calls k3 ((nH au ak).f0) ((nH au ak).f1) aH _ cU.out).mono ?_);rintro e _ ⟨rfl,hb⟩;replace oD:=bR oD hb;replace ad:=bU ad hb;replace HB:=bW HB hb;clear hb));go_roundg k3
          case measure=>have:=bx.out;have:=ca.out;have:=cb.out;omega
          case rel=>exact⟨(wrap64 (ak+1)),(aw),(ax),(by first|rfl|(simp;done)|(simp[*];done)),H',⟨by have:=bx.out;have:=ca.out;have:=cb.out;omega⟩,⟨by(repeat apply Kd.RS);exact oD.out⟩,⟨kS ad⟩,⟨wZ HB⟩⟩
       ·obtain⟨rfl,rfl,rfl⟩:=s3 H;obtain⟨en,eo,df⟩:=Kd.R_slice oD.out;subst df;obtain⟨_,_,_,_⟩:=b2 ad;go_wp2;refine bodyPost_ret (results_ct rfl _ _ al 58 #[.int .i64 0,.string (⟨#[]⟩:ByteArray)] (0,0) _ rfl (kP ad) Tryz.underlying58 rfl (by kernel_rfl)) rfl ?_;exact vo HB
def lI.f (k:Nat) (a0:Int) (l1:List Int):Option (Int):=(gY.f k a0 l1).bind fun bd=>(if bd=true then((kG.f a0).bind fun aM=>((iy.f k l1 aM).bind fun bf=>(some bf)))else(some (-1)))
instance lI.mo {k a0 a1}:ku (lI.f k a0 a1) (lI.f (k+1) a0 a1):=by unfold lI.f;infer_instance
theorem lI.calls (k:Nat) (a0:Int) (A1:Option Addr) (c1:Nat) (l1:List Int) (r:Int) (w:World) (dm:Kd.C (Kd.int .i64) w A1 l1.length l1) (dn:l1.length≤c1) (h:lI.f k a0 l1=some r):
  Calls Tryz.prog 48 #[.int .i64 a0,.slice A1 l1.length c1] w fun e w'=>e= .returned (.int .i64 r)∧Below w.heap.size w w':=by
 have cC:=bm dm;have cD:=bm dn;clear dm dn;have HB:=bm (Below.refl w.heap.size w);have H:=h;clear h;unfold lI.f at H;obtain⟨bd,A3,H⟩:=bE H;try dsimp only at H
 by_cases c4:bd=true
 ·subst c4;rw[if_pos rfl]at H;obtain⟨aM,A5,H⟩:=bE H;try dsimp only at H
  obtain⟨bf,A6,H⟩:=bE H;try dsimp only at H
  obtain rfl:=vZ H;go_enter Tryz.func48,Tryz.ntmps48;go_wp2_with (first|(refine gB (some 7) Tryz.func103 #[.int .i64 a0,.slice A1 l1.length c1] rfl ?_;(with_reducible refine(gY.calls k a0 _ _ l1 true _ ?_ ?_ A3.out).mono ?_);exact cZ cC.out;exact cD.out;rintro e _ ⟨rfl,hb⟩;refine⟨_,rfl,?_⟩;replace HB:=bW HB hb;clear hb)|(refine gB (some 11) Tryz.func105 #[.int .i64 a0] rfl ?_;(with_reducible refine(kG.calls a0 aM _ A5.out).mono ?_);rintro e w' ⟨rfl,⟨nd,rfl⟩⟩;refine⟨_,rfl,?_⟩)|(refine gB (some 12) Tryz.func104 #[.slice A1 l1.length c1,.int .i64 aM] rfl ?_;(with_reducible refine(iy.calls k _ _ l1 aM bf _ ?_ ?_ A6.out).mono ?_);exact cZ (Kd.C_below cC.out (wZ HB));exact cD.out;rintro e _ ⟨rfl,hb⟩;refine⟨_,rfl,?_⟩;replace HB:=bW HB hb;clear hb));go_ret;exact vo HB
 ·replace c4:=uZ c4;subst c4;rw[if_neg vR]at H;obtain rfl:=vZ H;go_enter Tryz.func48,Tryz.ntmps48;go_wp2_with (first|(refine gB (some 7) Tryz.func103 #[.int .i64 a0,.slice A1 l1.length c1] rfl ?_;(with_reducible refine(gY.calls k a0 _ _ l1 false _ ?_ ?_ A3.out).mono ?_);exact cZ cC.out;exact cD.out;rintro e _ ⟨rfl,hb⟩;refine⟨_,rfl,?_⟩;replace HB:=bW HB hb;clear hb));go_ret;exact vo HB
def jc.l0:Nat→Int→ByteArray→Int→Option (ByteArray)
 |0,_,_,_=>none
 |k+1,x1,x5,x6=>if x6≥0 then((some (([(⟨#[33]⟩:ByteArray),(⟨#[]⟩:ByteArray)]:List ByteArray):List ByteArray)).bind fun aa=>(if 0≤x6 then(if 0≤(Int.tmod (shr .i64 x1 x6) 2)then(if(Int.tmod (shr .i64 x1 x6) 2)<(aa.length:Int)then((some (([(⟨#[97]⟩:ByteArray),(⟨#[98]⟩:ByteArray),(⟨#[99]⟩:ByteArray)]:List ByteArray):List ByteArray)).bind fun ab=>(if x6<(ab.length:Int)then(if(rdOf ByteArray.empty aa (Int.tmod (shr .i64 x1 x6) 2)).size+(rdOf ByteArray.empty ab x6).size≤9223372036854775807 then(if x5.toList=([]:List UInt8)then(jc.l0 k x1 ((rdOf ByteArray.empty aa (Int.tmod (shr .i64 x1 x6) 2))++(rdOf ByteArray.empty ab x6)) (wrap64 (x6 - 1)))else(if 1+((rdOf ByteArray.empty aa (Int.tmod (shr .i64 x1 x6) 2))++(rdOf ByteArray.empty ab x6)).size≤9223372036854775807 then(if((⟨#[40]⟩:ByteArray)++((rdOf ByteArray.empty aa (Int.tmod (shr .i64 x1 x6) 2))++(rdOf ByteArray.empty ab x6))).size+1≤9223372036854775807 then(if(((⟨#[40]⟩:ByteArray)++((rdOf ByteArray.empty aa (Int.tmod (shr .i64 x1 x6) 2))++(rdOf ByteArray.empty ab x6)))++(⟨#[38]⟩:ByteArray)).size+x5.size≤9223372036854775807 then(if((((⟨#[40]⟩:ByteArray)++((rdOf ByteArray.empty aa (Int.tmod (shr .i64 x1 x6) 2))++(rdOf ByteArray.empty ab x6)))++(⟨#[38]⟩:ByteArray))++x5).size+1≤9223372036854775807 then(jc.l0 k x1 (((((⟨#[40]⟩:ByteArray)++((rdOf ByteArray.empty aa (Int.tmod (shr .i64 x1 x6) 2))++(rdOf ByteArray.empty ab x6)))++(⟨#[38]⟩:ByteArray))++x5)++(⟨#[41]⟩:ByteArray)) (wrap64 (x6 - 1)))else(none))else(none))else(none))else(none)))else(none))else(none)))else(none))else(none))else(none)))else(some x5)
def jc.f (k:Nat) (a0:Int) (a1:Int):Option (ByteArray):=jc.l0 k a1 (⟨#[]⟩:ByteArray) (wrap64 (a0 - 1))
theorem jc.gF:∀k,(∀y0 y1 y2,ku (jc.l0 k y0 y1 y2) (jc.l0 (k+1) y0 y1 y2))
 |0=>fun _ _ _=> .z (by simp only[jc.l0])
 |k+1=>by
  have i0:=jc.gF k;exact fun _ _ _=>by unfold jc.l0;infer_instance
instance jc.mo {k a0 a1}:ku (jc.f k a0 a1) (jc.f (k+1) a0 a1):=by have i0:=jc.gF k;unfold jc.f;infer_instance
def jc.T5:Bool×List (List Nat×List Nat):=(true,[([],[]),([],[]),([],[]),([1,2],[1,2]),([3],[3]),([0,4],[0,4]),([5],[5]),([],[]),([],[]),([7,8],[7,8]),([9],[9]),([6,10],[6,10]),([11,0,1,2,3,4,5,6,7,8,9,10,11],[11])])
def jc.B5:List Nat:=[0,0,0,6,14,31,63,0,0,384,896,2047,4095]
theorem jc.wg:rtab .any (opsOf Tryz.f108 5)=jc.T5:=by kernel_rfl
theorem jc.rU:waitsOk jc.T5.2 jc.B5=true:=by kernel_rfl
theorem jc.calls (k:Nat) (a0:Int) (a1:Int) (r:ByteArray) (w:World) (h:jc.f k a0 a1=some r):
  Calls Tryz.prog 108 #[.int .i64 a0,.int .i64 a1] w fun e w'=>e= .returned (.string r)∧Below w.heap.size w w':=by
 have HB:=bm (Below.refl w.heap.size w);have H:=h;clear h;unfold jc.f at H;have H':=bm H;clear H;go_enter Tryz.func108,Tryz.ntmps108;go_wp2;go_loopg [5,6] k (fun kq v5 v6 w'=>∃(ay:ByteArray) (j:Int),v5= .string ay∧v6= .int .i64 j∧gm (jc.l0 kq a1 ay j=some r)∧gm (kq≤k)∧gm (Below w.heap.size w w'))
 case atStart=>exact⟨((⟨#[]⟩:ByteArray)),(wrap64 (a0 - 1)),(by first|rfl|(simp;done)|(simp[*];done)),(by first|rfl|(simp;done)|(simp[*];done)),H',⟨Nat.le_refl _⟩,⟨wZ HB⟩⟩
 case round=>
  clear H';obtain⟨ay,j,rfl,rfl,HA,cc,HB⟩:=hrel;cases gk with
  |zero=>exact absurd HA.out (by simp[jc.l0])
  |succ k1=>
   have H:=HA.out;clear HA;simp only[jc.l0]at H;rcases vL H with⟨dp,H⟩|⟨dp,H⟩
   ·obtain⟨aa,aE,H⟩:=bY H;obtain⟨ep,er,H⟩:=vK H;obtain⟨aN,bu⟩:∃j_:Int,(shr .i64 a1 j)=j_:=⟨_,rfl⟩;first|rw[bu]at H|simp only[bu]at H
    have dA:(a1/2^min j.toNat 64)=aN:=bu;have dB:j≤64→(a1/2^j.toNat)=aN:=shr_small bu;obtain⟨ae,bw⟩:∃j_:Int,(Int.tmod (aN) 2)=j_:=⟨_,rfl⟩;first|rw[bw]at H|simp only[bw]at H
    obtain⟨cP,H⟩:=vJ H;obtain⟨et,H⟩:=vJ H;obtain⟨ab,aG,H⟩:=bY H;obtain⟨eu,H⟩:=vJ H;obtain⟨c10,H⟩:=iN H;have dC:=vI c10;have dD:=vG c10;try have dE:(9223372036854775807<(rdOf ByteArray.empty aa (ae)).size+(rdOf ByteArray.empty ab j).size)=False:=eq_false (Nat.not_lt.2 c10)
    rcases iT H with⟨aI,H⟩|⟨aI,H⟩
    ·obtain⟨az,bn⟩:=vl aI;clear aI;have H':=bm H;clear H;try go_wp2
     have bp:(0≤((ae):Int))=True:=vI (jK);have bq:((ae)<(aa.length:Int))=True:=vI (jK);have br:(0≤(j:Int))=True:=vI (jK);have bs:(j<(ab.length:Int))=True:=vI (jK);replace HB:=vH HB;refine start_ (n:=13) (S:=fun w'=>True) (ds:=[]) zj (by kernel_rfl) rfl rfl trivial (fun hHeld=>?_);refine with_tabW jc.wg jc.rU (fun bb cE=>?_);generalize wr.drew=eC at HB hHeld⊢;refine pA 1 15 bb ?_ ?_ ?_ ?_ (pA 2 16 bb ?_ ?_ ?_ ?_ (pA 8 22 bb ?_ ?_ ?_ ?_ ?_))
     all_goals first|(intro w';go_simp;with_reducible rfl)|(simp only[Act.put,qA,qB,qC,i64_w,i32_w];rfl)|skip
     refine inv_at [0,3,4,5,6,7,9,10,11,12] (fun cF b a w'=>∃(I:Value) (jz:Addr) (J:Value) (jA:Addr) (af:Value) (ag:Value),a=putSel cF b [(0,14,I),(3,17,.int .i64 aN),(4,18,.int .i64 ae),(5,19,af),(6,20,.string (rdOf ByteArray.empty aa (ae))),(7,21,J),(9,23,ag),(10,24,.string (rdOf ByteArray.empty ab j)),(11,25,.string ((rdOf ByteArray.empty aa (ae))++(rdOf ByteArray.empty ab j))),(12,7,.string ((rdOf ByteArray.empty aa (ae))++(rdOf ByteArray.empty ab j)))]∧(Below w.heap.size w w')∧(b 0=true→Kd.R Kd.string 9 w' w.heap.size (fun _=>True) I aa)∧(b 0=true→∃c_,(I:Value)= .slice (some jz) aa.length c_)∧(b 7=true→Kd.R Kd.string 9 w' w.heap.size (fun _=>True) J ab)∧(b 7=true→∃c_,(J:Value)= .slice (some jA) ab.length c_)∧(b 5=true→(af:Value)= .pointer (some (jz.add ((ae)).toNat)))∧(b 9=true→(ag:Value)= .pointer (some (jA.add (j).toNat)))) bb.out cE.out (by kernel_rfl) (by kernel_rfl) ?_ ?_ ?_
     ·exact⟨.bool false,⟨0,0,none⟩,.bool false,⟨0,0,none⟩,.bool false,.bool false,by simp only[putSel,Bool.false_eq_true,if_false],HB.out,fun h_=>absurd h_ (by decide),fun h_=>absurd h_ (by decide),fun h_=>absurd h_ (by decide),fun h_=>absurd h_ (by decide),fun h_=>absurd h_ (by decide),fun h_=>absurd h_ (by decide)⟩
     ·skip;clear HB;refine steps_cons ?_ ?_
      ·rintro b a w' ⟨I,jz,J,jA,af,ag,ha,kR,jI,iS,jJ,iU,mr,lO⟩ nS hon hoff;refine⟨_,rfl,fun K hK=>?_⟩;replace ha:=bm ha;have HB:=bm kR;refine Kd.R_lit_step Kd.string _ 9 ?hg (N:=14) ?hd (xs:=([(⟨#[33]⟩:ByteArray),(⟨#[]⟩:ByteArray)]:List ByteArray)) (inner:=[.string (⟨#[33]⟩:ByteArray),.string (⟨#[]⟩:ByteArray)]) (ok:=fun _=>True) (okp:=fun _=>True) ?hr ?hp (fun _ hk=>hk) trivial (Below.refl _ _) (Nat.le_refl _) (by simp) ?_;(case hd=>rfl);(case hg=>rfl);(case hr=>first|(go_simp;done)|(go_simp;rfl));(case hp=>exact(Reps.one (show Kd.M Kd.string _ _ _ (⟨#[33]⟩:ByteArray) [.string (⟨#[33]⟩:ByteArray)] from rfl) (Reps.one (show Kd.M Kd.string _ _ _ (⟨#[]⟩:ByteArray) [.string (⟨#[]⟩:ByteArray)] from rfl) (Reps.none _ _))));intro I cG ao hb a8 av;clear a8 av;(first|rw[←aE.out]at ao|(simp only[Int.reduceToNat]at ao;rw[←aE.out]at ao));have aQ:=vm ao HB;have aR:=bW HB hb;have uM:=fun(an:b 7=true)=>(show Kd.R Kd.string 9 cG w.heap.size (fun _=>True) J ab from by first|exact(Kd.R_elder' (by(repeat apply Kd.RS);exact(jJ an)) (Kd.R_base ao) hb)|exact Kd.R_mono (Kd.R_elder' (by(repeat apply Kd.RS);exact(jJ an)) (Kd.R_base ao) hb) (fun _ h_=>by first|trivial|exact h_|exact h_.1))
       clear HB;have ah:=aQ;have HB:=aR;clear aQ aR hb ao;obtain⟨dq,b4,b5⟩:=Kd.R_slice ah.out;subst b5;obtain⟨aT,b6,_⟩:=Kd.at_string (Kd.R_reads' ah.out).2.2 0 (by decide) (by rw[aE.out];simp);cases b6;refine hK.out _ _ ⟨.slice (some aT) aa.length b4,aT,J,jA,af,ag,(by rw[ha.out];exact putSel_upk 0 nS rfl rfl rfl),(wZ HB),fun _=>(rS ah),fun _=>⟨_,rfl⟩,uM,iU,fun an=>absurd ((hoff 5 (by kernel_rfl)).symm.trans an) (by decide),lO⟩
      refine steps_cons ?_ ?_
      ·rintro b a w' ⟨I,jz,J,jA,af,ag,ha,kR,jI,iS,jJ,iU,mr,lO⟩ nS hon hoff;refine⟨_,rfl,fun K hK=>?_⟩;have dF:a.tmps[15]?=some (.int .i64 a1):=by rw[ha];exact(putSel_off rfl).trans rfl
       have dG:a.tmps[16]?=some (.int .i64 j):=by rw[ha];exact(putSel_off rfl).trans rfl
       replace ha:=bm ha;have HB:=bm kR;refine value_ (w1:=w') (v:=.int .i64 aN) (by rfl) rfl ?_ ?_
       ·go_simp;(try simp only[i64_w]);try rfl
       refine hK.out _ _ ⟨I,jz,J,jA,af,ag,(by rw[ha.out];exact putSel_upk 1 nS rfl rfl rfl),kR,jI,iS,jJ,iU,fun an=>absurd ((hoff 5 (by kernel_rfl)).symm.trans an) (by decide),lO⟩
      refine steps_cons ?_ ?_
      ·rintro b a w' ⟨I,jz,J,jA,af,ag,ha,kR,jI,iS,jJ,iU,mr,lO⟩ nS hon hoff;refine⟨_,rfl,fun K hK=>?_⟩;have dH:a.tmps[17]?=some (.int .i64 aN):=by rw[ha];exact putSel_on (e:=(3,17,.int .i64 aN)) 1 rfl rfl (hon 3 (by kernel_rfl)) rfl
       replace ha:=bm ha;have HB:=bm kR;refine value_ (w1:=w') (v:=.int .i64 ae) (by rfl) rfl ?_ ?_
       ·go_simp;(try simp only[i64_w]);try rfl
       refine hK.out _ _ ⟨I,jz,J,jA,af,ag,(by rw[ha.out];exact putSel_upk 2 nS rfl rfl rfl),kR,jI,iS,jJ,iU,fun an=>absurd ((hoff 5 (by kernel_rfl)).symm.trans an) (by decide),lO⟩
      refine steps_cons ?_ ?_
      ·rintro b a w' ⟨I,jz,J,jA,af,ag,ha,kR,jI,iS,jJ,iU,mr,lO⟩ nS hon hoff;refine⟨_,rfl,fun K hK=>?_⟩;have cH:a.tmps[14]?=some (I):=by rw[ha];exact putSel_on (e:=(0,14,I)) 0 rfl rfl (hon 0 (by kernel_rfl)) rfl
       have dI:a.tmps[18]?=some (.int .i64 ae):=by rw[ha];exact putSel_on (e:=(4,18,.int .i64 ae)) 2 rfl rfl (hon 4 (by kernel_rfl)) rfl
       replace ha:=bm ha;have HB:=bm kR;have ah:=bm (jI (hon 0 (by kernel_rfl)));have my:=bm (iS (hon 0 (by kernel_rfl)));obtain⟨c_,aA⟩:=my.out;rw[aA]at cH;refine value_ (w1:=w') (v:=.pointer (some (jz.add ((ae)).toNat))) (by rfl) rfl ?_ ?_
       ·go_simp;(try simp only[i64_w]);try rfl
       refine hK.out _ _ ⟨I,jz,J,jA,(.pointer (some (jz.add ((ae)).toNat))),ag,(by rw[ha.out];exact putSel_upk 3 nS rfl rfl rfl),kR,jI,iS,jJ,iU,fun _=>rfl,lO⟩
      refine steps_cons ?_ ?_
      ·rintro b a w' ⟨I,jz,J,jA,af,ag,ha,kR,jI,iS,jJ,iU,mr,lO⟩ nS hon hoff;refine⟨_,rfl,fun K hK=>?_⟩;have cI:a.tmps[19]?=some (af):=by rw[ha];exact putSel_on (e:=(5,19,af)) 3 rfl rfl (hon 5 (by kernel_rfl)) rfl
       rw[mr (hon 5 (by kernel_rfl))]at cI;replace ha:=bm ha;have HB:=bm kR;have ah:=bm (jI (hon 0 (by kernel_rfl)));have my:=bm (iS (hon 0 (by kernel_rfl)));obtain⟨c_,aA⟩:=my.out;have xM:=ah.out;rw[aA]at xM;obtain⟨DY,qo,cJ⟩:=Kd.at_string (Kd.R_reads' xM).2.2 (ae) (of_eq_true bp) (of_eq_true bq);cases qo;refine value_ (w1:=w') (v:=.string (rdOf ByteArray.empty aa (ae))) (by rfl) rfl ?_ ?_
       ·go_simp;(try simp only[i64_w]);try rfl
       refine hK.out _ _ ⟨I,jz,J,jA,af,ag,(by rw[ha.out];exact putSel_upk 4 nS rfl rfl rfl),kR,jI,iS,jJ,iU,mr,lO⟩
      refine steps_cons ?_ ?_
      ·rintro b a w' ⟨I,jz,J,jA,af,ag,ha,kR,jI,iS,jJ,iU,mr,lO⟩ nS hon hoff;refine⟨_,rfl,fun K hK=>?_⟩;replace ha:=bm ha;have HB:=bm kR;refine Kd.R_lit_step Kd.string _ 9 ?hg (N:=21) ?hd (xs:=([(⟨#[97]⟩:ByteArray),(⟨#[98]⟩:ByteArray),(⟨#[99]⟩:ByteArray)]:List ByteArray)) (inner:=[.string (⟨#[97]⟩:ByteArray),.string (⟨#[98]⟩:ByteArray),.string (⟨#[99]⟩:ByteArray)]) (ok:=fun _=>True) (okp:=fun _=>True) ?hr ?hp (fun _ hk=>hk) trivial (Below.refl _ _) (Nat.le_refl _) (by simp) ?_;(case hd=>rfl);(case hg=>rfl);(case hr=>first|(go_simp;done)|(go_simp;rfl));(case hp=>exact(Reps.one (show Kd.M Kd.string _ _ _ (⟨#[97]⟩:ByteArray) [.string (⟨#[97]⟩:ByteArray)] from rfl) (Reps.one (show Kd.M Kd.string _ _ _ (⟨#[98]⟩:ByteArray) [.string (⟨#[98]⟩:ByteArray)] from rfl) (Reps.one (show Kd.M Kd.string _ _ _ (⟨#[99]⟩:ByteArray) [.string (⟨#[99]⟩:ByteArray)] from rfl) (Reps.none _ _)))));intro J cG ao hb a8 av;clear a8 av;(first|rw[←aG.out]at ao|(simp only[Int.reduceToNat]at ao;rw[←aG.out]at ao));have aQ:=vm ao HB;have aR:=bW HB hb;have uN:=fun(an:b 0=true)=>(show Kd.R Kd.string 9 cG w.heap.size (fun _=>True) I aa from by first|exact(Kd.R_elder' (by(repeat apply Kd.RS);exact(jI an)) (Kd.R_base ao) hb)|exact Kd.R_mono (Kd.R_elder' (by(repeat apply Kd.RS);exact(jI an)) (Kd.R_base ao) hb) (fun _ h_=>by first|trivial|exact h_|exact h_.1))
       clear HB;have ai:=aQ;have HB:=aR;clear aQ aR hb ao;obtain⟨dq,b4,b5⟩:=Kd.R_slice ai.out;subst b5;obtain⟨aT,b6,_⟩:=Kd.at_string (Kd.R_reads' ai.out).2.2 0 (by decide) (by rw[aG.out];simp);cases b6;refine hK.out _ _ ⟨I,jz,.slice (some aT) ab.length b4,aT,af,ag,(by rw[ha.out];exact putSel_upk 5 nS rfl rfl rfl),(wZ HB),uN,iS,fun _=>(rS ai),fun _=>⟨_,rfl⟩,mr,fun an=>absurd ((hoff 9 (by kernel_rfl)).symm.trans an) (by decide)⟩
      refine steps_cons ?_ ?_
      ·rintro b a w' ⟨I,jz,J,jA,af,ag,ha,kR,jI,iS,jJ,iU,mr,lO⟩ nS hon hoff;refine⟨_,rfl,fun K hK=>?_⟩;have cK:a.tmps[21]?=some (J):=by rw[ha];exact putSel_on (e:=(7,21,J)) 5 rfl rfl (hon 7 (by kernel_rfl)) rfl
       have dJ:a.tmps[22]?=some (.int .i64 j):=by rw[ha];exact(putSel_off rfl).trans rfl
       replace ha:=bm ha;have HB:=bm kR;have ai:=bm (jJ (hon 7 (by kernel_rfl)));have mz:=bm (iU (hon 7 (by kernel_rfl)));obtain⟨c_,aA⟩:=mz.out;rw[aA]at cK;refine value_ (w1:=w') (v:=.pointer (some (jA.add (j).toNat))) (by rfl) rfl ?_ ?_
       ·go_simp;(try simp only[i64_w]);try rfl
       refine hK.out _ _ ⟨I,jz,J,jA,af,(.pointer (some (jA.add (j).toNat))),(by rw[ha.out];exact putSel_upk 6 nS rfl rfl rfl),kR,jI,iS,jJ,iU,mr,fun _=>rfl⟩
      refine steps_cons ?_ ?_
      ·rintro b a w' ⟨I,jz,J,jA,af,ag,ha,kR,jI,iS,jJ,iU,mr,lO⟩ nS hon hoff;refine⟨_,rfl,fun K hK=>?_⟩;have cL:a.tmps[23]?=some (ag):=by rw[ha];exact putSel_on (e:=(9,23,ag)) 6 rfl rfl (hon 9 (by kernel_rfl)) rfl
       rw[lO (hon 9 (by kernel_rfl))]at cL;replace ha:=bm ha;have HB:=bm kR;have ai:=bm (jJ (hon 7 (by kernel_rfl)));have mz:=bm (iU (hon 7 (by kernel_rfl)));obtain⟨c_,aA⟩:=mz.out;have xM:=ai.out;rw[aA]at xM;obtain⟨DY,qo,cJ⟩:=Kd.at_string (Kd.R_reads' xM).2.2 j (of_eq_true br) (of_eq_true bs);cases qo;refine value_ (w1:=w') (v:=.string (rdOf ByteArray.empty ab j)) (by rfl) rfl ?_ ?_
       ·go_simp;(try simp only[i64_w]);try rfl
       refine hK.out _ _ ⟨I,jz,J,jA,af,ag,(by rw[ha.out];exact putSel_upk 7 nS rfl rfl rfl),kR,jI,iS,jJ,iU,mr,lO⟩
      refine steps_cons ?_ ?_
      ·rintro b a w' ⟨I,jz,J,jA,af,ag,ha,kR,jI,iS,jJ,iU,mr,lO⟩ nS hon hoff;refine⟨_,rfl,fun K hK=>?_⟩;have dK:a.tmps[20]?=some (.string (rdOf ByteArray.empty aa (ae))):=by rw[ha];exact putSel_on (e:=(6,20,.string (rdOf ByteArray.empty aa (ae)))) 4 rfl rfl (hon 6 (by kernel_rfl)) rfl
       have dL:a.tmps[24]?=some (.string (rdOf ByteArray.empty ab j)):=by rw[ha];exact putSel_on (e:=(10,24,.string (rdOf ByteArray.empty ab j))) 7 rfl rfl (hon 10 (by kernel_rfl)) rfl
       replace ha:=bm ha;have HB:=bm kR;have ah:=bm (jI (hon 0 (by kernel_rfl)));have my:=bm (iS (hon 0 (by kernel_rfl)));have ai:=bm (jJ (hon 7 (by kernel_rfl)));have mz:=bm (iU (hon 7 (by kernel_rfl)));refine value_ (w1:=w') (v:=.string ((rdOf ByteArray.empty aa (ae))++(rdOf ByteArray.empty ab j))) (by rfl) rfl ?_ ?_
       ·go_simp;(try simp only[i64_w]);try rfl
       refine hK.out _ _ ⟨I,jz,J,jA,af,ag,(by rw[ha.out];exact putSel_upk 8 nS rfl rfl rfl),kR,jI,iS,jJ,iU,mr,lO⟩
      refine steps_cons ?_ ?_
      ·rintro b a w' ⟨I,jz,J,jA,af,ag,ha,kR,jI,iS,jJ,iU,mr,lO⟩ nS hon hoff;refine⟨_,rfl,fun K hK=>?_⟩;have dM:a.tmps[25]?=some (.string ((rdOf ByteArray.empty aa (ae))++(rdOf ByteArray.empty ab j))):=by rw[ha];exact putSel_on (e:=(11,25,.string ((rdOf ByteArray.empty aa (ae))++(rdOf ByteArray.empty ab j)))) 8 rfl rfl (hon 11 (by kernel_rfl)) rfl
       replace ha:=bm ha;have HB:=bm kR;have ah:=bm (jI (hon 0 (by kernel_rfl)));have my:=bm (iS (hon 0 (by kernel_rfl)));have ai:=bm (jJ (hon 7 (by kernel_rfl)));have mz:=bm (iU (hon 7 (by kernel_rfl)));refine value_ (w1:=w') (v:=.string ((rdOf ByteArray.empty aa (ae))++(rdOf ByteArray.empty ab j))) (by rfl) rfl ?_ ?_
       ·go_simp;(try simp only[i64_w]);try rfl
       refine hK.out _ _ ⟨I,jz,J,jA,af,ag,(by rw[ha.out];exact putSel_upk 9 nS rfl rfl rfl),kR,jI,iS,jJ,iU,mr,lO⟩
      exact steps_nil
     rintro b a _ aj ⟨I,jz,J,jA,af,ag,ha,kR,jI,iS,jJ,iU,mr,lO⟩;clear HB;have aC:=aj 0 (by kernel_rfl);have bg:=aj 3 (by kernel_rfl);have bh:=aj 4 (by kernel_rfl);have aU:=aj 5 (by kernel_rfl);have bj:=aj 6 (by kernel_rfl);have aD:=aj 7 (by kernel_rfl);have aV:=aj 9 (by kernel_rfl);have aW:=aj 10 (by kernel_rfl);have aY:=aj 11 (by kernel_rfl);have aZ:=aj 12 (by kernel_rfl);subst ha;obtain rfl:=mr aU;obtain rfl:=lO aV;simp only[putSel,aC,bg,bh,aU,bj,aD,aV,aW,aY,aZ,if_true,Act.put,qA,qB,qC];have HB:=bm kR;clear kR;have ah:=bm (jI aC);clear jI;have my:=bm (iS aC);clear iS;have ai:=bm (jJ aD);clear jJ;have mz:=bm (iU aD);clear iU aj aC bg bh aU bj aD aV aW aY aZ;obtain⟨ev,dr⟩:=my.out;clear my;subst dr;obtain⟨cV,bJ⟩:=mz.out;clear mz;subst bJ;try go_wp2
     go_roundg k1
     case measure=>have:=cc.out;omega
     case rel=>exact⟨((rdOf ByteArray.empty aa (ae))++(rdOf ByteArray.empty ab j)),(wrap64 (j - 1)),(by first|rfl|(simp;done)|(simp only[←bw]<;>(first|rfl|simp))|(simp[*];done)),(by first|rfl|(simp;done)|(simp[*];done)),H',⟨by have:=cc.out;omega⟩,⟨wZ HB⟩⟩
    ·obtain⟨az,bn⟩:=vk aI;obtain⟨cd,H⟩:=iN H;have dN:=vI cd;have dO:=vG cd;try have dP:(9223372036854775807<1+((rdOf ByteArray.empty aa (ae))++(rdOf ByteArray.empty ab j)).size)=False:=eq_false (Nat.not_lt.2 cd)
     (try have dQ:(9223372036854775807<1+((rdOf ByteArray.empty aa (ae)).size+(rdOf ByteArray.empty ab j).size))=False:=eq_false (by have h_:=cd;(repeat rw[ByteArray.size_append]at h_);exact Nat.not_lt.2 h_));obtain⟨cf,H⟩:=iN H;have dR:=vI cf;have dS:=vG cf;try have dT:(9223372036854775807<((⟨#[40]⟩:ByteArray)++((rdOf ByteArray.empty aa (ae))++(rdOf ByteArray.empty ab j))).size+1)=False:=eq_false (Nat.not_lt.2 cf)
     (try have dU:(9223372036854775807<1+((rdOf ByteArray.empty aa (ae)).size+(rdOf ByteArray.empty ab j).size)+1)=False:=eq_false (by have h_:=cf;(repeat rw[ByteArray.size_append]at h_);exact Nat.not_lt.2 h_));obtain⟨cg,H⟩:=iN H;have dV:=vI cg;have dW:=vG cg;try have dX:(9223372036854775807<(((⟨#[40]⟩:ByteArray)++((rdOf ByteArray.empty aa (ae))++(rdOf ByteArray.empty ab j)))++(⟨#[38]⟩:ByteArray)).size+ay.size)=False:=eq_false (Nat.not_lt.2 cg)
     (try have dY:(9223372036854775807<1+((rdOf ByteArray.empty aa (ae)).size+(rdOf ByteArray.empty ab j).size)+1+ay.size)=False:=eq_false (by have h_:=cg;(repeat rw[ByteArray.size_append]at h_);exact Nat.not_lt.2 h_));obtain⟨ch,H⟩:=iN H;have dZ:=vI ch;have ea:=vG ch;try have eb:(9223372036854775807<((((⟨#[40]⟩:ByteArray)++((rdOf ByteArray.empty aa (ae))++(rdOf ByteArray.empty ab j)))++(⟨#[38]⟩:ByteArray))++ay).size+1)=False:=eq_false (Nat.not_lt.2 ch)
     (try have ec:(9223372036854775807<1+((rdOf ByteArray.empty aa (ae)).size+(rdOf ByteArray.empty ab j).size)+1+ay.size+1)=False:=eq_false (by have h_:=ch;(repeat rw[ByteArray.size_append]at h_);exact Nat.not_lt.2 h_));have H':=bm H;clear H;try go_wp2
     have bp:(0≤((ae):Int))=True:=vI (jK);have bq:((ae)<(aa.length:Int))=True:=vI (jK);have br:(0≤(j:Int))=True:=vI (jK);have bs:(j<(ab.length:Int))=True:=vI (jK);replace HB:=vH HB;refine start_ (n:=13) (S:=fun w'=>True) (ds:=[]) zj (by kernel_rfl) rfl rfl trivial (fun hHeld=>?_);refine with_tabW jc.wg jc.rU (fun bb cE=>?_);generalize wr.drew=eE at HB hHeld⊢;refine pA 1 15 bb ?_ ?_ ?_ ?_ (pA 2 16 bb ?_ ?_ ?_ ?_ (pA 8 22 bb ?_ ?_ ?_ ?_ ?_))
     all_goals first|(intro w';go_simp;with_reducible rfl)|(simp only[Act.put,qA,qB,qC,i64_w,i32_w];rfl)|skip
     refine inv_at [0,3,4,5,6,7,9,10,11,12] (fun cF b a w'=>∃(I:Value) (jz:Addr) (J:Value) (jA:Addr) (af:Value) (ag:Value),a=putSel cF b [(0,14,I),(3,17,.int .i64 aN),(4,18,.int .i64 ae),(5,19,af),(6,20,.string (rdOf ByteArray.empty aa (ae))),(7,21,J),(9,23,ag),(10,24,.string (rdOf ByteArray.empty ab j)),(11,25,.string ((rdOf ByteArray.empty aa (ae))++(rdOf ByteArray.empty ab j))),(12,7,.string ((rdOf ByteArray.empty aa (ae))++(rdOf ByteArray.empty ab j)))]∧(Below w.heap.size w w')∧(b 0=true→Kd.R Kd.string 9 w' w.heap.size (fun _=>True) I aa)∧(b 0=true→∃c_,(I:Value)= .slice (some jz) aa.length c_)∧(b 7=true→Kd.R Kd.string 9 w' w.heap.size (fun _=>True) J ab)∧(b 7=true→∃c_,(J:Value)= .slice (some jA) ab.length c_)∧(b 5=true→(af:Value)= .pointer (some (jz.add ((ae)).toNat)))∧(b 9=true→(ag:Value)= .pointer (some (jA.add (j).toNat)))) bb.out cE.out (by kernel_rfl) (by kernel_rfl) ?_ ?_ ?_
     ·exact⟨.bool false,⟨0,0,none⟩,.bool false,⟨0,0,none⟩,.bool false,.bool false,by simp only[putSel,Bool.false_eq_true,if_false],HB.out,fun h_=>absurd h_ (by decide),fun h_=>absurd h_ (by decide),fun h_=>absurd h_ (by decide),fun h_=>absurd h_ (by decide),fun h_=>absurd h_ (by decide),fun h_=>absurd h_ (by decide)⟩
     ·skip;clear HB;refine steps_cons ?_ ?_
      ·rintro b a w' ⟨I,jz,J,jA,af,ag,ha,kR,jI,iS,jJ,iU,mr,lO⟩ nS hon hoff;refine⟨_,rfl,fun K hK=>?_⟩;replace ha:=bm ha;have HB:=bm kR;refine Kd.R_lit_step Kd.string _ 9 ?hg (N:=14) ?hd (xs:=([(⟨#[33]⟩:ByteArray),(⟨#[]⟩:ByteArray)]:List ByteArray)) (inner:=[.string (⟨#[33]⟩:ByteArray),.string (⟨#[]⟩:ByteArray)]) (ok:=fun _=>True) (okp:=fun _=>True) ?hr ?hp (fun _ hk=>hk) trivial (Below.refl _ _) (Nat.le_refl _) (by simp) ?_;(case hd=>rfl);(case hg=>rfl);(case hr=>first|(go_simp;done)|(go_simp;rfl));(case hp=>exact(Reps.one (show Kd.M Kd.string _ _ _ (⟨#[33]⟩:ByteArray) [.string (⟨#[33]⟩:ByteArray)] from rfl) (Reps.one (show Kd.M Kd.string _ _ _ (⟨#[]⟩:ByteArray) [.string (⟨#[]⟩:ByteArray)] from rfl) (Reps.none _ _))));intro I cM aq hb a8 av;clear a8 av;(first|rw[←aE.out]at aq|(simp only[Int.reduceToNat]at aq;rw[←aE.out]at aq));have aQ:=vm aq HB;have aR:=bW HB hb;have uM:=fun(an:b 7=true)=>(show Kd.R Kd.string 9 cM w.heap.size (fun _=>True) J ab from by first|exact(Kd.R_elder' (by(repeat apply Kd.RS);exact(jJ an)) (Kd.R_base aq) hb)|exact Kd.R_mono (Kd.R_elder' (by(repeat apply Kd.RS);exact(jJ an)) (Kd.R_base aq) hb) (fun _ h_=>by first|trivial|exact h_|exact h_.1))
       clear HB;have ah:=aQ;have HB:=aR;clear aQ aR hb aq;obtain⟨dt,b7,b8⟩:=Kd.R_slice ah.out;subst b8;obtain⟨a6,b9,_⟩:=Kd.at_string (Kd.R_reads' ah.out).2.2 0 (by decide) (by rw[aE.out];simp);cases b9;refine hK.out _ _ ⟨.slice (some a6) aa.length b7,a6,J,jA,af,ag,(by rw[ha.out];exact putSel_upk 0 nS rfl rfl rfl),(wZ HB),fun _=>(rS ah),fun _=>⟨_,rfl⟩,uM,iU,fun an=>absurd ((hoff 5 (by kernel_rfl)).symm.trans an) (by decide),lO⟩
      refine steps_cons ?_ ?_
      ·rintro b a w' ⟨I,jz,J,jA,af,ag,ha,kR,jI,iS,jJ,iU,mr,lO⟩ nS hon hoff;refine⟨_,rfl,fun K hK=>?_⟩;have dF:a.tmps[15]?=some (.int .i64 a1):=by rw[ha];exact(putSel_off rfl).trans rfl
       have dG:a.tmps[16]?=some (.int .i64 j):=by rw[ha];exact(putSel_off rfl).trans rfl
       replace ha:=bm ha;have HB:=bm kR;refine value_ (w1:=w') (v:=.int .i64 aN) (by rfl) rfl ?_ ?_
       ·go_simp;(try simp only[i64_w]);try rfl
       refine hK.out _ _ ⟨I,jz,J,jA,af,ag,(by rw[ha.out];exact putSel_upk 1 nS rfl rfl rfl),kR,jI,iS,jJ,iU,fun an=>absurd ((hoff 5 (by kernel_rfl)).symm.trans an) (by decide),lO⟩
      refine steps_cons ?_ ?_
      ·rintro b a w' ⟨I,jz,J,jA,af,ag,ha,kR,jI,iS,jJ,iU,mr,lO⟩ nS hon hoff;refine⟨_,rfl,fun K hK=>?_⟩;have dH:a.tmps[17]?=some (.int .i64 aN):=by rw[ha];exact putSel_on (e:=(3,17,.int .i64 aN)) 1 rfl rfl (hon 3 (by kernel_rfl)) rfl
       replace ha:=bm ha;have HB:=bm kR;refine value_ (w1:=w') (v:=.int .i64 ae) (by rfl) rfl ?_ ?_
       ·go_simp;(try simp only[i64_w]);try rfl
       refine hK.out _ _ ⟨I,jz,J,jA,af,ag,(by rw[ha.out];exact putSel_upk 2 nS rfl rfl rfl),kR,jI,iS,jJ,iU,fun an=>absurd ((hoff 5 (by kernel_rfl)).symm.trans an) (by decide),lO⟩
      refine steps_cons ?_ ?_
      ·rintro b a w' ⟨I,jz,J,jA,af,ag,ha,kR,jI,iS,jJ,iU,mr,lO⟩ nS hon hoff;refine⟨_,rfl,fun K hK=>?_⟩;have cH:a.tmps[14]?=some (I):=by rw[ha];exact putSel_on (e:=(0,14,I)) 0 rfl rfl (hon 0 (by kernel_rfl)) rfl
       have dI:a.tmps[18]?=some (.int .i64 ae):=by rw[ha];exact putSel_on (e:=(4,18,.int .i64 ae)) 2 rfl rfl (hon 4 (by kernel_rfl)) rfl
       replace ha:=bm ha;have HB:=bm kR;have ah:=bm (jI (hon 0 (by kernel_rfl)));have my:=bm (iS (hon 0 (by kernel_rfl)));obtain⟨c_,aA⟩:=my.out;rw[aA]at cH;refine value_ (w1:=w') (v:=.pointer (some (jz.add ((ae)).toNat))) (by rfl) rfl ?_ ?_
       ·go_simp;(try simp only[i64_w]);try rfl
       refine hK.out _ _ ⟨I,jz,J,jA,(.pointer (some (jz.add ((ae)).toNat))),ag,(by rw[ha.out];exact putSel_upk 3 nS rfl rfl rfl),kR,jI,iS,jJ,iU,fun _=>rfl,lO⟩
      refine steps_cons ?_ ?_
      ·rintro b a w' ⟨I,jz,J,jA,af,ag,ha,kR,jI,iS,jJ,iU,mr,lO⟩ nS hon hoff;refine⟨_,rfl,fun K hK=>?_⟩;have cI:a.tmps[19]?=some (af):=by rw[ha];exact putSel_on (e:=(5,19,af)) 3 rfl rfl (hon 5 (by kernel_rfl)) rfl
       rw[mr (hon 5 (by kernel_rfl))]at cI;replace ha:=bm ha;have HB:=bm kR;have ah:=bm (jI (hon 0 (by kernel_rfl)));have my:=bm (iS (hon 0 (by kernel_rfl)));obtain⟨c_,aA⟩:=my.out;have xM:=ah.out;rw[aA]at xM;obtain⟨DY,qo,cJ⟩:=Kd.at_string (Kd.R_reads' xM).2.2 (ae) (of_eq_true bp) (of_eq_true bq);cases qo;refine value_ (w1:=w') (v:=.string (rdOf ByteArray.empty aa (ae))) (by rfl) rfl ?_ ?_
       ·go_simp;(try simp only[i64_w]);try rfl
       refine hK.out _ _ ⟨I,jz,J,jA,af,ag,(by rw[ha.out];exact putSel_upk 4 nS rfl rfl rfl),kR,jI,iS,jJ,iU,mr,lO⟩
      refine steps_cons ?_ ?_
      ·rintro b a w' ⟨I,jz,J,jA,af,ag,ha,kR,jI,iS,jJ,iU,mr,lO⟩ nS hon hoff;refine⟨_,rfl,fun K hK=>?_⟩;replace ha:=bm ha;have HB:=bm kR;refine Kd.R_lit_step Kd.string _ 9 ?hg (N:=21) ?hd (xs:=([(⟨#[97]⟩:ByteArray),(⟨#[98]⟩:ByteArray),(⟨#[99]⟩:ByteArray)]:List ByteArray)) (inner:=[.string (⟨#[97]⟩:ByteArray),.string (⟨#[98]⟩:ByteArray),.string (⟨#[99]⟩:ByteArray)]) (ok:=fun _=>True) (okp:=fun _=>True) ?hr ?hp (fun _ hk=>hk) trivial (Below.refl _ _) (Nat.le_refl _) (by simp) ?_;(case hd=>rfl);(case hg=>rfl);(case hr=>first|(go_simp;done)|(go_simp;rfl));(case hp=>exact(Reps.one (show Kd.M Kd.string _ _ _ (⟨#[97]⟩:ByteArray) [.string (⟨#[97]⟩:ByteArray)] from rfl) (Reps.one (show Kd.M Kd.string _ _ _ (⟨#[98]⟩:ByteArray) [.string (⟨#[98]⟩:ByteArray)] from rfl) (Reps.one (show Kd.M Kd.string _ _ _ (⟨#[99]⟩:ByteArray) [.string (⟨#[99]⟩:ByteArray)] from rfl) (Reps.none _ _)))));intro J cM aq hb a8 av;clear a8 av;(first|rw[←aG.out]at aq|(simp only[Int.reduceToNat]at aq;rw[←aG.out]at aq));have aQ:=vm aq HB;have aR:=bW HB hb;have uN:=fun(an:b 0=true)=>(show Kd.R Kd.string 9 cM w.heap.size (fun _=>True) I aa from by first|exact(Kd.R_elder' (by(repeat apply Kd.RS);exact(jI an)) (Kd.R_base aq) hb)|exact Kd.R_mono (Kd.R_elder' (by(repeat apply Kd.RS);exact(jI an)) (Kd.R_base aq) hb) (fun _ h_=>by first|trivial|exact h_|exact h_.1))
       clear HB;have ai:=aQ;have HB:=aR;clear aQ aR hb aq;obtain⟨dt,b7,b8⟩:=Kd.R_slice ai.out;subst b8;obtain⟨a6,b9,_⟩:=Kd.at_string (Kd.R_reads' ai.out).2.2 0 (by decide) (by rw[aG.out];simp);cases b9;refine hK.out _ _ ⟨I,jz,.slice (some a6) ab.length b7,a6,af,ag,(by rw[ha.out];exact putSel_upk 5 nS rfl rfl rfl),(wZ HB),uN,iS,fun _=>(rS ai),fun _=>⟨_,rfl⟩,mr,fun an=>absurd ((hoff 9 (by kernel_rfl)).symm.trans an) (by decide)⟩
      refine steps_cons ?_ ?_
      ·rintro b a w' ⟨I,jz,J,jA,af,ag,ha,kR,jI,iS,jJ,iU,mr,lO⟩ nS hon hoff;refine⟨_,rfl,fun K hK=>?_⟩;have cK:a.tmps[21]?=some (J):=by rw[ha];exact putSel_on (e:=(7,21,J)) 5 rfl rfl (hon 7 (by kernel_rfl)) rfl
       have dJ:a.tmps[22]?=some (.int .i64 j):=by rw[ha];exact(putSel_off rfl).trans rfl
       replace ha:=bm ha;have HB:=bm kR;have ai:=bm (jJ (hon 7 (by kernel_rfl)));have mz:=bm (iU (hon 7 (by kernel_rfl)));obtain⟨c_,aA⟩:=mz.out;rw[aA]at cK;refine value_ (w1:=w') (v:=.pointer (some (jA.add (j).toNat))) (by rfl) rfl ?_ ?_
       ·go_simp;(try simp only[i64_w]);try rfl
       refine hK.out _ _ ⟨I,jz,J,jA,af,(.pointer (some (jA.add (j).toNat))),(by rw[ha.out];exact putSel_upk 6 nS rfl rfl rfl),kR,jI,iS,jJ,iU,mr,fun _=>rfl⟩
      refine steps_cons ?_ ?_
      ·rintro b a w' ⟨I,jz,J,jA,af,ag,ha,kR,jI,iS,jJ,iU,mr,lO⟩ nS hon hoff;refine⟨_,rfl,fun K hK=>?_⟩;have cL:a.tmps[23]?=some (ag):=by rw[ha];exact putSel_on (e:=(9,23,ag)) 6 rfl rfl (hon 9 (by kernel_rfl)) rfl
       rw[lO (hon 9 (by kernel_rfl))]at cL;replace ha:=bm ha;have HB:=bm kR;have ai:=bm (jJ (hon 7 (by kernel_rfl)));have mz:=bm (iU (hon 7 (by kernel_rfl)));obtain⟨c_,aA⟩:=mz.out;have xM:=ai.out;rw[aA]at xM;obtain⟨DY,qo,cJ⟩:=Kd.at_string (Kd.R_reads' xM).2.2 j (of_eq_true br) (of_eq_true bs);cases qo;refine value_ (w1:=w') (v:=.string (rdOf ByteArray.empty ab j)) (by rfl) rfl ?_ ?_
       ·go_simp;(try simp only[i64_w]);try rfl
       refine hK.out _ _ ⟨I,jz,J,jA,af,ag,(by rw[ha.out];exact putSel_upk 7 nS rfl rfl rfl),kR,jI,iS,jJ,iU,mr,lO⟩
      refine steps_cons ?_ ?_
      ·rintro b a w' ⟨I,jz,J,jA,af,ag,ha,kR,jI,iS,jJ,iU,mr,lO⟩ nS hon hoff;refine⟨_,rfl,fun K hK=>?_⟩;have dK:a.tmps[20]?=some (.string (rdOf ByteArray.empty aa (ae))):=by rw[ha];exact putSel_on (e:=(6,20,.string (rdOf ByteArray.empty aa (ae)))) 4 rfl rfl (hon 6 (by kernel_rfl)) rfl
       have dL:a.tmps[24]?=some (.string (rdOf ByteArray.empty ab j)):=by rw[ha];exact putSel_on (e:=(10,24,.string (rdOf ByteArray.empty ab j))) 7 rfl rfl (hon 10 (by kernel_rfl)) rfl
       replace ha:=bm ha;have HB:=bm kR;have ah:=bm (jI (hon 0 (by kernel_rfl)));have my:=bm (iS (hon 0 (by kernel_rfl)));have ai:=bm (jJ (hon 7 (by kernel_rfl)));have mz:=bm (iU (hon 7 (by kernel_rfl)));refine value_ (w1:=w') (v:=.string ((rdOf ByteArray.empty aa (ae))++(rdOf ByteArray.empty ab j))) (by rfl) rfl ?_ ?_
       ·go_simp;(try simp only[i64_w]);try rfl
       refine hK.out _ _ ⟨I,jz,J,jA,af,ag,(by rw[ha.out];exact putSel_upk 8 nS rfl rfl rfl),kR,jI,iS,jJ,iU,mr,lO⟩
      refine steps_cons ?_ ?_
      ·rintro b a w' ⟨I,jz,J,jA,af,ag,ha,kR,jI,iS,jJ,iU,mr,lO⟩ nS hon hoff;refine⟨_,rfl,fun K hK=>?_⟩;have dM:a.tmps[25]?=some (.string ((rdOf ByteArray.empty aa (ae))++(rdOf ByteArray.empty ab j))):=by rw[ha];exact putSel_on (e:=(11,25,.string ((rdOf ByteArray.empty aa (ae))++(rdOf ByteArray.empty ab j)))) 8 rfl rfl (hon 11 (by kernel_rfl)) rfl
       replace ha:=bm ha;have HB:=bm kR;have ah:=bm (jI (hon 0 (by kernel_rfl)));have my:=bm (iS (hon 0 (by kernel_rfl)));have ai:=bm (jJ (hon 7 (by kernel_rfl)));have mz:=bm (iU (hon 7 (by kernel_rfl)));refine value_ (w1:=w') (v:=.string ((rdOf ByteArray.empty aa (ae))++(rdOf ByteArray.empty ab j))) (by rfl) rfl ?_ ?_
       ·go_simp;(try simp only[i64_w]);try rfl
       refine hK.out _ _ ⟨I,jz,J,jA,af,ag,(by rw[ha.out];exact putSel_upk 9 nS rfl rfl rfl),kR,jI,iS,jJ,iU,mr,lO⟩
      exact steps_nil
     rintro b a _ aj ⟨I,jz,J,jA,af,ag,ha,kR,jI,iS,jJ,iU,mr,lO⟩;clear HB;have aC:=aj 0 (by kernel_rfl);have bg:=aj 3 (by kernel_rfl);have bh:=aj 4 (by kernel_rfl);have aU:=aj 5 (by kernel_rfl);have bj:=aj 6 (by kernel_rfl);have aD:=aj 7 (by kernel_rfl);have aV:=aj 9 (by kernel_rfl);have aW:=aj 10 (by kernel_rfl);have aY:=aj 11 (by kernel_rfl);have aZ:=aj 12 (by kernel_rfl);subst ha;obtain rfl:=mr aU;obtain rfl:=lO aV;simp only[putSel,aC,bg,bh,aU,bj,aD,aV,aW,aY,aZ,if_true,Act.put,qA,qB,qC];have HB:=bm kR;clear kR;have ah:=bm (jI aC);clear jI;have my:=bm (iS aC);clear iS;have ai:=bm (jJ aD);clear jJ;have mz:=bm (iU aD);clear iU aj aC bg bh aU bj aD aV aW aY aZ;obtain⟨ew,du⟩:=my.out;clear my;subst du;obtain⟨ey,dv⟩:=mz.out;clear mz;subst dv;try go_wp2
     go_roundg k1
     case measure=>have:=cc.out;omega
     case rel=>exact⟨(((((⟨#[40]⟩:ByteArray)++((rdOf ByteArray.empty aa (ae))++(rdOf ByteArray.empty ab j)))++(⟨#[38]⟩:ByteArray))++ay)++(⟨#[41]⟩:ByteArray)),(wrap64 (j - 1)),(by first|rfl|(simp;done)|(simp only[←bw]<;>(first|rfl|simp))|(simp[*];done)),(by first|rfl|(simp;done)|(simp[*];done)),H',⟨by have:=cc.out;omega⟩,⟨wZ HB⟩⟩
   ·obtain rfl:=vZ H;go_wp2;go_ret;exact vo HB
end Go.Proofs.YtihgpkohglcijaaGreatDoor.P
