import Derived.Test.YtihgpkohglcijaaGreatDoorPx0
namespace Go.Proofs.YtihgpkohglcijaaGreatDoor.P
open Go.RowKit Go.Proofs.YtihgpkohglcijaaGreatDoorW.PrintWords Go.Proofs.YtihgpkohglcijaaGreatDoorW.PrintLast Go.Proofs.YtihgpkohglcijaaGreatDoorW.PrintMore
attribute [local go_sem] max2_int min2_int max_two min_two max_three min_three max_four min_four   -- for this text's walks alone
set_option linter.unusedVariables false
set_option linter.unusedSimpArgs false
set_option maxHeartbeats 8000000
set_option maxRecDepth 100000
def qp.f (a0:Int):Option (Bool):=if a0≥1 then(some (decide (a0≤3)))else(some false)
theorem qp.calls (a0:Int) (r:Bool) (w:World) (h:qp.f a0=some r):
  Calls Tryz.prog 64 #[.int .i64 a0] w fun e w'=>e= .returned (.bool r)∧Drawn0 w w':=by
 have H:=h;clear h;unfold qp.f at H;rcases vG H with⟨bx,H⟩|⟨bx,H⟩
 ·obtain rfl:=vU H;go_enter Tryz.func64,Tryz.ntmps64;go_wp2;go_ret;exact vY
 ·obtain rfl:=vU H;go_enter Tryz.func64,Tryz.ntmps64;go_wp2;go_ret;exact vY
def kM.l0:Nat→List Int→Int→Int→Option (Int)
 |0,_,_,_=>none
 |k+1,x0,x3,x4=>if x4<(x0.length:Int)then(if 0≤x4 then(kM.l0 k x0 (mn x3 (rd x0 x4)) (wrap64 (x4+1)))else(none))else(some x3)
def kM.f (k:Nat) (l0:List Int):Option (Int):=if(l0.length:Int)<1 then(none)else(if 0<(l0.length:Int)then(kM.l0 k l0 (rd l0 0) 1)else(none))
theorem kM.jQ:∀k,(∀y0 y1 y2,qg (kM.l0 k y0 y1 y2) (kM.l0 (k+1) y0 y1 y2))
 |0=>fun _ _ _=> .z (by simp only[kM.l0])
 |k+1=>by
  have i0:=kM.jQ k;exact fun _ _ _=>by unfold kM.l0;infer_instance
instance kM.mo {k a0}:qg (kM.f k a0) (kM.f (k+1) a0):=by have i0:=kM.jQ k;unfold kM.f;infer_instance
theorem kM.calls (k:Nat) (A0:Option Addr) (c0:Nat) (l0:List Int) (r:Int) (w:World) (ak:Kd.C (Kd.int .i64) w A0 l0.length l0) (ag:l0.length≤c0) (h:kM.f k l0=some r):
  Calls Tryz.prog 116 #[.slice A0 l0.length c0] w fun e w'=>e= .returned (.int .i64 r)∧Below w.heap.size w w':=by
 have al:=bm ak;have cq:=bm ag;clear ak ag;have HB:=bm (Below.refl w.heap.size w);have H:=h;clear h;unfold kM.f at H;rcases iT H with⟨c2,H⟩|⟨c2,H⟩
 ·exact absurd H (by simp)
 ·have bx:=vB c2;have cW:decide (l0.length<1)=false:=vB (by omega);clear c2;obtain⟨c3,H⟩:=iN H;have a6:=vC c3;have bz:decide (0<l0.length)=true:=vC (by omega);clear c3;have H':=bm H;clear H;have bA:0≤(0:Int):=(by omega);have bB:0<(l0.length:Int):=pG;obtain⟨cy,cX,a7⟩:=Kd.at_int al.out 0 bA bB;cases cX;have dv:(0<l0.length)=True:=vD (by omega);(try rw[show((0:Int)).toNat=0 from rfl]at a7);(try rw[Addr.add_zero']at a7);replace bA:=vD bA;replace bB:=vD bB;go_enter Tryz.func116,Tryz.ntmps116;go_wp2;go_loopg [3,4] k (fun kq v3 v4 w'=>∃(ae:Int) (I:Int),v3= .int .i64 ae∧v4= .int .i64 I∧jX (kM.l0 kq l0 ae I=some r)∧jX (kq≤k)∧jX (Below w.heap.size w w'))
  case atStart=>exact⟨(rd l0 0),(1),(by first|rfl|(simp;done)|(simp[*];done)),(by first|rfl|(simp;done)|(simp[*];done)),H',⟨Nat.le_refl _⟩,⟨wZ HB⟩⟩
  case round=>
   clear H';obtain⟨ae,I,rfl,rfl,HA,an,HB⟩:=hrel;cases gk with
   |zero=>exact absurd HA.out (by simp[kM.l0])
   |succ k1=>
    have H:=HA.out;clear HA;simp only[kM.l0]at H;rcases vG H with⟨aM,H⟩|⟨aM,H⟩
    ·obtain⟨bD,H⟩:=vE H;obtain⟨bF,ao⟩:∃j_:Int,(mn ae (rd l0 I))=j_:=⟨_,rfl⟩;first|rw[ao]at H|simp only[ao]at H
     have cz:(if(rd l0 I)<ae then(rd l0 I)else ae)=bF:=ao;have H':=bm H;clear H;have bH:0≤(I:Int):=pG;have bJ:I<(l0.length:Int):=pG;obtain⟨cA,da,ax⟩:=Kd.at_int al.out I bH bJ;obtain rfl:cy=cA:=(by injection da);replace ax:=vA HB ax;replace bH:=vD bH;replace bJ:=vD bJ;go_wp2;go_roundg k1
     case measure=>have:=an.out;omega
     case rel=>exact⟨(bF),(wrap64 (I+1)),(by first|rfl|(simp;done)|(simp only[←ao]<;>(first|rfl|simp))|(simp[*];done)),(by first|rfl|(simp;done)|(simp[*];done)),H',⟨by have:=an.out;omega⟩,⟨wZ HB⟩⟩
    ·obtain rfl:=vU H;go_wp2;go_ret;exact vZ HB
def kU.l0:Nat→List Int→Int→Int→Option (Int)
 |0,_,_,_=>none
 |k+1,x0,x3,x4=>if x4<(x0.length:Int)then(if 0≤x4 then(kU.l0 k x0 (mx x3 (rd x0 x4)) (wrap64 (x4+1)))else(none))else(some x3)
def kU.f (k:Nat) (l0:List Int):Option (Int):=if(l0.length:Int)<1 then(none)else(if 0<(l0.length:Int)then(kU.l0 k l0 (rd l0 0) 1)else(none))
theorem kU.jQ:∀k,(∀y0 y1 y2,qg (kU.l0 k y0 y1 y2) (kU.l0 (k+1) y0 y1 y2))
 |0=>fun _ _ _=> .z (by simp only[kU.l0])
 |k+1=>by
  have i0:=kU.jQ k;exact fun _ _ _=>by unfold kU.l0;infer_instance
instance kU.mo {k a0}:qg (kU.f k a0) (kU.f (k+1) a0):=by have i0:=kU.jQ k;unfold kU.f;infer_instance
theorem kU.calls (k:Nat) (A0:Option Addr) (c0:Nat) (l0:List Int) (r:Int) (w:World) (ak:Kd.C (Kd.int .i64) w A0 l0.length l0) (ag:l0.length≤c0) (h:kU.f k l0=some r):
  Calls Tryz.prog 117 #[.slice A0 l0.length c0] w fun e w'=>e= .returned (.int .i64 r)∧Below w.heap.size w w':=by
 have al:=bm ak;have cq:=bm ag;clear ak ag;have HB:=bm (Below.refl w.heap.size w);have H:=h;clear h;unfold kU.f at H;rcases iT H with⟨c2,H⟩|⟨c2,H⟩
 ·exact absurd H (by simp)
 ·have bx:=vB c2;have cW:decide (l0.length<1)=false:=vB (by omega);clear c2;obtain⟨c3,H⟩:=iN H;have a6:=vC c3;have bz:decide (0<l0.length)=true:=vC (by omega);clear c3;have H':=bm H;clear H;have bO:0≤(0:Int):=(by omega);have bT:0<(l0.length:Int):=pG;obtain⟨cB,db,a8⟩:=Kd.at_int al.out 0 bO bT;cases db;have dw:(0<l0.length)=True:=vD (by omega);(try rw[show((0:Int)).toNat=0 from rfl]at a8);(try rw[Addr.add_zero']at a8);replace bO:=vD bO;replace bT:=vD bT;go_enter Tryz.func117,Tryz.ntmps117;go_wp2;go_loopg [3,4] k (fun kq v3 v4 w'=>∃(ae:Int) (I:Int),v3= .int .i64 ae∧v4= .int .i64 I∧jX (kU.l0 kq l0 ae I=some r)∧jX (kq≤k)∧jX (Below w.heap.size w w'))
  case atStart=>exact⟨(rd l0 0),(1),(by first|rfl|(simp;done)|(simp[*];done)),(by first|rfl|(simp;done)|(simp[*];done)),H',⟨Nat.le_refl _⟩,⟨wZ HB⟩⟩
  case round=>
   clear H';obtain⟨ae,I,rfl,rfl,HA,an,HB⟩:=hrel;cases gk with
   |zero=>exact absurd HA.out (by simp[kU.l0])
   |succ k1=>
    have H:=HA.out;clear HA;simp only[kU.l0]at H;rcases vG H with⟨aM,H⟩|⟨aM,H⟩
    ·obtain⟨bD,H⟩:=vE H;obtain⟨bF,ao⟩:∃j_:Int,(mx ae (rd l0 I))=j_:=⟨_,rfl⟩;first|rw[ao]at H|simp only[ao]at H
     have cz:(if ae<(rd l0 I)then(rd l0 I)else ae)=bF:=ao;have H':=bm H;clear H;have bV:0≤(I:Int):=pG;have bZ:I<(l0.length:Int):=pG;obtain⟨cC,dc,ay⟩:=Kd.at_int al.out I bV bZ;obtain rfl:cB=cC:=(by injection dc);replace ay:=vA HB ay;replace bV:=vD bV;replace bZ:=vD bZ;go_wp2;go_roundg k1
     case measure=>have:=an.out;omega
     case rel=>exact⟨(bF),(wrap64 (I+1)),(by first|rfl|(simp;done)|(simp only[←ao]<;>(first|rfl|simp))|(simp[*];done)),(by first|rfl|(simp;done)|(simp[*];done)),H',⟨by have:=an.out;omega⟩,⟨wZ HB⟩⟩
    ·obtain rfl:=vU H;go_wp2;go_ret;exact vZ HB
def pW.j0:Nat→List Int→Bool→Option (Bool)
 |0,_,_=>none
 |k+1,x1,x14=>if x14=true then(some false)else((kM.f k x1).bind fun t106=>(if t106=0 then((kU.f k x1).bind fun t107=>(some (decide (t107≤9))))else(some false)))
def pW.f (k:Nat) (a0:Int) (l1:List Int):Option (Bool):=(qp.f a0).bind fun t105=>(if t105=true then(if 0≤a0 then(pW.j0 k l1 ((l1.length:Int) !=(shl .i64 1 a0)))else(none))else(pW.j0 k l1 true))
theorem pW.jQ:∀k,(∀y0 y1,qg (pW.j0 k y0 y1) (pW.j0 (k+1) y0 y1))
 |0=>fun _ _=> .z (by simp only[pW.j0])
 |k+1=>by
  have i0:=pW.jQ k;exact fun _ _=>by unfold pW.j0;infer_instance
instance pW.mo {k a0 a1}:qg (pW.f k a0 a1) (pW.f (k+1) a0 a1):=by have i0:=pW.jQ k;unfold pW.f;infer_instance
theorem pW.calls (k:Nat) (a0:Int) (A1:Option Addr) (c1:Nat) (l1:List Int) (r:Bool) (w:World) (ba:Kd.C (Kd.int .i64) w A1 l1.length l1) (bb:l1.length≤c1) (h:pW.f k a0 l1=some r):
  Calls Tryz.prog 66 #[.int .i64 a0,.slice A1 l1.length c1] w fun e w'=>e= .returned (.bool r)∧Below w.heap.size w w':=by
 have aj:=bm ba;have aV:=bm bb;clear ba bb;have HB:=bm (Below.refl w.heap.size w);have H:=h;clear h;unfold pW.f at H;have cD:=bm H;clear H;go_enter Tryz.func66,Tryz.ntmps66;go_upto_region 1 with(fail)
 go_cut [14] (fun dx wc=>∃(kq:Nat) (aW:Bool),dx= .bool aW∧jX (pW.j0 kq l1 aW=some r)∧jX (kq≤k)∧jX (Below w.heap.size w wc))
 case first=>
  have H:=cD.out;clear cD;obtain⟨t105,A4,H⟩:=bE H;try dsimp only at H
  by_cases c5:t105=true
  ·subst c5;rw[if_pos rfl]at H;obtain⟨b0,cr,H⟩:=vF H;obtain⟨bd,aN⟩:∃j_:Int,(shl .i64 1 a0)=j_:=⟨_,rfl⟩;first|rw[aN]at H|simp only[aN]at H
   (try rw[aN]at A4);have b1:(IntKind.i64.wrap (1*2^min a0.toNat 64))=bd:=aN;have b4:a0≤64→(IntKind.i64.wrap (1*2^a0.toNat))=bd:=shl_small aN;have dy:(IntKind.i64.wrap (2^min a0.toNat 64))=bd:=by have h_:=b1;rw[Int.one_mul]at h_;exact h_
   have dz:a0≤64→(IntKind.i64.wrap (2^a0.toNat))=bd:=fun dd=>by have h_:=b4 dd;rw[Int.one_mul]at h_;exact h_
   have dA:(wrap64 (1*2^min a0.toNat 64))=bd:=(i64_w _).symm.trans b1;have dB:a0≤64→(wrap64 (1*2^a0.toNat))=bd:=fun h_=>(i64_w _).symm.trans (b4 h_)
   have H':=bm H;clear H;go_wp2_with (first|(refine gB (some 6) Tryz.func64 #[.int .i64 a0] rfl ?_;(with_reducible refine(qp.calls a0 true _ A4.out).mono ?_);rintro e w' ⟨rfl,⟨nd,rfl⟩⟩;refine⟨_,rfl,?_⟩));go_meet
   case rel=>exact⟨_,(((l1.length:Int) !=(bd))),(by first|rfl|(simp;done)|(simp only[←aN]<;>(first|rfl|simp))|(simp[*];done)),H',⟨by first|omega|exact Nat.le_refl _⟩,⟨wZ HB⟩⟩
  ·replace c5:=uZ c5;subst c5;rw[if_neg vM]at H;have H':=bm H;clear H;go_wp2_with (first|(refine gB (some 6) Tryz.func64 #[.int .i64 a0] rfl ?_;(with_reducible refine(qp.calls a0 false _ A4.out).mono ?_);rintro e w' ⟨rfl,⟨nd,rfl⟩⟩;refine⟨_,rfl,?_⟩));go_meet
   case rel=>exact⟨_,(true),(by first|rfl|(simp;done)|(simp[*];done)),H',⟨by first|omega|exact Nat.le_refl _⟩,⟨wZ HB⟩⟩
 case rest=>
  clear cD;obtain⟨kq,aW,rfl,HA,dX,HB⟩:=hcut;cases kq with
  |zero=>exact absurd HA.out (by simp[pW.j0])
  |succ AE=>
   have H:=HA.out;clear HA;simp only[pW.j0]at H;by_cases c8:aW=true
   ·subst c8;rw[if_pos rfl]at H;obtain rfl:=vU H;go_wp2;go_ret;exact vZ HB
   ·replace c8:=uZ c8;subst c8;rw[if_neg vM]at H;obtain⟨t106,A9,H⟩:=bE H;try dsimp only at H
    rcases iT H with⟨c10,H⟩|⟨c10,H⟩
    ·obtain⟨cE,cF⟩:=vW c10;clear c10;obtain⟨t107,dC,H⟩:=bE H;try dsimp only at H
     obtain rfl:=vU H;go_wp2_with (first|(refine gB (some 16) Tryz.func116 #[.slice A1 l1.length c1] rfl ?_;(with_reducible refine(kM.calls AE _ _ l1 t106 _ ?_ ?_ A9.out).mono ?_);exact cY aj HB;exact aV.out;rintro e dY ⟨rfl,hb⟩;refine⟨_,rfl,?_⟩;replace HB:=bW HB hb;clear hb)|(go_at_call 117;(with_reducible refine(kU.calls AE _ _ l1 t107 _ ?_ ?_ dC.out).mono ?_);exact cY aj HB;exact aV.out;rintro e dZ ⟨rfl,hb⟩;replace HB:=bW HB hb;clear hb));go_ret;exact vZ HB
    ·obtain⟨cE,cF⟩:=vV c10;obtain rfl:=vU H;go_wp2_with (first|(refine gB (some 16) Tryz.func116 #[.slice A1 l1.length c1] rfl ?_;(with_reducible refine(kM.calls AE _ _ l1 t106 _ ?_ ?_ A9.out).mono ?_);exact cY aj HB;exact aV.out;rintro e ea ⟨rfl,hb⟩;refine⟨_,rfl,?_⟩;replace HB:=bW HB hb;clear hb));go_ret;exact vZ HB
def kf.l0:Nat→List Int→List Int→Int→Int→Option (Bool)
 |0,_,_,_,_=>none
 |k+1,x0,x1,x12,zK=>if zK<x12 then(if 0≤zK then(if zK<(x0.length:Int)then(if zK<(x1.length:Int)then(if(rd x0 zK)=(rd x1 zK)then(kf.l0 k x0 x1 x12 (wrap64 (zK+1)))else(some false))else(none))else(none))else(none))else(some true)
def kf.f (k:Nat) (l0:List Int) (l1:List Int):Option (Bool):=if(l0.length:Int)=(l1.length:Int)then(kf.l0 k l0 l1 (l0.length:Int) 0)else(some false)
theorem kf.jQ:∀k,(∀y0 y1 y2 y3,qg (kf.l0 k y0 y1 y2 y3) (kf.l0 (k+1) y0 y1 y2 y3))
 |0=>fun _ _ _ _=> .z (by simp only[kf.l0])
 |k+1=>by
  have i0:=kf.jQ k;exact fun _ _ _ _=>by unfold kf.l0;infer_instance
instance kf.mo {k a0 a1}:qg (kf.f k a0 a1) (kf.f (k+1) a0 a1):=by have i0:=kf.jQ k;unfold kf.f;infer_instance
theorem kf.calls (k:Nat) (A0:Option Addr) (c0:Nat) (l0:List Int) (A1:Option Addr) (c1:Nat) (l1:List Int) (r:Bool) (w:World) (ak:Kd.C (Kd.int .i64) w A0 l0.length l0) (ag:l0.length≤c0) (ba:Kd.C (Kd.int .i64) w A1 l1.length l1) (bb:l1.length≤c1) (h:kf.f k l0 l1=some r):
  Calls Tryz.prog 123 #[.slice A0 l0.length c0,.slice A1 l1.length c1] w fun e w'=>e= .returned (.bool r)∧Drawn0 w w':=by
 have al:=bm ak;have cq:=bm ag;clear ak ag;have aj:=bm ba;have aV:=bm bb;clear ba bb;have H:=h;clear h;unfold kf.f at H;rcases iT H with⟨c3,H⟩|⟨c3,H⟩
 ·obtain⟨a6,bz⟩:=vW c3;have de:(l0.length==l1.length)=true:=by first|simpa using c3|(simp at c3⊢;omega)
  clear c3;have H':=bm H;clear H;go_enter Tryz.func123,Tryz.ntmps123;go_wp2;repeat(go_quiet (fail);try go_wp2)
  go_loopg [13] k (fun kq dD w'=>∃(o:Int),dD= .int .i64 o∧jX (kf.l0 kq l0 l1 (l0.length:Int) o=some r)∧jX (kq≤k)∧Drawn0 w w')
  case atStart=>exact⟨(0),(by first|rfl|(simp;done)|(simp[*];done)),H',⟨Nat.le_refl _⟩,by repeat(first|exact Drawn0.refl _|apply Drawn0.step)⟩
  case round=>
   clear H';obtain⟨o,rfl,HA,an,⟨m1,rfl⟩⟩:=hrel;cases gk with
   |zero=>exact absurd HA.out (by simp[kf.l0])
   |succ k1=>
    have H:=HA.out;clear HA;simp only[kf.l0]at H;rcases vG H with⟨aM,H⟩|⟨aM,H⟩
    ·obtain⟨bD,H⟩:=vE H;obtain⟨b0,H⟩:=vE H;obtain⟨dU,H⟩:=vE H;rcases iT H with⟨c8,H⟩|⟨c8,H⟩
     ·obtain⟨df,dh⟩:=vW c8;clear c8;have H':=bm H;clear H;have az:0≤(o:Int):=pG;have aA:o<(l0.length:Int):=pG;obtain⟨cG,b5,b6⟩:=Kd.at_int al.out o az aA;cases b5;replace az:=vD az;replace aA:=vD aA;have aC:0≤(o:Int):=pG;have aD:o<(l1.length:Int):=pG;obtain⟨cH,b7,b8⟩:=Kd.at_int aj.out o aC aD;cases b7;replace aC:=vD aC;replace aD:=vD aD;go_wp2;repeat(go_quiet (fail);try go_wp2)
      go_roundg k1
      case measure=>have:=an.out;omega
      case rel=>exact⟨(wrap64 (o+1)),(by first|rfl|(simp;done)|(simp[*];done)),H',⟨by have:=an.out;omega⟩,by repeat(first|exact Drawn0.refl _|apply Drawn0.step)⟩
     ·obtain⟨df,dh⟩:=vV c8;obtain rfl:=vU H;have az:0≤(o:Int):=pG;have aA:o<(l0.length:Int):=pG;obtain⟨cG,b5,b6⟩:=Kd.at_int al.out o az aA;cases b5;replace az:=vD az;replace aA:=vD aA;have aC:0≤(o:Int):=pG;have aD:o<(l1.length:Int):=pG;obtain⟨cH,b7,b8⟩:=Kd.at_int aj.out o aC aD;cases b7;replace aC:=vD aC;replace aD:=vD aD;go_wp2;repeat(go_quiet (fail);try go_wp2)
      go_ret;exact vY
    ·obtain rfl:=vU H;go_wp2;repeat(go_quiet (fail);try go_wp2)
     go_ret;exact vY
 ·obtain⟨a6,bz⟩:=vV c3;have de:(l0.length==l1.length)=false:=by first|simpa using c3|(simp at c3⊢;omega)
  obtain rfl:=vU H;go_enter Tryz.func123,Tryz.ntmps123;go_wp2;repeat(go_quiet (fail);try go_wp2)
  go_ret;exact vY
def rC.f (l0:List Int):Option (List Int):=if l0.length≤1000 then some (l0.mergeSort fun x y=>decide (x≤y))else none
theorem rC.calls (aY:Nat→Prop) (af:Value) (l0:List Int) (r:List Int) (w0 w:World) (hB:Below w0.heap.size w0 w) (au:Kd.R (Kd.int .i64) 3 w w0.heap.size aY af l0) (h:rC.f l0=some r):
  Calls Tryz.prog 145 #[af] w fun e w'=>e= .returned (.tuple #[])∧Kd.R (Kd.int .i64) 3 w' w0.heap.size (fun k_=>(aY k_∨w.heap.size≤k_)) af r∧Below w0.heap.size w0 w'∧Kept w w' (fun k_=>aY k_):=by
 unfold rC.f at h;by_cases hs:l0.length≤1000
 ·rw[if_pos hs]at h;obtain rfl:=vU h;by_cases hp:l0.length=0
  ·obtain⟨A,c,rfl,_,_⟩:=Kd.R_reads au;obtain rfl:l0= []:=List.eq_nil_of_length_eq_zero hp;refine(Tryz.slices_Sort_int_none A c w).mono ?_;rintro e w' ⟨rfl,rfl⟩;exact⟨rfl,by rw[show(([]:List Int).mergeSort fun x y=>decide (x≤y))= [] from by simp];exact Kd.R_mono au (fun k hk=>Or.inl hk),hB,Kept.refl _ _⟩
  ·obtain⟨b9,inner,bp,aE⟩:=au;rcases bp.2 with⟨rfl,h0⟩|⟨g,cap,cur,rfl,bf,hb,h1,h2,h3,h4⟩
   ·exact absurd h0 hp
   ·have cI:inner=l0.map (Value.int .i64):=by
     have hl:=aE.1;have bc:=aE.2;apply List.ext_getElem
     ·rw[hl,List.length_map];exact Nat.mul_one _
     ·intro j hj hj';rw[List.length_map]at hj';have:=bc j l0[j] (List.getElem?_eq_getElem hj');have e1:(inner.drop (j*1)).take 1= [inner[j]]:=by rw[Nat.mul_one,List.drop_eq_getElem_cons hj];rfl
      have e2:(inner.drop (j*1)).take 1= [Value.int .i64 l0[j]]:=this;rw[e1]at e2;rw[List.getElem_map];exact List.head_eq_of_cons_eq e2
    have cJ:cur.toList.take l0.length=l0.map (Value.int .i64):=by rw[←cI,←h4];show _=cur.toList.take (l0.length*1);rw[Nat.mul_one]
    have hH:=holds_of_blockI hb cJ;refine(Tryz.slices_Sort_int g 0 cap l0 w hH (Array.getElem?_eq_some_iff.1 hb).1 (by omega)).mono ?_;rintro e w' ⟨rfl,n,os,rfl⟩;obtain⟨ts,bs⟩:∃ts,ts=l0.mergeSort fun x y=>decide (x≤y):=⟨_,rfl⟩
    have hlen:ts.length=l0.length:=by rw[bs,List.length_mergeSort]
    rw[←bs];have hs:=ownsRow_sortedI (w:=w) (n:=n) (os:=os) (base:=w0.heap.size) (cap:=cap) hlen bf hb h1 h2 h3;have hg:=grownBy_sortedI (w:=w) (g:=g) (n:=n) (os:=os) ts.toArray
    have Jd:Kd.R (Kd.int .i64) 3 (Sort.grow (Sort.putRow (Value.int .i64) (Sort.ahead w n) g 0 ts.toArray) os) w0.heap.size aY (.slice (some ⟨g,0,none⟩) l0.length cap) ts:=by
     refine⟨b9,_,by rw[hlen];exact hs,⟨by rw[List.length_map];exact(Nat.mul_one _).symm,fun j p hj=>?_⟩⟩;obtain⟨hj',rfl⟩:=List.getElem?_eq_some_iff.1 hj
     show(((ts.map (Value.int .i64)).drop (j*1)).take 1)= [Value.int .i64 ts[j]]
     rw[Nat.mul_one,List.drop_eq_getElem_cons (by rw[List.length_map];exact hj'),List.getElem_map];rfl
    refine⟨rfl,Kd.R_mono Jd (fun k hk=>Or.inl hk),pw_below_grown hB (some g) hB.size hg (fun k hk=>by injection hk with hk;omega),hg.size,fun i hi cK=>hg.block i hi (fun e=>cK ?_)⟩;injection e with e
    subst e;exact b9 _ rfl
 ·rw[if_neg hs]at h;cases h
def qy.f (l0:List Int):Option (List Int):=some (Lib.compact l0)
theorem qy.len (l:List Int):(Lib.compact l).length≤l.length:=by
 unfold Lib.compact Lib.compactUpTo;rw[List.length_map];exact Nat.le_trans (List.length_filter_le _ _) (by simp)
theorem qy.calls (aY:Nat→Prop) (af:Value) (l0:List Int) (r:List Int) (w0 w:World) (hB:Below w0.heap.size w0 w) (au:Kd.R (Kd.int .i64) 3 w w0.heap.size aY af l0) (h:qy.f l0=some r):
  Calls Tryz.prog 146 #[af] w fun e w'=>∃ca:Value,e= .returned (ca)∧Kd.R (Kd.int .i64) 3 w' w0.heap.size (fun k_=>(aY k_∨w.heap.size≤k_)) ca r∧Below w0.heap.size w0 w'∧Kept w w' (fun k_=>aY k_):=by
 obtain rfl:=vU h;by_cases hp:l0.length=0
 ·obtain⟨A,c,rfl,_,_⟩:=Kd.R_reads au;obtain rfl:l0= []:=List.eq_nil_of_length_eq_zero hp;refine(Tryz.slices_Compact_int_empty A c w).mono ?_;rintro e w' ⟨rfl,rfl⟩;exact⟨_,rfl,Kd.R_mono au (fun k hk=>Or.inl hk),hB,Kept.refl _ _⟩
 ·obtain⟨b9,inner,bp,aE⟩:=au;have dE:=bp;rcases bp.2 with⟨rfl,h0⟩|⟨g,cap,cur,rfl,bf,hb,h1,h2,h3,h4⟩
  ·exact absurd h0 hp
  ·have cI:inner=l0.map (Value.int .i64):=by
    have hl:=aE.1;have bc:=aE.2;apply List.ext_getElem
    ·rw[hl,List.length_map];exact Nat.mul_one _
    ·intro j hj hj';rw[List.length_map]at hj';have:=bc j l0[j] (List.getElem?_eq_getElem hj');have e1:(inner.drop (j*1)).take 1= [inner[j]]:=by rw[Nat.mul_one,List.drop_eq_getElem_cons hj];rfl
     have e2:(inner.drop (j*1)).take 1= [Value.int .i64 l0[j]]:=this;rw[e1]at e2;rw[List.getElem_map];exact List.head_eq_of_cons_eq e2
   have cJ:cur.toList.take l0.length=l0.map (Value.int .i64):=by rw[←cI,←h4];show _=cur.toList.take (l0.length*1);rw[Nat.mul_one]
   have hH:=holds_of_blockI hb cJ;have hm:l0.length≤9223372036854775807:=Nat.le_trans h1 h2;have dF:=qy.len l0;refine(Tryz.slices_Compact_int g 0 cap l0 w hH hm h1).mono ?_;rintro e w' ⟨rfl,n,rfl⟩;obtain⟨ts,bs⟩:∃ts,ts=Lib.compact l0++List.replicate (l0.length - (Lib.compact l0).length) 0:=⟨_,rfl⟩;have hlen:ts.length=l0.length:=by rw[bs,List.length_append,List.length_replicate];omega
   rw[←bs];have hs:=ownsRow_sortedI (w:=w) (n:=n) (os:= #[]) (base:=w0.heap.size) (cap:=cap) hlen bf hb h1 h2 h3;have hg:=grownBy_sortedI (w:=w) (g:=g) (n:=n) (os:= #[]) ts.toArray;rw[Sort.grow_empty]at hs hg
   have Jd:Kd.R (Kd.int .i64) 3 (Sort.putRow (Value.int .i64) (Sort.ahead w n) g 0 ts.toArray) w0.heap.size aY (.slice (some ⟨g,0,none⟩) l0.length cap) ts:=by
    refine⟨b9,_,by rw[hlen];exact hs,⟨by rw[List.length_map];exact(Nat.mul_one _).symm,fun j p hj=>?_⟩⟩;obtain⟨hj',rfl⟩:=List.getElem?_eq_some_iff.1 hj
    show(((ts.map (Value.int .i64)).drop (j*1)).take 1)= [Value.int .i64 ts[j]]
    rw[Nat.mul_one,List.drop_eq_getElem_cons (by rw[List.length_map];exact hj'),List.getElem_map];rfl
   have hT:=Kd.R_take (m:=(Lib.compact l0).length) Jd (by rw[hlen];exact dF);have dG:ts.take (Lib.compact l0).length=Lib.compact l0:=by rw[bs,List.take_left]
   rw[dG]at hT;refine⟨_,rfl,Kd.R_mono hT (fun k hk=>Or.inl hk),pw_below_grown hB (some g) hB.size hg (fun k hk=>by injection hk with hk;omega),hg.size,fun i hi cK=>hg.block i hi (fun e=>cK ?_)⟩;injection e with e
   subst e;exact b9 _ rfl
def kH.l0:Nat→List Int→Int→Int→Int→Option (Int)
 |0,_,_,_,_=>none
 |k+1,x0,x1,x7,x8=>if x8<x7 then(if 0≤x8 then(if x8<(x0.length:Int)then(if x1=(rd x0 x8)then(some x8)else(kH.l0 k x0 x1 x7 (wrap64 (x8+1))))else(none))else(none))else(some (-1))
def kH.f (k:Nat) (l0:List Int) (a1:Int):Option (Int):=kH.l0 k l0 a1 (l0.length:Int) 0
theorem kH.jQ:∀k,(∀y0 y1 y2 y3,qg (kH.l0 k y0 y1 y2 y3) (kH.l0 (k+1) y0 y1 y2 y3))
 |0=>fun _ _ _ _=> .z (by simp only[kH.l0])
 |k+1=>by
  have i0:=kH.jQ k;exact fun _ _ _ _=>by unfold kH.l0;infer_instance
instance kH.mo {k a0 a1}:qg (kH.f k a0 a1) (kH.f (k+1) a0 a1):=by have i0:=kH.jQ k;unfold kH.f;infer_instance
theorem kH.calls (k:Nat) (A0:Option Addr) (c0:Nat) (l0:List Int) (a1:Int) (r:Int) (w:World) (ak:Kd.C (Kd.int .i64) w A0 l0.length l0) (ag:l0.length≤c0) (h:kH.f k l0 a1=some r):
  Calls Tryz.prog 147 #[.slice A0 l0.length c0,.int .i64 a1] w fun e w'=>e= .returned (.int .i64 r)∧Drawn0 w w':=by
 have al:=bm ak;have cq:=bm ag;clear ak ag;have H:=h;clear h;unfold kH.f at H;have H':=bm H;clear H;go_enter Tryz.func147,Tryz.ntmps147;go_wp2;go_loopg [8] k (fun kq v8 w'=>∃(aa:Int),v8= .int .i64 aa∧jX (kH.l0 kq l0 a1 (l0.length:Int) aa=some r)∧jX (kq≤k)∧Drawn0 w w')
 case atStart=>exact⟨(0),(by first|rfl|(simp;done)|(simp[*];done)),H',⟨Nat.le_refl _⟩,by repeat(first|exact Drawn0.refl _|apply Drawn0.step)⟩
 case round=>
  clear H';obtain⟨aa,rfl,HA,an,⟨m1,rfl⟩⟩:=hrel;cases gk with
  |zero=>exact absurd HA.out (by simp[kH.l0])
  |succ k1=>
   have H:=HA.out;clear HA;simp only[kH.l0]at H;rcases vG H with⟨a6,H⟩|⟨a6,H⟩
   ·obtain⟨aM,H⟩:=vE H;obtain⟨bD,H⟩:=vE H;rcases iT H with⟨c6,H⟩|⟨c6,H⟩
    ·obtain⟨b0,cr⟩:=vW c6;clear c6;obtain rfl:=vU H;have aG:0≤(aa:Int):=pG;have aH:aa<(l0.length:Int):=pG;obtain⟨cL,cb,cc⟩:=Kd.at_int al.out aa aG aH;cases cb;replace aG:=vD aG;replace aH:=vD aH;go_wp2;go_ret;exact vY
    ·obtain⟨b0,cr⟩:=vV c6;have H':=bm H;clear H;have aG:0≤(aa:Int):=pG;have aH:aa<(l0.length:Int):=pG;obtain⟨cL,cb,cc⟩:=Kd.at_int al.out aa aG aH;cases cb;replace aG:=vD aG;replace aH:=vD aH;go_wp2;go_roundg k1
     case measure=>have:=an.out;omega
     case rel=>exact⟨(wrap64 (aa+1)),(by first|rfl|(simp;done)|(simp[*];done)),H',⟨by have:=an.out;omega⟩,by repeat(first|exact Drawn0.refl _|apply Drawn0.step)⟩
   ·obtain rfl:=vU H;go_wp2;go_ret;exact vY
def qj.l0:Nat→List Int→List Int→List Int→Int→Int→Option (List Int)
 |0,_,_,_,_,_=>none
 |k+1,x3,x4,x15,x16,x17=>if x17<x16 then(if 0≤x17 then(if x17<(x15.length:Int)then((kH.f k x3 (rd x15 x17)).bind fun t125=>(if x4.length<17592186044416 then(qj.l0 k x3 (x4++ [t125]) x15 x16 (wrap64 (x17+1)))else(none)))else(none))else(none))else(some x4)
def qj.f (k:Nat) (l0:List Int):Option (List Int):=(some (([]:List Int):List Int)).bind fun ah=>(if ah.length+l0.length<17592186044416 then((rC.f (ah++l0)).bind fun t117=>((qy.f t117).bind fun t118=>(qj.l0 k t118 (([]:List Int)) l0 (l0.length:Int) 0)))else(none))
theorem qj.jQ:∀k,(∀y0 y1 y2 y3 y4,qg (qj.l0 k y0 y1 y2 y3 y4) (qj.l0 (k+1) y0 y1 y2 y3 y4))
 |0=>fun _ _ _ _ _=> .z (by simp only[qj.l0])
 |k+1=>by
  have i0:=qj.jQ k;exact fun _ _ _ _ _=>by unfold qj.l0;infer_instance
instance qj.mo {k a0}:qg (qj.f k a0) (qj.f (k+1) a0):=by have i0:=qj.jQ k;unfold qj.f;infer_instance
theorem qj.calls (k:Nat) (A0:Option Addr) (c0:Nat) (l0:List Int) (r:List Int) (w:World) (ak:Kd.C (Kd.int .i64) w A0 l0.length l0) (ag:l0.length≤c0) (h:qj.f k l0=some r):
  Calls Tryz.prog 126 #[.slice A0 l0.length c0] w fun e w'=>∃ca:Value,e= .returned (ca)∧Kd.R (Kd.int .i64) 3 w' w.heap.size (fun _=>True) ca r∧Below w.heap.size w w':=by
 have al:=bm ak;have cq:=bm ag;clear ak ag;have HB:=bm (Below.refl w.heap.size w);have H:=h;clear h;unfold qj.f at H;obtain⟨ah,bg⟩:∃y_:List Int,y_=(([]:List Int)):=⟨_,rfl⟩;replace H:(if ah.length+l0.length<17592186044416 then((rC.f (ah++l0)).bind fun t117=>((qy.f t117).bind fun t118=>(qj.l0 k t118 (([]:List Int)) l0 (l0.length:Int) 0)))else(none))=some r:=by first|(rw[bg];exact H)|exact H
 have cd:=bm bg;clear bg;obtain⟨c2,H⟩:=iN H;have di:=bm c2;clear c2;obtain⟨aw,bh⟩:∃y_:List Int,y_=(ah++l0):=⟨_,rfl⟩;rw[←bh]at H
 have cM:=bm bh;clear bh;obtain⟨t117,A3,H⟩:=bE H;try dsimp only at H
 obtain⟨t118,A4,H⟩:=bE H;try dsimp only at H
 obtain⟨ct,bj⟩:∃y_:List Int,y_=(([]:List Int)):=⟨_,rfl⟩;replace H:(qj.l0 k t118 ct l0 (l0.length:Int) 0)=some r:=by first|(rw[bj];exact H)|exact H
 have cf:=bm bj;clear bj;have H':=bm H;clear H;go_enter Tryz.func126,Tryz.ntmps126;go_wp2_with (first|((with_reducible refine gate_dst (N:=7) rfl ?_);refine Kd.R_lit (Kd.int .i64) _ 3 ?hg (N:=7) ?hd (xs:=([]:List Int)) (inner:=[]) (ok:=fun _=>True) (okp:=fun _=>True) ?hr ?hp (fun _ hk=>hk) trivial (Below.refl _ _) (Nat.le_refl _) (by simp) ?_;(case hd=>rfl);(case hg=>rfl);(case hr=>first|(go_simp;done)|(go_simp;rfl));(case hp=>exact(Reps.none _ _));intro dj w5 cg hb cN bk;clear cN bk;(first|rw[←cd.out]at cg|(simp only[Int.reduceToNat]at cg;rw[←cd.out]at cg));have ch:=vX cg HB;replace HB:=bW HB hb;clear hb cg)|((with_reducible refine gate_builtin (b:=.append) (xs:= #[.tmp 7,.tmp 8]) rfl ?_);at_builtin;refine Kd.R_append_rows (Kd.int .i64) (w0:=w) w.heap.size rfl (.tmp 7) (.tmp 8) 23 3 (.int .i64 0) 8 rfl Tryz.underlying23 info3 rfl (by decide) (by omega) dj ah l0 _ _ _ (fun _=>True) (fun _=>False) rfl rfl ?aO ?aR (fun _ _ h=>h) (fun _ h=>h.elim) ?aF ?aB ?aS ?aL ?_;(case aR=>repeat(first|exact(Kd.C_below al.out HB.out)|(with_reducible refine Kd.C_alloc ?_ _)|(with_reducible refine Kd.C_drewN ?_ _)|(with_reducible refine Kd.C_drew ?_)));(case aB=>exact(wZ HB));(case aF=>exact(fun _ _=>trivial));(case aO=>exact(rS ch));(case aS=>exact(below_size (wZ HB)));(case aL=>have:=di.out;omega);intro dV w7 ho hb hg bc;rw[←cM.out]at ho;replace HB:=bm (hb);have av:=bm (ho);clear ch;clear ho hb hg bc;obtain⟨bu,bw,dH⟩:=Kd.R_slice av.out;subst dH)|(refine gB (some 11) Tryz.func145 #[.slice bu aw.length bw] rfl ?_;(with_reducible refine(rC.calls (fun k_=>some k_=(.slice bu aw.length bw:Value).ownBlock) (.slice bu aw.length bw) aw t117 w _ ?sn ?sq A3.out).mono ?_);(case sn=>repeat(with_reducible first|exact HB.out|apply EA));(case sq=>exact Kd.R_tight rfl av.out);rintro e w9 ⟨rfl,dk,hb,cO⟩;refine⟨_,rfl,?_⟩;replace av:=bm (Kd.R_reok rfl dk (fun k_ e_=>av.out.1 k_ e_));replace HB:=bm (hb);(try clear hb);(try clear cO);(try clear dk))|(refine gB (some 13) Tryz.func146 #[.slice bu aw.length bw] rfl ?_;(with_reducible refine(qy.calls (fun k_=>some k_=(.slice bu aw.length bw:Value).ownBlock) (.slice bu aw.length bw) t117 t118 w _ ?sn ?sq A4.out).mono ?_);(case sn=>repeat(with_reducible first|exact HB.out|apply EA));(case sq=>exact Kd.R_tight rfl av.out);rintro e dI ⟨cu,rfl,au,hb,cO⟩;refine⟨_,rfl,?_⟩;have aZ:=bm (Kd.R_mono (ok':=fun k_=>True) au (fun k_ eb=>trivial));replace HB:=bm (hb);clear av;(try clear hb);(try clear cO);(try clear au))|((with_reducible refine gate_dst (N:=14) rfl ?_);refine Kd.R_lit (Kd.int .i64) _ 3 ?hg (N:=14) ?hd (xs:=([]:List Int)) (inner:=[]) (ok:=fun _=>True) (okp:=fun _=>True) ?hr ?hp (fun _ hk=>hk) trivial (Below.refl _ _) (Nat.le_refl _) (by simp) ?_;(case hd=>rfl);(case hg=>rfl);(case hr=>first|(go_simp;done)|(go_simp;rfl));(case hp=>exact(Reps.none _ _));intro dW ec aQ hb cN bk;clear cN bk;(first|rw[←cf.out]at aQ|(simp only[Int.reduceToNat]at aQ;rw[←cf.out]at aQ));have cP:=bm (Kd.R_lower (Kd.R_new' aQ (Kd.R_lt (rS aZ))) (below_size (wZ HB)));replace aZ:=bm (Kd.R_elder' (rS aZ) (Kd.R_base aQ) hb);replace HB:=bW HB hb;clear hb aQ));go_loopg [4,17] k (fun kq v4 dJ w'=>∃(I:List Int) (ab:Int),dJ= .int .i64 ab∧jX (qj.l0 kq t118 I l0 (l0.length:Int) ab=some r)∧jX (kq≤k)∧jX (Kd.R (Kd.int .i64) 3 w' w.heap.size (fun k_=>some k_≠(v4:Value).ownBlock) cu t118)∧jX (Kd.R (Kd.int .i64) 3 w' w.heap.size (fun k_=>some k_≠(cu:Value).ownBlock) v4 I)∧jX (Below w.heap.size w w'))
 case atStart=>exact⟨(ct),(0),(by first|rfl|(simp;done)|(simp[*];done)),H',⟨Nat.le_refl _⟩,⟨by(repeat apply Kd.RS);exact Kd.R_mono aZ.out (fun _ hk=>hk.2)⟩,⟨by(repeat apply Kd.RS);exact Kd.R_mono cP.out (fun _ hk=>hk.2)⟩,⟨wZ HB⟩⟩
 case round=>
  clear H';obtain⟨I,ab,rfl,HA,an,rv,wP,HB⟩:=hrel;cases gk with
  |zero=>exact absurd HA.out (by simp[qj.l0])
  |succ k1=>
   have H:=HA.out;clear HA;simp only[qj.l0]at H;rcases vG H with⟨cQ,H⟩|⟨cQ,H⟩
   ·obtain⟨dK,H⟩:=vE H;obtain⟨dL,H⟩:=vE H;obtain⟨t125,dM,H⟩:=bE H;try dsimp only at H
    obtain⟨dp,H⟩:=iN H;have cR:=bm dp;clear dp;obtain⟨cv,bl⟩:∃y_:List Int,y_=(I++ [t125]):=⟨_,rfl⟩;rw[←bl]at H
    have cS:=bm bl;clear bl;have H':=bm H;clear H;have ck:0≤(ab:Int):=pG;have cl:ab<(l0.length:Int):=pG;obtain⟨dN,dq,aI⟩:=Kd.at_int al.out ab ck cl;cases dq;replace aI:=vA HB aI;replace ck:=vD ck;replace cl:=vD cl;obtain⟨cw,cx,dr⟩:=Kd.R_slice rv.out;subst dr;go_wp2_with (first|(refine gB (some 24) Tryz.func147 #[.slice cw t118.length cx,.int .i64 (rd l0 ab)] rfl ?_;(with_reducible refine(kH.calls k1 _ _ t118 (rd l0 ab) t125 _ ?_ ?_ dM.out).mono ?_);exact cZ (Kd.R_reads' rv.out).2.2;exact(Kd.R_reads' rv.out).2.1;rintro e w' ⟨rfl,⟨nd,rfl⟩⟩;refine⟨_,rfl,?_⟩)|((with_reducible refine gate_builtin (b:=.append) (xs:= #[.tmp 21,.tmp 25]) rfl ?_);at_builtin;refine Kd.R_append (Kd.int .i64) (w0:=w) w.heap.size rfl (.tmp 21) (.tmp 25) 23 3 (.int .i64 0) 8 rfl Tryz.underlying23 info3 rfl (by decide) (by omega) u4 I t125 [.int .i64 t125] (fun k_=>some k_≠(.slice cw t118.length cx:Value).ownBlock) (fun _=>False) rfl rfl ?aP (fun _ hk=>hk.elim) ?aF ?aO ?aB ?aS ?aL ?_;(case aP=>exact rfl);(case aB=>exact(wZ HB));(case aF=>exact(fun k_ hk=>Kd.fresh' (Kd.R_lt (rS rv)) k_ hk));(case aO=>exact(rS wP));(case aS=>exact(below_size (wZ HB)));(case aL=>have:=cR.out;omega);intro v127 ed ho hb hg bc;rw[←cS.out]at ho;replace rv:=bm (Kd.R_after (ok:=(fun _=>True)) (by(repeat apply Kd.RS);exact Kd.R_mono rv.out (fun _ hk=>⟨trivial,hk⟩)) hg bc);replace HB:=bm (hb);have cT:=bm (ho);clear wP;clear ho hb hg bc));go_roundg k1
    case measure=>have:=an.out;omega
    case rel=>exact⟨(cv),(wrap64 (ab+1)),(by first|rfl|(simp;done)|(simp[*];done)),H',⟨by have:=an.out;omega⟩,⟨by(repeat apply Kd.RS);exact Kd.R_mono rv.out (fun _ hk=>hk.2)⟩,⟨by(repeat apply Kd.RS);exact cT.out⟩,⟨wZ HB⟩⟩
   ·obtain rfl:=vU H;go_wp2;go_ret;exact⟨_,by first|rfl|(simp[*,jS,jT]<;>rfl),by(repeat apply Kd.RS);exact Kd.R_mono wP.out (fun _ hk=>trivial),wZ HB⟩
def qz.f (k:Nat) (a0:Int) (l1:List Int):Option (Bool):=(pW.f k a0 l1).bind fun t129=>(if t129=true then((qj.f k l1).bind fun t130=>((kf.f k t130 l1).bind fun t133=>(some t133)))else(some false))
instance qz.mo {k a0 a1}:qg (qz.f k a0 a1) (qz.f (k+1) a0 a1):=by unfold qz.f;infer_instance
theorem qz.mono:∀a0 a1 k,LeO (qz.f k a0 a1) (qz.f (k+1) a0 a1):=fun _ _ _=>qz.mo.h
theorem qz.calls (k:Nat) (a0:Int) (A1:Option Addr) (c1:Nat) (l1:List Int) (r:Bool) (w:World) (ba:Kd.C (Kd.int .i64) w A1 l1.length l1) (bb:l1.length≤c1) (h:qz.f k a0 l1=some r):
  Calls Tryz.prog 96 #[.int .i64 a0,.slice A1 l1.length c1] w fun e w'=>e= .returned (.bool r)∧Below w.heap.size w w':=by
 have aj:=bm ba;have aV:=bm bb;clear ba bb;have HB:=bm (Below.refl w.heap.size w);have H:=h;clear h;unfold qz.f at H;obtain⟨t129,A3,H⟩:=bE H;try dsimp only at H
 by_cases c4:t129=true
 ·subst c4;rw[if_pos rfl]at H;obtain⟨t130,A5,H⟩:=bE H;try dsimp only at H
  obtain⟨t133,A6,H⟩:=bE H;try dsimp only at H
  obtain rfl:=vU H;go_enter Tryz.func96,Tryz.ntmps96;go_wp2_with (first|(refine gB (some 7) Tryz.func66 #[.int .i64 a0,.slice A1 l1.length c1] rfl ?_;(with_reducible refine(pW.calls k a0 _ _ l1 true _ ?_ ?_ A3.out).mono ?_);exact cZ aj.out;exact aV.out;rintro e w7 ⟨rfl,hb⟩;refine⟨_,rfl,?_⟩;replace HB:=bW HB hb;clear hb)|(go_at_call 126;(with_reducible refine(qj.calls k _ _ l1 t130 _ ?_ ?_ A5.out).mono ?_);exact cY aj HB;exact aV.out;rintro e w8 ⟨v131,rfl,au,hb⟩;have bn:=vX au HB;replace HB:=bW HB hb;clear hb;(try clear au);obtain⟨ee,ef,dO⟩:=Kd.R_slice bn.out;subst dO)|(go_at_call 123;(with_reducible refine(kf.calls k _ _ t130 _ _ l1 t133 _ ?_ ?_ ?_ ?_ A6.out).mono ?_);exact cZ (Kd.R_reads' bn.out).2.2;exact(Kd.R_reads' bn.out).2.1;exact cY aj HB;exact aV.out;rintro e w' ⟨rfl,⟨nd,rfl⟩⟩));go_ret;exact vZ HB
 ·replace c4:=uZ c4;subst c4;rw[if_neg vM]at H;obtain rfl:=vU H;go_enter Tryz.func96,Tryz.ntmps96;go_wp2_with (first|(refine gB (some 7) Tryz.func66 #[.int .i64 a0,.slice A1 l1.length c1] rfl ?_;(with_reducible refine(pW.calls k a0 _ _ l1 false _ ?_ ?_ A3.out).mono ?_);exact cZ aj.out;exact aV.out;rintro e dI ⟨rfl,hb⟩;refine⟨_,rfl,?_⟩;replace HB:=bW HB hb;clear hb));go_ret;exact vZ HB
/-- Called at a row of numbers, in every world in which all that lay in w lies, the function value answers what p says, where p says something. -/
def Bv (g:Nat) (lb:Array Value) (p:List Int→Option Bool) (w:World):Prop:=
 ∀(W:World) (A:Option Addr) (c:Nat) (l:List Int) (b:Bool),Below w.heap.size w W→Kd.C (Kd.int .i64) W A l.length l→l.length≤c→p l=some b→
  Calls Tryz.prog g (#[.slice A l.length c]++lb) W fun e w'=>e= .returned (.bool b)∧Below W.heap.size W w'
theorem FJ {w:World} {A:Option Addr} {n:Nat} {xs:List (List Int)} (h:Kd.C (Kd.slice 3 (Kd.int .i64)) w A n xs) (i:Int) (h0:0≤i) (h1:i<n):
  ∃ad A0 c0,A=some ad∧w.cell? (ad.add i.toNat)=some (.slice A0 (xs.getD i.toNat []).length c0)∧(xs.getD i.toNat []).length≤c0∧Kd.C (Kd.int .i64) w A0 (xs.getD i.toNat []).length (xs.getD i.toNat []):=by
 obtain⟨ad,c,e,_,hK,ag⟩:=Kd.C_get h ([]:List Int) i h0 h1;have hc:∀j u,c[j]?=some u→w.cell? (ad.add (i.toNat*1+j))=some u:=ag;obtain⟨A0,c0,rfl,l0,g0⟩:=hK;exact⟨ad,A0,c0,e,by have hq:=hc 0 _ rfl;rwa [Nat.mul_one,Nat.add_zero]at hq,l0,g0⟩
theorem CL {p:List Int→Option Bool} {l:List (List Int)} {x:Int} (h0:0≤x) (h1:x<(l.length:Int)):
  Hof.yL p (l.drop x.toNat) x=(p (l.getD x.toNat [])).bind fun b=>if b=true then some x else Hof.yL p (l.drop (x+1).toNat) (x+1):=by
 have hl:x.toNat<l.length:=by omega
 rw[List.drop_eq_getElem_cons hl,show(x+1).toNat=x.toNat+1 from by omega,List.getD_eq_getElem?_getD,List.getElem?_eq_getElem hl];rfl
theorem ym (g:Nat) (lb:Array Value) (eg:∀args w,(callFunc g args).run Tryz.prog w= .ok (.enter g args) w) (p:List Int→Option Bool)
  (A:Option Addr) (c:Nat) (l:List (List Int)) (r:Int) (w:World) (hr:Kd.C (Kd.slice 3 (Kd.int .i64)) w A l.length l) (hp:Bv g lb p w) (h:Hof.yL p l 0=some r):
  Calls Tryz.prog 127 #[.slice A l.length c,.func (.func g) #[] lb] w fun e w'=>e= .returned (.int .i64 r)∧Below w.heap.size w w':=by
 have HR:=bm hr;have HP:=bm hp;have HH:jX (Hof.yL p (l.drop (0:Int).toNat) 0=some r):=bm h;have hlen:(l.length:Int)≤9223372036854775807:=by have:=hr.2.1;omega
 clear hr hp h;go_enter Tryz.func127,Tryz.ntmps127;go_wp2;go_loopg [5,8] l.length (fun gg _ s8 wr=>∃x:Int,0≤x∧x≤(l.length:Int)∧(l.length:Int) - x≤gg∧s8= .int .i64 x∧jX (Below w.heap.size w wr)∧jX (Hof.yL p (l.drop x.toNat) x=some r))
 case atStart=>exact⟨0,by omega,by omega,by omega,rfl,⟨Below.refl _ _⟩,HH⟩
 case round=>
  clear HH;obtain⟨x,ds,eh,hg,rfl,HB,HA⟩:=hrel;by_cases dt:x<(l.length:Int)
  ·obtain⟨ad,A0,c0,e,hx,cU,du⟩:=FJ HR.out x ds dt;cases e;replace hx:=vA HB hx;have cV:=Kd.C_below du HB.out;obtain⟨b,hb,aJ⟩:=Option.bind_eq_some_iff.mp ((CL ds dt).symm.trans HA.out);clear HA;obtain⟨y,hy⟩:∃y,y=l.getD x.toNat []:=⟨_,rfl⟩;rw[←hy]at hx cU cV hb;have aK:=HP.out wr A0 c0 y b HB.out cV cU hb;have zc:=bm aJ;clear aJ hb HR HP du cV cU hy;cases b with
   |true=>
    go_wp2_with fail;refine aK.mono ?_;rintro e w' ⟨rfl,hb'⟩;go_wp2_with fail;obtain rfl:x=r:=by have:=zc.out;simpa using this
    go_ret;exact⟨rfl,below_then HB.out HB.out.size hb'⟩
   |false=>
    go_wp2_with fail;refine aK.mono ?_;rintro e w' ⟨rfl,hb'⟩;go_wp2_with fail;go_roundg (l.length - (x+1).toNat)
    case measure=>omega
    case rel=>exact⟨x+1,by omega,by omega,by omega,by go_num,⟨below_then HB.out HB.out.size hb'⟩,⟨by have:=zc.out;simpa using this⟩⟩
  ·have dP:x=(l.length:Int):=by omega
   have e2:(-1:Int)=r:=by
    have:=HA.out;rw[dP,show((l.length:Int)).toNat=l.length from by omega,List.drop_length]at this;simpa [Hof.yL] using this
   clear HA;subst e2;go_wp2;go_ret;exact⟨rfl,HB.out⟩
theorem xP (g:Nat) (lb:Array Value) (eg:∀args w,(callFunc g args).run Tryz.prog w= .ok (.enter g args) w) (p:List Int→Option Bool)
  (A:Option Addr) (c:Nat) (l:List (List Int)) (r:Bool) (w:World) (hr:Kd.C (Kd.slice 3 (Kd.int .i64)) w A l.length l) (hp:Bv g lb p w) (h:Hof.Dr p l=some r):
  Calls Tryz.prog 97 #[.slice A l.length c,.func (.func g) #[] lb] w fun e w'=>e= .returned (.bool r)∧Below w.heap.size w w':=by
 obtain⟨i,hi,hr'⟩:=Option.bind_eq_some_iff.mp h;obtain rfl:=vU hr';clear h;have aK:=ym g lb eg p A c l i w hr hp hi;clear hi hp hr hr';have HC:=bm aK;clear aK;go_enter Tryz.func97,Tryz.ntmps97;go_wp2_with (go_at_call 127;refine HC.out.mono ?_;rintro e w' ⟨rfl,hb'⟩);go_ret;exact⟨rfl,hb'⟩
def qf.no (k:Nat) (a0:Int) (x:List Int):Option Bool:=(qz.f k a0 x).bind fun b=>some (!b)
def qf.f (k:Nat) (ai:Int) (aq:List Int) (J:List (List Int)):Option Bool:=(qz.f k ai aq).bind fun t=>if t=true then(if(J.length:Int)≤10 then(Hof.Dr (qf.no k ai) J).bind fun b=>some (!b)else some false)else some false
theorem zL {α:Type} {p q:α→Option Bool} (h:∀x,LeO (p x) (q x)):∀(l:List α) (i:Int),LeO (Hof.yL p l i) (Hof.yL q l i)
 | [],_=>LeO.refl _
 |x::l,i=>by
  unfold Hof.yL;refine LeO.bind (h x) (fun b=>?_);split
  ·exact LeO.refl _
  ·exact zL h l (i+1)
theorem qf.mono:∀a0 a1 a2 k,LeO (qf.f k a0 a1 a2) (qf.f (k+1) a0 a1 a2):=by
 intro a0 a1 a2 k;unfold qf.f;refine LeO.bind (qz.mono _ _ _) (fun t=>LeO.ite (LeO.ite (LeO.bind ?_ (fun b=>LeO.refl _)) (LeO.refl _)) (LeO.refl _));unfold Hof.Dr;refine LeO.bind (zL (fun x=>?_) _ _) (fun b=>LeO.refl _);unfold qf.no;exact LeO.bind (qz.mono _ _ _) (fun b=>LeO.refl _)
instance qf.mo {k a0 a1 a2}:qg (qf.f k a0 a1 a2) (qf.f (k+1) a0 a1 a2):=⟨qf.mono a0 a1 a2 k⟩
theorem qf.gives (k:Nat) (w:World) (B:Nat) (a0:Int) (hB:B<w.heap.size) (hc:w.cell? ⟨B,0,none⟩=some (.int .i64 a0)):Bv 98 #[.pointer (some ⟨B,0,none⟩)] (qf.no k a0) w:=fun W A c l b hb hC hl hp=>by
 have hc':=(hb.cell (p:=⟨B,0,none⟩) hB).trans hc;obtain⟨t,ht,aJ⟩:=Option.bind_eq_some_iff.mp hp;obtain rfl:=vU aJ;have HS:=bm (qz.calls k a0 A c l t W hC hl ht);clear hc hb hp ht aJ hC hl;have hu:=Tryz.underlying26;go_enter Tryz.func98,Tryz.ntmps98;go_wp2_with fail;refine HS.out.mono ?_;rintro e w1 ⟨rfl,ar⟩;go_wp2;go_ret;exact⟨rfl,ar⟩
theorem qf.calls (k:Nat) (ai:Int) (bq:Option Addr) (br:Nat) (aq:List Int) (aT:Option Addr) (aU:Nat) (J:List (List Int)) (r:Bool) (w:World) (cm:Kd.C (Kd.int .i64) w bq aq.length aq) (cn:aq.length≤br) (cp:Kd.C (Kd.slice 3 (Kd.int .i64)) w aT J.length J) (dQ:J.length≤aU) (h:qf.f k ai aq J=some r):
  Calls Tryz.prog 43 #[.agg #[.int .i64 ai,.slice bq aq.length br,.slice aT J.length aU]] w fun e w'=>e= .returned (.bool r)∧Below w.heap.size w w':=by
 have hu:=Tryz.underlying26;obtain⟨t,ht,h⟩:=Option.bind_eq_some_iff.mp h;have aj:=bm cm;have dR:=bm cp;have HB:=bm (Below.refl w.heap.size w);have HA:=bm (CG HB.out (.cells #[.int .i64 ai,.slice bq aq.length br,.slice aT J.length aU] 26));have HT:=bm (fun W hR=>qz.calls k ai bq br aq t W hR cn ht);clear cm cp ht cn;cases t with
 |false=>
  obtain rfl:false=r:=by simpa using h
  clear h;go_enter Tryz.func43,Tryz.ntmps43;go_wp2_with fail;refine(HT.out _ (Kd.C_below aj.out HA.out)).mono ?_;rintro e w1 ⟨rfl,ar⟩;have bo:=bm (below_then HA.out HA.out.size ar);clear ar;go_wp2;go_ret;exact⟨rfl,bo.out⟩
 |true=>
  rw[if_pos rfl]at h;by_cases hl:(J.length:Int)≤10
  ·rw[if_pos hl]at h;obtain⟨b,hb,h⟩:=Option.bind_eq_some_iff.mp h;obtain rfl:=vU h;have HC:=bm (fun W hR hp=>xP 98 #[.pointer (some ⟨w.heap.size,0,none⟩)] (Hof.enters Tryz.func98 (by kernel_rfl) rfl) (qf.no k ai) aT aU J b W hR hp hb);clear h hb;have hl':decide ((J.length:Int)≤10)=true:=vC hl;have dS:decide (J.length≤10)=true:=vC (by omega);clear hl;go_enter Tryz.func43,Tryz.ntmps43;go_wp2_with fail;refine(HT.out _ (Kd.C_below aj.out HA.out)).mono ?_;rintro e w1 ⟨rfl,ar⟩;have k0:w1.cell? ⟨w.heap.size,0,none⟩=some (.int .i64 ai):=(ar.cell (p:=⟨w.heap.size,0,none⟩) (by simp)).trans (by simp);have k2:w1.cell? ⟨w.heap.size,2,none⟩=some (.slice aT J.length aU):=(ar.cell (p:=⟨w.heap.size,2,none⟩) (by simp)).trans (by simp);have hz:w.heap.size<w1.heap.size:=Nat.lt_of_lt_of_le (by simp) ar.size;have bo:=bm (below_then HA.out HA.out.size ar);have HG:=bm (qf.gives k w1 w.heap.size ai hz k0);clear ar hz;go_wp2_with fail;refine(HC.out _ (Kd.C_below dR.out bo.out) HG.out).mono ?_;rintro e w2 ⟨rfl,dT⟩;go_wp2;go_ret;exact⟨rfl,below_then bo.out bo.out.size dT⟩
  ·rw[if_neg hl]at h;obtain rfl:=vU h;clear h;have hl':decide ((J.length:Int)≤10)=false:=vB hl;have dS:decide (J.length≤10)=false:=vB (by omega);clear hl;go_enter Tryz.func43,Tryz.ntmps43;go_wp2_with fail;refine(HT.out _ (Kd.C_below aj.out HA.out)).mono ?_;rintro e w1 ⟨rfl,ar⟩;have k2:w1.cell? ⟨w.heap.size,2,none⟩=some (.slice aT J.length aU):=(ar.cell (p:=⟨w.heap.size,2,none⟩) (by simp)).trans (by simp);have bo:=bm (below_then HA.out HA.out.size ar);clear ar;go_wp2;go_ret;exact⟨rfl,bo.out⟩
end Go.Proofs.YtihgpkohglcijaaGreatDoor.P
