import Derived.Test.YtigeaokfhnlkcaaGreatDoorPx0
import Derived.Test.YtigeaokfhnlkcaaGreatDoorPx13
import Derived.Test.YtigeaokfhnlkcaaGreatDoorPx14
import Derived.Test.YtigeaokfhnlkcaaGreatDoorPx25
namespace Go.Proofs.YtigeaokfhnlkcaaGreatDoor.P
open Go.RowKit YtigeaokfhnlkcaaGreatDoorW PrintWords PrintLast PrintMore
attribute [local go_sem] max2_int min2_int max_two min_two max_three min_three max_four min_four
set_option linter.unusedVariables false
set_option linter.unusedSimpArgs false
set_option maxHeartbeats 8000000
set_option maxRecDepth 100000
def jI.l0:Nat→LI→LI→Int→Option (Bool)
 |0,_,_,_=>none
 |k+1,x0,x1,x5=>if x5<(x0.length:Int)then(if 0≤x5 then(if x5<(x1.length:Int)then(if(rd x0 x5)=(rd x1 x5)then(jI.l0 k x0 x1 (wrap64 (x5+1)))else(some false))else(none))else(none))else(some true)
def jI.f (k:Nat) (l0:LI) (l1:LI):Option (Bool):=if(l0.length:Int)=(l1.length:Int)then(jI.l0 k l0 l1 0)else(some false)
theorem jI.hZ:∀k,(∀y0 y1 y2,lS (jI.l0 k y0 y1 y2) (jI.l0 (k+1) y0 y1 y2))
 |0=>fun _ _ _=> .z (by simp only[jI.l0])
 |k+1=>by
  have i0:=jI.hZ k;exact fun _ _ _=>by unfold jI.l0;infer_instance
instance jI.mo {k a0 a1}:lS (jI.f k a0 a1) (jI.f (k+1) a0 a1):=by have i0:=jI.hZ k;unfold jI.f;infer_instance
theorem jI.calls (k:Nat) (A0:Option Addr) (c0:Nat) (l0:LI) (A1:Option Addr) (c1:Nat) (l1:LI) (r:Bool) (w:World) (bb:Kd.C KI w A0 l0.length l0) (bc:l0.length≤c0) (bd:Kd.C KI w A1 l1.length l1) (bf:l1.length≤c1) (h:jI.f k l0 l1=some r):
  Calls Tryz.prog 32 #[.slice A0 l0.length c0,.slice A1 l1.length c1] w fun e w'=>e= .returned (.bool r)∧Drawn0 w w':=by
 have bg:=bm bb;have dc:=bm bc;clear bb bc;have bh:=bm bd;have dd:=bm bf;clear bd bf;have H:=h;clear h;unfold jI.f at H;rcases iT H with⟨c3,H⟩|⟨c3,H⟩
 ·obtain⟨aM,aN⟩:=pf c3;have bj:(l0.length==l1.length)=true:=by first|simpa using c3|(simp at c3⊢;omega)
  clear c3;have H':=bm H;clear H;go_enter Tryz.func32,Tryz.ntmps32;go_wp2;repeat(go_quiet (fail);try go_wp2)
  go_loopg [5] k (fun kq v5 w'=>∃(j:Int),v5= .int .i64 j∧hJ (jI.l0 kq l0 l1 j=some r)∧hJ (kq≤k)∧Drawn0 w w')
  case atStart=>exact⟨(0),eA,H',⟨Nat.le_refl _⟩,by repeat(first|exact Drawn0.refl _|apply Drawn0.step)⟩
  case round=>
   clear H';obtain⟨j,rfl,HA,bk,⟨m1,rfl⟩⟩:=hrel;cases gk with
   |zero=>exact absurd HA.out (by simp[jI.l0])
   |succ k1=>
    have H:=HA.out;clear HA;simp only[jI.l0]at H;rcases pP H with⟨a8,H⟩|⟨a8,H⟩
    ·obtain⟨cH,H⟩:=pN H;obtain⟨cI,H⟩:=pN H;rcases iT H with⟨c7,H⟩|⟨c7,H⟩
     ·obtain⟨bD,bF⟩:=pf c7;clear c7;have H':=bm H;clear H;have aO:0≤(j:Int):=ko;have aP:j<(l0.length:Int):=ko;obtain⟨cN,bH,bJ⟩:=Kd.at_int bg.out j aO aP;cases bH;replace aO:=pM aO;replace aP:=pM aP;have aQ:0≤(j:Int):=ko;have aR:j<(l1.length:Int):=ko;obtain⟨cO,bO,bT⟩:=Kd.at_int bh.out j aQ aR;cases bO;replace aQ:=pM aQ;replace aR:=pM aR;go_wp2;repeat(go_quiet (fail);try go_wp2)
      go_roundg k1
      case measure=>have:=bk.out;omega
      case rel=>exact⟨(wrap64 (j+1)),eA,H',⟨by have:=bk.out;omega⟩,by repeat(first|exact Drawn0.refl _|apply Drawn0.step)⟩
     ·obtain⟨bD,bF⟩:=pe c7;obtain rfl:=pd H;have aO:0≤(j:Int):=ko;have aP:j<(l0.length:Int):=ko;obtain⟨cN,bH,bJ⟩:=Kd.at_int bg.out j aO aP;cases bH;replace aO:=pM aO;replace aP:=pM aP;have aQ:0≤(j:Int):=ko;have aR:j<(l1.length:Int):=ko;obtain⟨cO,bO,bT⟩:=Kd.at_int bh.out j aQ aR;cases bO;replace aQ:=pM aQ;replace aR:=pM aR;go_wp2;repeat(go_quiet (fail);try go_wp2)
      go_ret;exact rq
    ·obtain rfl:=pd H;go_wp2;repeat(go_quiet (fail);try go_wp2)
     go_ret;exact rq
 ·obtain⟨aM,aN⟩:=pe c3;have bj:(l0.length==l1.length)=false:=by first|simpa using c3|(simp at c3⊢;omega)
  obtain rfl:=pd H;go_enter Tryz.func32,Tryz.ntmps32;go_wp2;repeat(go_quiet (fail);try go_wp2)
  go_ret;exact rq
def kj.l0:Nat→LL→LL→Int→Option (Bool)
 |0,_,_,_=>none
 |k+1,x0,x1,x5=>if x5<(x0.length:Int)then(if 0≤x5 then(if x5<(x1.length:Int)then((jI.f k (ox x0 x5) (ox x1 x5)).bind fun bV=>(if bV=true then(kj.l0 k x0 x1 (wrap64 (x5+1)))else(some false)))else(none))else(none))else(some true)
def kj.f (k:Nat) (l0:LL) (l1:LL):Option (Bool):=if(l0.length:Int)=(l1.length:Int)then(kj.l0 k l0 l1 0)else(some false)
theorem kj.hZ:∀k,(∀y0 y1 y2,lS (kj.l0 k y0 y1 y2) (kj.l0 (k+1) y0 y1 y2))
 |0=>fun _ _ _=> .z (by simp only[kj.l0])
 |k+1=>by
  have i0:=kj.hZ k;exact fun _ _ _=>by unfold kj.l0;infer_instance
instance kj.mo {k a0 a1}:lS (kj.f k a0 a1) (kj.f (k+1) a0 a1):=by have i0:=kj.hZ k;unfold kj.f;infer_instance
theorem kj.calls (k:Nat) (A0:Option Addr) (c0:Nat) (l0:LL) (A1:Option Addr) (c1:Nat) (l1:LL) (r:Bool) (w:World) (bb:Kd.C KS w A0 l0.length l0) (bc:l0.length≤c0) (bd:Kd.C KS w A1 l1.length l1) (bf:l1.length≤c1) (h:kj.f k l0 l1=some r):
  Calls Tryz.prog 33 #[.slice A0 l0.length c0,.slice A1 l1.length c1] w fun e w'=>e= .returned (.bool r)∧Drawn0 w w':=by
 have bg:=bm bb;have dc:=bm bc;clear bb bc;have bh:=bm bd;have dd:=bm bf;clear bd bf;have H:=h;clear h;unfold kj.f at H;rcases iT H with⟨c3,H⟩|⟨c3,H⟩
 ·obtain⟨aM,aN⟩:=pf c3;have bj:(l0.length==l1.length)=true:=by first|simpa using c3|(simp at c3⊢;omega)
  clear c3;have H':=bm H;clear H;go_enter Tryz.func33,Tryz.ntmps33;go_wp2;repeat(go_quiet (fail);try go_wp2)
  go_loopg [5] k (fun kq v5 w'=>∃(j:Int),v5= .int .i64 j∧hJ (kj.l0 kq l0 l1 j=some r)∧hJ (kq≤k)∧Drawn0 w w')
  case atStart=>exact⟨(0),eA,H',⟨Nat.le_refl _⟩,by repeat(first|exact Drawn0.refl _|apply Drawn0.step)⟩
  case round=>
   clear H';obtain⟨j,rfl,HA,bk,⟨m1,rfl⟩⟩:=hrel;cases gk with
   |zero=>exact absurd HA.out (by simp[kj.l0])
   |succ k1=>
    have H:=HA.out;clear HA;simp only[kj.l0]at H;rcases pP H with⟨a8,H⟩|⟨a8,H⟩
    ·obtain⟨cH,H⟩:=pN H;obtain⟨cI,H⟩:=pN H;obtain⟨bV,A7,H⟩:=bE H;try dsimp only at H
     by_cases c8:bV=true
     ·subst c8;rw[if_pos rfl]at H;have H':=bm H;clear H;have aS:0≤(j:Int):=ko;have aT:j<(l0.length:Int):=ko;obtain⟨cP,cD,cE,bZ,b0,ax,ay⟩:=tY bg.out j aS aT;cases bZ;have ai:=bm ay;have aj:=bm ax;clear ay ax;replace aS:=pM aS;replace aT:=pM aT;have aU:0≤(j:Int):=ko;have aV:j<(l1.length:Int):=ko;obtain⟨cQ,cF,cG,b1,b4,az,aA⟩:=tY bh.out j aU aV;cases b1;have ak:=bm aA;have al:=bm az;clear aA az;replace aU:=pM aU;replace aV:=pM aV;go_wp2_with (first|(go_at_call 32;(with_reducible refine(jI.calls k1 _ _ (ox l0 j) _ _ (ox l1 j) true _ ?_ ?_ ?_ ?_ A7.out).mono ?_);exact cZ ai.out;exact aj.out;exact cZ ak.out;exact al.out;rintro e w' ⟨rfl,⟨nd,rfl⟩⟩;(try first|exact⟨rfl,_,World.drewN_drewN _ _ _⟩|exact⟨rfl,_,Eq.trans (World.drewN_drewN _ _ _) (congrArg (World.drewN _) (Nat.add_assoc _ _ _))⟩)));repeat(go_quiet (first|(go_at_call 32;(with_reducible refine(jI.calls k1 _ _ (ox l0 j) _ _ (ox l1 j) true _ ?_ ?_ ?_ ?_ A7.out).mono ?_);exact cZ ai.out;exact aj.out;exact cZ ak.out;exact al.out;rintro e w' ⟨rfl,⟨nd,rfl⟩⟩;(try first|exact⟨rfl,_,World.drewN_drewN _ _ _⟩|exact⟨rfl,_,Eq.trans (World.drewN_drewN _ _ _) (congrArg (World.drewN _) (Nat.add_assoc _ _ _))⟩)));try go_wp2_with (first|(go_at_call 32;(with_reducible refine(jI.calls k1 _ _ (ox l0 j) _ _ (ox l1 j) true _ ?_ ?_ ?_ ?_ A7.out).mono ?_);exact cZ ai.out;exact aj.out;exact cZ ak.out;exact al.out;rintro e w' ⟨rfl,⟨nd,rfl⟩⟩;(try first|exact⟨rfl,_,World.drewN_drewN _ _ _⟩|exact⟨rfl,_,Eq.trans (World.drewN_drewN _ _ _) (congrArg (World.drewN _) (Nat.add_assoc _ _ _))⟩))))
      go_roundg k1
      case measure=>have:=bk.out;omega
      case rel=>exact⟨(wrap64 (j+1)),eA,H',⟨by have:=bk.out;omega⟩,by repeat(first|exact Drawn0.refl _|apply Drawn0.step)⟩
     ·replace c8:=pD c8;subst c8;rw[if_neg pV]at H;obtain rfl:=pd H;have aS:0≤(j:Int):=ko;have aT:j<(l0.length:Int):=ko;obtain⟨cP,cD,cE,bZ,b0,ax,ay⟩:=tY bg.out j aS aT;cases bZ;have ai:=bm ay;have aj:=bm ax;clear ay ax;replace aS:=pM aS;replace aT:=pM aT;have aU:0≤(j:Int):=ko;have aV:j<(l1.length:Int):=ko;obtain⟨cQ,cF,cG,b1,b4,az,aA⟩:=tY bh.out j aU aV;cases b1;have ak:=bm aA;have al:=bm az;clear aA az;replace aU:=pM aU;replace aV:=pM aV;go_wp2_with (first|(go_at_call 32;(with_reducible refine(jI.calls k1 _ _ (ox l0 j) _ _ (ox l1 j) false _ ?_ ?_ ?_ ?_ A7.out).mono ?_);exact cZ ai.out;exact aj.out;exact cZ ak.out;exact al.out;rintro e w' ⟨rfl,⟨nd,rfl⟩⟩;(try first|exact⟨rfl,_,World.drewN_drewN _ _ _⟩|exact⟨rfl,_,Eq.trans (World.drewN_drewN _ _ _) (congrArg (World.drewN _) (Nat.add_assoc _ _ _))⟩)));repeat(go_quiet (first|(go_at_call 32;(with_reducible refine(jI.calls k1 _ _ (ox l0 j) _ _ (ox l1 j) false _ ?_ ?_ ?_ ?_ A7.out).mono ?_);exact cZ ai.out;exact aj.out;exact cZ ak.out;exact al.out;rintro e w' ⟨rfl,⟨nd,rfl⟩⟩;(try first|exact⟨rfl,_,World.drewN_drewN _ _ _⟩|exact⟨rfl,_,Eq.trans (World.drewN_drewN _ _ _) (congrArg (World.drewN _) (Nat.add_assoc _ _ _))⟩)));try go_wp2_with (first|(go_at_call 32;(with_reducible refine(jI.calls k1 _ _ (ox l0 j) _ _ (ox l1 j) false _ ?_ ?_ ?_ ?_ A7.out).mono ?_);exact cZ ai.out;exact aj.out;exact cZ ak.out;exact al.out;rintro e w' ⟨rfl,⟨nd,rfl⟩⟩;(try first|exact⟨rfl,_,World.drewN_drewN _ _ _⟩|exact⟨rfl,_,Eq.trans (World.drewN_drewN _ _ _) (congrArg (World.drewN _) (Nat.add_assoc _ _ _))⟩))))
      go_ret;exact rq
    ·obtain rfl:=pd H;go_wp2;repeat(go_quiet (fail);try go_wp2)
     go_ret;exact rq
 ·obtain⟨aM,aN⟩:=pe c3;have bj:(l0.length==l1.length)=false:=by first|simpa using c3|(simp at c3⊢;omega)
  obtain rfl:=pd H;go_enter Tryz.func33,Tryz.ntmps33;go_wp2;repeat(go_quiet (fail);try go_wp2)
  go_ret;exact rq
def mZ.f (k:Nat) (J:Int) (o:LI) (I:LL) (av:Int) (ar:LI) (aw:LL):Option (Bool):=if J=av then((jI.f k o ar).bind fun bl=>(if bl=true then((kj.f k I aw).bind fun bn=>(some bn))else(some false)))else(some false)
instance mZ.mo {k a0 a1 a2 a3 a4 a5}:lS (mZ.f k a0 a1 a2 a3 a4 a5) (mZ.f (k+1) a0 a1 a2 a3 a4 a5):=by unfold mZ.f;infer_instance
theorem mZ.calls (k:Nat) (J:Int) (ae:Option Addr) (af:Nat) (o:LI) (ag:Option Addr) (ah:Nat) (I:LL) (av:Int) (bo:Option Addr) (bp:Nat) (ar:LI) (bq:Option Addr) (br:Nat) (aw:LL) (r:Bool) (w:World) (aB:Kd.C KI w ae o.length o) (aC:o.length≤af) (aD:Kd.C KS w ag I.length I) (aE:I.length≤ah) (b5:Kd.C KI w bo ar.length ar) (b6:ar.length≤bp) (b7:Kd.C KS w bq aw.length aw) (b8:aw.length≤br) (h:mZ.f k J o I av ar aw=some r):
  Calls Tryz.prog 8 #[.agg #[.int .i64 J,.slice ae o.length af,.slice ag I.length ah],.agg #[.int .i64 av,.slice bo ar.length bp,.slice bq aw.length br]] w fun e w'=>e= .returned (.bool r)∧Below w.heap.size w w':=by
 have cJ:=Tryz.underlying26;have aF:=bm aB;have aG:=bm aC;clear aB aC;have aI:=bm aD;have aJ:=bm aE;clear aD aE;have b9:=bm b5;have ca:=bm b6;clear b5 b6;have cR:=bm b7;have cS:=bm b8;clear b7 b8;have HB:=bm (Below.refl w.heap.size w);have H:=h;clear h;unfold mZ.f at H;rcases iT H with⟨c3,H⟩|⟨c3,H⟩
 obtain⟨aM,aN⟩:=pf c3;clear c3;obtain⟨bl,A4,H⟩:=bE H;try dsimp only at H
 by_cases c5:bl=true
 subst c5;rw[if_pos rfl]at H;obtain⟨bn,A6,H⟩:=bE H;try dsimp only at H
 obtain rfl:=pd H
 rotate_left
 replace c5:=pD c5;subst c5;rw[if_neg pV]at H;obtain rfl:=pd H
 rotate_left
 obtain⟨aM,aN⟩:=pe c3;obtain rfl:=pd H
 rotate_left
 all_goals(go_enter Tryz.func8,Tryz.ntmps8;go_wp2_with (first|(refine re 2 #[.int .i64 J,.slice ae o.length af,.slice ag I.length ah] 26 ?_;intro _ hg _ aa hb;have ad:=bm (aa);have cc:=bG HB hg;replace HB:=bW HB hb;clear hb aa hg)|(refine re 3 #[.int .i64 av,.slice bo ar.length bp,.slice bq aw.length br] 26 ?_;intro _ hg _ aa hb;have aW:=bm (aa);have cf:=bG HB hg;replace HB:=bW HB hb;have an:=bL ad hg;have ao:=bM ad hg;replace ad:=bU ad hb;clear hb aa hg;obtain⟨_,_⟩:=pW an ao;obtain⟨_,_,_,_,_,_⟩:=b3 ad;obtain⟨_,_,_,_,_,_⟩:=b3 aW)|(go_at_call 32;(with_reducible refine(jI.calls k _ _ o _ _ ar true _ ?_ ?_ ?_ ?_ A4.out).mono ?_);exact cY aF HB;exact aG.out;exact cY b9 HB;exact ca.out;rintro e w' ⟨rfl,⟨nd,rfl⟩⟩)|(go_at_call 33;(with_reducible refine(kj.calls k _ _ I _ _ aw bn _ ?_ ?_ ?_ ?_ A6.out).mono ?_);exact cZ (Kd.C_below aI.out (wZ HB));exact aJ.out;exact cZ (Kd.C_below cR.out (wZ HB));exact cS.out;rintro e w' ⟨rfl,⟨nd,rfl⟩⟩)|(go_at_call 32;(with_reducible refine(jI.calls k _ _ o _ _ ar false _ ?_ ?_ ?_ ?_ A4.out).mono ?_);exact cY aF HB;exact aG.out;exact cY b9 HB;exact ca.out;rintro e w' ⟨rfl,⟨nd,rfl⟩⟩)))
 iterate 3(go_ret;exact⟨eF,wZ HB⟩)
def jV.l0:Nat→List BA→List BA→Int→Option (Bool)
 |0,_,_,_=>none
 |k+1,x0,x1,x5=>if x5<(x0.length:Int)then(if 0≤x5 then(if x5<(x1.length:Int)then(if(rdOf ByteArray.empty x0 x5).toList=(rdOf ByteArray.empty x1 x5).toList then(jV.l0 k x0 x1 (wrap64 (x5+1)))else(some false))else(none))else(none))else(some true)
def jV.f (k:Nat) (l0:List BA) (l1:List BA):Option (Bool):=if(l0.length:Int)=(l1.length:Int)then(jV.l0 k l0 l1 0)else(some false)
theorem jV.hZ:∀k,(∀y0 y1 y2,lS (jV.l0 k y0 y1 y2) (jV.l0 (k+1) y0 y1 y2))
 |0=>fun _ _ _=> .z (by simp only[jV.l0])
 |k+1=>by
  have i0:=jV.hZ k;exact fun _ _ _=>by unfold jV.l0;infer_instance
instance jV.mo {k a0 a1}:lS (jV.f k a0 a1) (jV.f (k+1) a0 a1):=by have i0:=jV.hZ k;unfold jV.f;infer_instance
theorem jV.calls (k:Nat) (A0:Option Addr) (c0:Nat) (l0:List BA) (A1:Option Addr) (c1:Nat) (l1:List BA) (r:Bool) (w:World) (bb:Kd.C Kd.string w A0 l0.length l0) (bc:l0.length≤c0) (bd:Kd.C Kd.string w A1 l1.length l1) (bf:l1.length≤c1) (h:jV.f k l0 l1=some r):
  Calls Tryz.prog 9 #[.slice A0 l0.length c0,.slice A1 l1.length c1] w fun e w'=>e= .returned (.bool r)∧Drawn0 w w':=by
 have bg:=bm bb;have dc:=bm bc;clear bb bc;have bh:=bm bd;have dd:=bm bf;clear bd bf;have H:=h;clear h;unfold jV.f at H;rcases iT H with⟨c3,H⟩|⟨c3,H⟩
 ·obtain⟨aM,aN⟩:=pf c3;have bj:(l0.length==l1.length)=true:=by first|simpa using c3|(simp at c3⊢;omega)
  clear c3;have H':=bm H;clear H;go_enter Tryz.func9,Tryz.ntmps9;go_wp2;repeat(go_quiet (fail);try go_wp2)
  go_loopg [5] k (fun kq v5 w'=>∃(j:Int),v5= .int .i64 j∧hJ (jV.l0 kq l0 l1 j=some r)∧hJ (kq≤k)∧Drawn0 w w')
  case atStart=>exact⟨(0),eA,H',⟨Nat.le_refl _⟩,by repeat(first|exact Drawn0.refl _|apply Drawn0.step)⟩
  case round=>
   clear H';obtain⟨j,rfl,HA,bk,⟨m1,rfl⟩⟩:=hrel;cases gk with
   |zero=>exact absurd HA.out (by simp[jV.l0])
   |succ k1=>
    have H:=HA.out;clear HA;simp only[jV.l0]at H;rcases pP H with⟨a8,H⟩|⟨a8,H⟩
    ·obtain⟨cH,H⟩:=pN H;obtain⟨cI,H⟩:=pN H;rcases iT H with⟨c7,H⟩|⟨c7,H⟩
     ·obtain⟨bD,bF⟩:=pf c7;clear c7;have H':=bm H;clear H;have aY:0≤(j:Int):=ko;have aZ:j<(l0.length:Int):=ko;obtain⟨cT,cv,cw⟩:=Kd.at_string bg.out j aY aZ;cases cv;replace aY:=pM aY;replace aZ:=pM aZ;have a6:0≤(j:Int):=ko;have a7:j<(l1.length:Int):=ko;obtain⟨cU,cx,cy⟩:=Kd.at_string bh.out j a6 a7;cases cx;replace a6:=pM a6;replace a7:=pM a7;go_wp2;repeat(go_quiet (fail);try go_wp2)
      go_roundg k1
      case measure=>have:=bk.out;omega
      case rel=>exact⟨(wrap64 (j+1)),eA,H',⟨by have:=bk.out;omega⟩,by repeat(first|exact Drawn0.refl _|apply Drawn0.step)⟩
     ·obtain⟨bD,bF⟩:=pe c7;obtain rfl:=pd H;have aY:0≤(j:Int):=ko;have aZ:j<(l0.length:Int):=ko;obtain⟨cT,cv,cw⟩:=Kd.at_string bg.out j aY aZ;cases cv;replace aY:=pM aY;replace aZ:=pM aZ;have a6:0≤(j:Int):=ko;have a7:j<(l1.length:Int):=ko;obtain⟨cU,cx,cy⟩:=Kd.at_string bh.out j a6 a7;cases cx;replace a6:=pM a6;replace a7:=pM a7;go_wp2;repeat(go_quiet (fail);try go_wp2)
      go_ret;exact rq
    ·obtain rfl:=pd H;go_wp2;repeat(go_quiet (fail);try go_wp2)
     go_ret;exact rq
 ·obtain⟨aM,aN⟩:=pe c3;have bj:(l0.length==l1.length)=false:=by first|simpa using c3|(simp at c3⊢;omega)
  obtain rfl:=pd H;go_enter Tryz.func9,Tryz.ntmps9;go_wp2;repeat(go_quiet (fail);try go_wp2)
  go_ret;exact rq
def qd.f (k:Nat) (J:Int) (o:LI) (I:LL):Option (Bool):=(mZ.f k J o I 0 ([]:LI) ([]:LL)).bind fun bs=>(some bs)
instance qd.mo {k a0 a1 a2}:lS (qd.f k a0 a1 a2) (qd.f (k+1) a0 a1 a2):=by unfold qd.f;infer_instance
theorem qd.calls (k:Nat) (J:Int) (ae:Option Addr) (af:Nat) (o:LI) (ag:Option Addr) (ah:Nat) (I:LL) (r:Bool) (w:World) (aB:Kd.C KI w ae o.length o) (aC:o.length≤af) (aD:Kd.C KS w ag I.length I) (aE:I.length≤ah) (h:qd.f k J o I=some r):
  Calls Tryz.prog 11 #[.agg #[.int .i64 J,.slice ae o.length af,.slice ag I.length ah]] w fun e w'=>e= .returned (.bool r)∧Below w.heap.size w w':=by
 have cJ:=Tryz.underlying26;have aF:=bm aB;have aG:=bm aC;clear aB aC;have aI:=bm aD;have aJ:=bm aE;clear aD aE;have HB:=bm (Below.refl w.heap.size w);have H:=h;clear h;unfold qd.f at H;obtain⟨bs,A2,H⟩:=bE H;try dsimp only at H
 obtain rfl:=pd H;go_enter Tryz.func11,Tryz.ntmps11;go_wp2_with (first|(refine re 1 #[.int .i64 J,.slice ae o.length af,.slice ag I.length ah] 26 ?_;intro _ hg _ aa hb;have bA:=bm (aa);have eB:=bG HB hg;replace HB:=bW HB hb;clear hb aa hg;obtain⟨_,_,_,_,_,_⟩:=b3 bA)|(refine gB (some 5) Tryz.func8 #[.agg #[.int .i64 J,.slice ae o.length af,.slice ag I.length ah],.agg #[.int .i64 0,.slice none 0 0,.slice none 0 0]] rfl ?_;(refine(mZ.calls k J _ _ o _ _ I 0 _ _ ([]:LI) _ _ ([]:LL) bs _ ?_ ?_ ?_ ?_ ?_ ?_ ?_ ?_ A2.out).mono ?_);exact cY aF HB;exact aG.out;exact cY aI HB;exact aJ.out;exact Kd.C_nil _ _;exact Nat.le_refl _;exact Kd.C_nil _ _;exact Nat.le_refl _;rintro e _ ⟨rfl,hb⟩;refine⟨_,rfl,?_⟩;replace bA:=bU bA hb;replace HB:=bW HB hb;clear hb));go_ret;exact⟨eF,wZ HB⟩
def qj.f (a0:Int):Option (Int):=(jD.f a0).bind fun bu=>(if bu=true then(if 0≤a0 then(some (shl .i64 1 a0))else(none))else(some (-1)))
theorem qj.calls (a0:Int) (r:Int) (w:World) (h:qj.f a0=some r):
  Calls Tryz.prog 35 #[.int .i64 a0] w fun e w'=>e= .returned (.int .i64 r)∧Drawn0 w w':=by
 have H:=h;clear h;unfold qj.f at H;obtain⟨bu,A2,H⟩:=bE H;try dsimp only at H
 by_cases c3:bu=true
 ·subst c3;rw[if_pos rfl]at H;obtain⟨a8,eL,H⟩:=pO H;obtain⟨bB,ba⟩:∃j_:Int,(shl .i64 1 a0)=j_:=⟨_,rfl⟩;first|rw[ba]at H|simp only[ba]at H
  (try rw[ba]at A2);have cz:(IntKind.i64.wrap (1*2^min a0.toNat 64))=bB:=ba;have cA:a0≤64→(IntKind.i64.wrap (1*2^a0.toNat))=bB:=shl_small ba;have eC:(IntKind.i64.wrap (2^min a0.toNat 64))=bB:=by have h_:=cz;rw[Int.one_mul]at h_;exact h_
  have eD:a0≤64→(IntKind.i64.wrap (2^a0.toNat))=bB:=fun dE=>by have h_:=cA dE;rw[Int.one_mul]at h_;exact h_
  have eE:(wrap64 (1*2^min a0.toNat 64))=bB:=(i64_w _).symm.trans cz;have eG:a0≤64→(wrap64 (1*2^a0.toNat))=bB:=fun h_=>(i64_w _).symm.trans (cA h_)
  obtain rfl:=pd H;go_enter Tryz.func35,Tryz.ntmps35;go_wp2_with (first|(refine gB (some 4) Tryz.func70 #[.int .i64 a0] rfl ?_;(refine(jD.calls a0 true _ A2.out).mono ?_);rintro e w' ⟨rfl,⟨nd,rfl⟩⟩;refine⟨_,rfl,?_⟩));go_ret;exact⟨by first|rfl|(simp;done)|(simp only[←ba]<;>(first|rfl|simp))|(simp[*];done),by repeat(first|exact Drawn0.refl _|apply Drawn0.step)⟩
 ·replace c3:=pD c3;subst c3;rw[if_neg pV]at H;obtain rfl:=pd H;go_enter Tryz.func35,Tryz.ntmps35;go_wp2_with (first|(refine gB (some 4) Tryz.func70 #[.int .i64 a0] rfl ?_;(refine(jD.calls a0 false _ A2.out).mono ?_);rintro e w' ⟨rfl,⟨nd,rfl⟩⟩;refine⟨_,rfl,?_⟩));go_ret;exact rq
def rV.f:Option (Bool):=(qj.f 1).bind fun aH=>(if aH=2 then((qj.f 9).bind fun bw=>(some (bw==(-1))))else(some false))
theorem rV.calls  (r:Bool) (w:World) (h:rV.f=some r):
  Calls Tryz.prog 12 #[] w fun e w'=>e= .returned (.bool r)∧Drawn0 w w':=by
 have H:((qj.f 1).bind fun aH=>(if aH=2 then((qj.f 9).bind fun bw=>(some (bw==(-1))))else(some false)))=some r:=h;clear h;obtain⟨aH,A1,H⟩:=bE H;try dsimp only at H
 rcases iT H with⟨c2,H⟩|⟨c2,H⟩
 obtain⟨dF,dG⟩:=pf c2;clear c2;obtain⟨bw,A3,H⟩:=bE H;try dsimp only at H
 obtain rfl:=pd H
 rotate_left
 obtain⟨dF,dG⟩:=pe c2;obtain rfl:=pd H
 rotate_left
 all_goals(go_enter Tryz.func12,Tryz.ntmps12;go_wp2_with (first|(refine gB (some 1) Tryz.func35 #[.int .i64 1] rfl ?_;(refine(qj.calls 1 aH _ A1.out).mono ?_);rintro e w' ⟨rfl,⟨nd,rfl⟩⟩;refine⟨_,rfl,?_⟩)|(go_at_call 35;(with_reducible refine(qj.calls 9 bw _ A3.out).mono ?_);rintro e w' ⟨rfl,⟨nd,rfl⟩⟩)))
 iterate 2(go_ret;exact rq)
def oS.f (k:Nat) (J:Int) (o:LI) (I:LL) (a1:BA):Option (Int×LI×LL×BA):=(kH.f k J o I).bind fun bx=>(if bx=true then((oQ.f k J o I a1).bind fun au=>(some (au.1,au.2.1,au.2.2.1,au.2.2.2)))else(some (0,([]:LI),([]:LL),(⟨#[]⟩:BA))))
instance oS.mo {k a0 a1 a2 a3}:lS (oS.f k a0 a1 a2 a3) (oS.f (k+1) a0 a1 a2 a3):=by unfold oS.f;infer_instance
theorem oS.calls (k:Nat) (J:Int) (ae:Option Addr) (af:Nat) (o:LI) (ag:Option Addr) (ah:Nat) (I:LL) (a1:BA) (r1:Int) (r2:LI) (r3:LL) (r4:BA) (w:World) (m:Int) (hm:w.cell? ⟨0,0,none⟩=some (.int .i64 m)) (aB:Kd.C KI w ae o.length o) (aC:o.length≤af) (aD:Kd.C KS w ag I.length I) (aE:I.length≤ah) (h:oS.f k J o I a1=some (r1,r2,r3,r4)):
  Calls Tryz.prog 13 #[.agg #[.int .i64 J,.slice ae o.length af,.slice ag I.length ah],.string a1] w fun e w'=>∃cV dH:Value,e= .returned (.tuple #[.agg #[.int .i64 r1,cV,dH],.string r4])∧Kd.R KI 3 w' w.heap.size (fun _=>True) cV r2∧Kd.S KS 23 w' w.heap.size (fun k_=>some k_≠(cV:Value).ownBlock) dH r3∧Below w.heap.size w w':=by
 have cJ:=Tryz.underlying26;have aF:=bm aB;have aG:=bm aC;clear aB aC;have aI:=bm aD;have aJ:=bm aE;clear aD aE;have HB:=bm (Below.refl w.heap.size w);have HM:=bm (fun W (hb:Below w.heap.size w W)=>(hb.cell (World.block_lt_of_cell? _ _ hm)).trans hm);clear hm;have H:=h;clear h;unfold oS.f at H;obtain⟨bx,A3,H⟩:=bE H;try dsimp only at H
 by_cases c4:bx=true
 subst c4;rw[if_pos rfl]at H;obtain⟨⟨cK,cL,cM,dI⟩,A5,H⟩:=bE H;try dsimp only at H
 obtain⟨rfl,rfl,rfl,rfl⟩:=s4 H
 rotate_left
 replace c4:=pD c4;subst c4;rw[if_neg pV]at H;obtain⟨rfl,rfl,rfl,rfl⟩:=s4 H
 rotate_left
 all_goals(go_enter Tryz.func13,Tryz.ntmps13;go_wp2_with (first|(refine re 2 #[.int .i64 J,.slice ae o.length af,.slice ag I.length ah] 26 ?_;intro _ hg _ aa hb;have ab:=bm (aa);have cX:=bG HB hg;replace HB:=bW HB hb;clear hb aa hg)|(refine re 4 #[.int .i64 0,.slice none 0 0,.slice none 0 0] 26 ?_;intro _ hg _ aa hb;have aq:=bm (aa);have db:=bG HB hg;replace HB:=bW HB hb;have aK:=bL ab hg;have aL:=bM ab hg;replace ab:=bU ab hb;clear hb aa hg;obtain⟨_,_⟩:=pW aK aL;obtain⟨_,_,_,_,_,_⟩:=b3 ab)|(refine gB (some 7) Tryz.func27 #[.agg #[.int .i64 J,.slice ae o.length af,.slice ag I.length ah]] rfl ?_;(refine(kH.calls k J _ _ o _ _ I true _ ?_ ?_ ?_ ?_ A3.out).mono ?_);exact cY aF HB;exact aG.out;exact cY aI HB;exact aJ.out;rintro e _ ⟨rfl,hb⟩;refine⟨_,rfl,?_⟩;replace ab:=bU ab hb;replace aq:=bU aq hb;replace HB:=bW HB hb;clear hb;obtain⟨_,_,_,_,_,_⟩:=b3 ab)|(refine gB (some 12) Tryz.func29 #[.agg #[.int .i64 J,.slice ae o.length af,.slice ag I.length ah],.string a1] rfl ?_;(refine(oQ.calls k J _ _ o _ _ I a1 cK cL cM dI _ m (HM.out _ (wZ HB)) ?_ ?_ ?_ ?_ A5.out).mono ?_);exact cY aF HB;exact aG.out;exact cY aI HB;exact aJ.out;rintro e _ ⟨_,_,rfl,dJ,dK,hb⟩;refine⟨_,rfl,?_⟩;have cB:=rL dJ HB;have cC:=sL dK HB;replace ab:=bU ab hb;replace aq:=bU aq hb;replace HB:=bW HB hb;clear hb;clear dJ dK;obtain⟨_,_,_,_,_,_⟩:=b3 aq;obtain⟨dR,dS,dT⟩:=Kd.R_slice cB.out;subst dT;obtain⟨dU,dV,dW⟩:=Kd.S_slice cC.out;subst dW)|(refine gB (some 7) Tryz.func27 #[.agg #[.int .i64 J,.slice ae o.length af,.slice ag I.length ah]] rfl ?_;(refine(kH.calls k J _ _ o _ _ I false _ ?_ ?_ ?_ ?_ A3.out).mono ?_);exact cY aF HB;exact aG.out;exact cY aI HB;exact aJ.out;rintro e _ ⟨rfl,hb⟩;refine⟨_,rfl,?_⟩;replace ab:=bU ab hb;replace aq:=bU aq hb;replace HB:=bW HB hb;clear hb;obtain⟨_,_,_,_,_,_⟩:=b3 aq)))
 ·refine rE #[.int .i64 cK,.slice dR cL.length dS,.slice dU cM.length dV] (kP aq) Tryz.underlying26 ?_;exact⟨_,_,eF,rT cB,sT cC,wZ HB⟩
 ·refine rE #[.int .i64 0,.slice none 0 0,.slice none 0 0] (kP aq) Tryz.underlying26 ?_;exact⟨_,_,eF,by first|exact Kd.R_nil _ _ _ _ _|exact Kd.N_nil _ _ _ _ _|exact Kd.V_nil _ _ _ _ _|exact Kd.Q_nil _ _ _ _ _|exact Kd.S_nil _ _ _ _ _,by first|exact Kd.S_nil _ _ _ _ _|exact Kd.N_nil _ _ _ _ _|exact Kd.V_nil _ _ _ _ _|exact Kd.Q_nil _ _ _ _ _|exact Kd.R_nil _ _ _ _ _,wZ HB⟩
end Go.Proofs.YtigeaokfhnlkcaaGreatDoor.P
