import Derived.Test.YtihgpkohglcijaaGreatDoorPx0
import Derived.Test.YtihgpkohglcijaaGreatDoorPx14
import Derived.Test.YtihgpkohglcijaaGreatDoorPx20
namespace Go.Proofs.YtihgpkohglcijaaGreatDoor.P
open Go.RowKit YtihgpkohglcijaaGreatDoorW PrintWords PrintLast PrintMore
attribute [local go_sem] max2_int min2_int max_two min_two max_three min_three max_four min_four
set_option linter.unusedVariables false
set_option linter.unusedSimpArgs false
set_option maxHeartbeats 8000000
set_option maxRecDepth 100000
def iW.l0:Nat→List Int→List Int→Int→Option (Bool)
 |0,_,_,_=>none
 |k+1,x0,x1,x5=>if x5<(x0.length:Int)then(if 0≤x5 then(if x5<(x1.length:Int)then(if(rd x0 x5)=(rd x1 x5)then(iW.l0 k x0 x1 (wrap64 (x5+1)))else(some false))else(none))else(none))else(some true)
def iW.f (k:Nat) (l0:List Int) (l1:List Int):Option (Bool):=if(l0.length:Int)=(l1.length:Int)then(iW.l0 k l0 l1 0)else(some false)
theorem iW.gF:∀k,(∀y0 y1 y2,ku (iW.l0 k y0 y1 y2) (iW.l0 (k+1) y0 y1 y2))
 |0=>fun _ _ _=> .z (by simp only[iW.l0])
 |k+1=>by
  have i0:=iW.gF k;exact fun _ _ _=>by unfold iW.l0;infer_instance
instance iW.mo {k a0 a1}:ku (iW.f k a0 a1) (iW.f (k+1) a0 a1):=by have i0:=iW.gF k;unfold iW.f;infer_instance
theorem iW.calls (k:Nat) (A0:Option Addr) (c0:Nat) (l0:List Int) (A1:Option Addr) (c1:Nat) (l1:List Int) (r:Bool) (w:World) (bn:Kd.C (Kd.int .i64) w A0 l0.length l0) (bo:l0.length≤c0) (aS:Kd.C (Kd.int .i64) w A1 l1.length l1) (aT:l1.length≤c1) (h:iW.f k l0 l1=some r):
  Calls Tryz.prog 60 #[.slice A0 l0.length c0,.slice A1 l1.length c1] w fun e w'=>e= .returned (.bool r)∧Drawn0 w w':=by
 have bp:=bm bn;have dq:=bm bo;clear bn bo;have aR:=bm aS;have bq:=bm aT;clear aS aT;have H:=h;clear h;unfold iW.f at H;rcases iT H with⟨c3,H⟩|⟨c3,H⟩
 ·obtain⟨aU,aV⟩:=vl c3;have br:(l0.length==l1.length)=true:=by first|simpa using c3|(simp at c3⊢;omega)
  clear c3;have H':=bm H;clear H;go_enter Tryz.func60,Tryz.ntmps60;go_wp2;repeat(go_quiet (fail);try go_wp2)
  go_loopg [5] k (fun kq v5 w'=>∃(j:Int),v5= .int .i64 j∧gm (iW.l0 kq l0 l1 j=some r)∧gm (kq≤k)∧Drawn0 w w')
  case atStart=>exact⟨(0),(by first|rfl|(simp;done)|(simp[*];done)),H',⟨Nat.le_refl _⟩,by repeat(first|exact Drawn0.refl _|apply Drawn0.step)⟩
  case round=>
   clear H';obtain⟨j,rfl,HA,bs,⟨m1,rfl⟩⟩:=hrel;cases gk with
   |zero=>exact absurd HA.out (by simp[iW.l0])
   |succ k1=>
    have H:=HA.out;clear HA;simp only[iW.l0]at H;rcases vL H with⟨bk,H⟩|⟨bk,H⟩
    ·obtain⟨cu,H⟩:=vJ H;obtain⟨cv,H⟩:=vJ H;rcases iT H with⟨c7,H⟩|⟨c7,H⟩
     ·obtain⟨cw,cx⟩:=vl c7;clear c7;have H':=bm H;clear H;have aF:0≤(j:Int):=jK;have aG:j<(l0.length:Int):=jK;obtain⟨cm,bu,bw⟩:=Kd.at_int bp.out j aF aG;cases bu;replace aF:=vI aF;replace aG:=vI aG;have aH:0≤(j:Int):=jK;have aI:j<(l1.length:Int):=jK;obtain⟨cn,bx,bz⟩:=Kd.at_int aR.out j aH aI;cases bx;replace aH:=vI aH;replace aI:=vI aI;go_wp2;repeat(go_quiet (fail);try go_wp2)
      go_roundg k1
      case measure=>have:=bs.out;omega
      case rel=>exact⟨(wrap64 (j+1)),(by first|rfl|(simp;done)|(simp[*];done)),H',⟨by have:=bs.out;omega⟩,by repeat(first|exact Drawn0.refl _|apply Drawn0.step)⟩
     ·obtain⟨cw,cx⟩:=vk c7;obtain rfl:=vZ H;have aF:0≤(j:Int):=jK;have aG:j<(l0.length:Int):=jK;obtain⟨cm,bu,bw⟩:=Kd.at_int bp.out j aF aG;cases bu;replace aF:=vI aF;replace aG:=vI aG;have aH:0≤(j:Int):=jK;have aI:j<(l1.length:Int):=jK;obtain⟨cn,bx,bz⟩:=Kd.at_int aR.out j aH aI;cases bx;replace aH:=vI aH;replace aI:=vI aI;go_wp2;repeat(go_quiet (fail);try go_wp2)
      go_ret;exact vn
    ·obtain rfl:=vZ H;go_wp2;repeat(go_quiet (fail);try go_wp2)
     go_ret;exact vn
 ·obtain⟨aU,aV⟩:=vk c3;have br:(l0.length==l1.length)=false:=by first|simpa using c3|(simp at c3⊢;omega)
  obtain rfl:=vZ H;go_enter Tryz.func60,Tryz.ntmps60;go_wp2;repeat(go_quiet (fail);try go_wp2)
  go_ret;exact vn
def jF.l0:Nat→List (List Int)→List (List Int)→Int→Option (Bool)
 |0,_,_,_=>none
 |k+1,x0,x1,x5=>if x5<(x0.length:Int)then(if 0≤x5 then(if x5<(x1.length:Int)then((iW.f k (kT x0 x5) (kT x1 x5)).bind fun bA=>(if bA=true then(jF.l0 k x0 x1 (wrap64 (x5+1)))else(some false)))else(none))else(none))else(some true)
def jF.f (k:Nat) (l0:List (List Int)) (l1:List (List Int)):Option (Bool):=if(l0.length:Int)=(l1.length:Int)then(jF.l0 k l0 l1 0)else(some false)
theorem jF.gF:∀k,(∀y0 y1 y2,ku (jF.l0 k y0 y1 y2) (jF.l0 (k+1) y0 y1 y2))
 |0=>fun _ _ _=> .z (by simp only[jF.l0])
 |k+1=>by
  have i0:=jF.gF k;exact fun _ _ _=>by unfold jF.l0;infer_instance
instance jF.mo {k a0 a1}:ku (jF.f k a0 a1) (jF.f (k+1) a0 a1):=by have i0:=jF.gF k;unfold jF.f;infer_instance
theorem jF.calls (k:Nat) (A0:Option Addr) (c0:Nat) (l0:List (List Int)) (A1:Option Addr) (c1:Nat) (l1:List (List Int)) (r:Bool) (w:World) (bn:Kd.C (Kd.slice 3 (Kd.int .i64)) w A0 l0.length l0) (bo:l0.length≤c0) (aS:Kd.C (Kd.slice 3 (Kd.int .i64)) w A1 l1.length l1) (aT:l1.length≤c1) (h:jF.f k l0 l1=some r):
  Calls Tryz.prog 61 #[.slice A0 l0.length c0,.slice A1 l1.length c1] w fun e w'=>e= .returned (.bool r)∧Drawn0 w w':=by
 have bp:=bm bn;have dq:=bm bo;clear bn bo;have aR:=bm aS;have bq:=bm aT;clear aS aT;have H:=h;clear h;unfold jF.f at H;rcases iT H with⟨c3,H⟩|⟨c3,H⟩
 ·obtain⟨aU,aV⟩:=vl c3;have br:(l0.length==l1.length)=true:=by first|simpa using c3|(simp at c3⊢;omega)
  clear c3;have H':=bm H;clear H;go_enter Tryz.func61,Tryz.ntmps61;go_wp2;repeat(go_quiet (fail);try go_wp2)
  go_loopg [5] k (fun kq v5 w'=>∃(j:Int),v5= .int .i64 j∧gm (jF.l0 kq l0 l1 j=some r)∧gm (kq≤k)∧Drawn0 w w')
  case atStart=>exact⟨(0),(by first|rfl|(simp;done)|(simp[*];done)),H',⟨Nat.le_refl _⟩,by repeat(first|exact Drawn0.refl _|apply Drawn0.step)⟩
  case round=>
   clear H';obtain⟨j,rfl,HA,bs,⟨m1,rfl⟩⟩:=hrel;cases gk with
   |zero=>exact absurd HA.out (by simp[jF.l0])
   |succ k1=>
    have H:=HA.out;clear HA;simp only[jF.l0]at H;rcases vL H with⟨bk,H⟩|⟨bk,H⟩
    ·obtain⟨cu,H⟩:=vJ H;obtain⟨cv,H⟩:=vJ H;obtain⟨bA,A7,H⟩:=bE H;try dsimp only at H
     by_cases c8:bA=true
     ·subst c8;rw[if_pos rfl]at H;have H':=bm H;clear H;have aJ:0≤(j:Int):=jK;have aK:j<(l0.length:Int):=jK;obtain⟨cp,b9,ca,bB,bD,au,av⟩:=rp bp.out j aJ aK;cases bB;have ad:=bm av;have ae:=bm au;clear av au;replace aJ:=vI aJ;replace aK:=vI aK;have aL:0≤(j:Int):=jK;have aM:j<(l1.length:Int):=jK;obtain⟨cq,cb,cc,bF,bH,aw,ax⟩:=rp aR.out j aL aM;cases bF;have af:=bm ax;have ag:=bm aw;clear ax aw;replace aL:=vI aL;replace aM:=vI aM;go_wp2_with (first|(go_at_call 60;(with_reducible refine(iW.calls k1 _ _ (kT l0 j) _ _ (kT l1 j) true _ ?_ ?_ ?_ ?_ A7.out).mono ?_);exact cZ ad.out;exact ae.out;exact cZ af.out;exact ag.out;rintro e w' ⟨rfl,⟨nd,rfl⟩⟩;(try first|exact⟨rfl,_,World.drewN_drewN _ _ _⟩|exact⟨rfl,_,Eq.trans (World.drewN_drewN _ _ _) (congrArg (World.drewN _) (Nat.add_assoc _ _ _))⟩)));repeat(go_quiet (first|(go_at_call 60;(with_reducible refine(iW.calls k1 _ _ (kT l0 j) _ _ (kT l1 j) true _ ?_ ?_ ?_ ?_ A7.out).mono ?_);exact cZ ad.out;exact ae.out;exact cZ af.out;exact ag.out;rintro e w' ⟨rfl,⟨nd,rfl⟩⟩;(try first|exact⟨rfl,_,World.drewN_drewN _ _ _⟩|exact⟨rfl,_,Eq.trans (World.drewN_drewN _ _ _) (congrArg (World.drewN _) (Nat.add_assoc _ _ _))⟩)));try go_wp2_with (first|(go_at_call 60;(with_reducible refine(iW.calls k1 _ _ (kT l0 j) _ _ (kT l1 j) true _ ?_ ?_ ?_ ?_ A7.out).mono ?_);exact cZ ad.out;exact ae.out;exact cZ af.out;exact ag.out;rintro e w' ⟨rfl,⟨nd,rfl⟩⟩;(try first|exact⟨rfl,_,World.drewN_drewN _ _ _⟩|exact⟨rfl,_,Eq.trans (World.drewN_drewN _ _ _) (congrArg (World.drewN _) (Nat.add_assoc _ _ _))⟩))))
      go_roundg k1
      case measure=>have:=bs.out;omega
      case rel=>exact⟨(wrap64 (j+1)),(by first|rfl|(simp;done)|(simp[*];done)),H',⟨by have:=bs.out;omega⟩,by repeat(first|exact Drawn0.refl _|apply Drawn0.step)⟩
     ·replace c8:=uZ c8;subst c8;rw[if_neg vR]at H;obtain rfl:=vZ H;have aJ:0≤(j:Int):=jK;have aK:j<(l0.length:Int):=jK;obtain⟨cp,b9,ca,bB,bD,au,av⟩:=rp bp.out j aJ aK;cases bB;have ad:=bm av;have ae:=bm au;clear av au;replace aJ:=vI aJ;replace aK:=vI aK;have aL:0≤(j:Int):=jK;have aM:j<(l1.length:Int):=jK;obtain⟨cq,cb,cc,bF,bH,aw,ax⟩:=rp aR.out j aL aM;cases bF;have af:=bm ax;have ag:=bm aw;clear ax aw;replace aL:=vI aL;replace aM:=vI aM;go_wp2_with (first|(go_at_call 60;(with_reducible refine(iW.calls k1 _ _ (kT l0 j) _ _ (kT l1 j) false _ ?_ ?_ ?_ ?_ A7.out).mono ?_);exact cZ ad.out;exact ae.out;exact cZ af.out;exact ag.out;rintro e w' ⟨rfl,⟨nd,rfl⟩⟩;(try first|exact⟨rfl,_,World.drewN_drewN _ _ _⟩|exact⟨rfl,_,Eq.trans (World.drewN_drewN _ _ _) (congrArg (World.drewN _) (Nat.add_assoc _ _ _))⟩)));repeat(go_quiet (first|(go_at_call 60;(with_reducible refine(iW.calls k1 _ _ (kT l0 j) _ _ (kT l1 j) false _ ?_ ?_ ?_ ?_ A7.out).mono ?_);exact cZ ad.out;exact ae.out;exact cZ af.out;exact ag.out;rintro e w' ⟨rfl,⟨nd,rfl⟩⟩;(try first|exact⟨rfl,_,World.drewN_drewN _ _ _⟩|exact⟨rfl,_,Eq.trans (World.drewN_drewN _ _ _) (congrArg (World.drewN _) (Nat.add_assoc _ _ _))⟩)));try go_wp2_with (first|(go_at_call 60;(with_reducible refine(iW.calls k1 _ _ (kT l0 j) _ _ (kT l1 j) false _ ?_ ?_ ?_ ?_ A7.out).mono ?_);exact cZ ad.out;exact ae.out;exact cZ af.out;exact ag.out;rintro e w' ⟨rfl,⟨nd,rfl⟩⟩;(try first|exact⟨rfl,_,World.drewN_drewN _ _ _⟩|exact⟨rfl,_,Eq.trans (World.drewN_drewN _ _ _) (congrArg (World.drewN _) (Nat.add_assoc _ _ _))⟩))))
      go_ret;exact vn
    ·obtain rfl:=vZ H;go_wp2;repeat(go_quiet (fail);try go_wp2)
     go_ret;exact vn
 ·obtain⟨aU,aV⟩:=vk c3;have br:(l0.length==l1.length)=false:=by first|simpa using c3|(simp at c3⊢;omega)
  obtain rfl:=vZ H;go_enter Tryz.func61,Tryz.ntmps61;go_wp2;repeat(go_quiet (fail);try go_wp2)
  go_ret;exact vn
def km.f (k:Nat) (J:Int) (o:List Int) (I:List (List Int)) (aq:Int) (ao:List Int) (ar:List (List Int)):Option (Bool):=if J=aq then((iW.f k o ao).bind fun aW=>(if aW=true then((jF.f k I ar).bind fun aY=>(some aY))else(some false)))else(some false)
instance km.mo {k a0 a1 a2 a3 a4 a5}:ku (km.f k a0 a1 a2 a3 a4 a5) (km.f (k+1) a0 a1 a2 a3 a4 a5):=by unfold km.f;infer_instance
theorem km.calls (k:Nat) (J:Int) (ah:Option Addr) (ai:Nat) (o:List Int) (aj:Option Addr) (ak:Nat) (I:List (List Int)) (aq:Int) (aZ:Option Addr) (a6:Nat) (ao:List Int) (a7:Option Addr) (a8:Nat) (ar:List (List Int)) (r:Bool) (w:World) (ay:Kd.C (Kd.int .i64) w ah o.length o) (az:o.length≤ai) (aA:Kd.C (Kd.slice 3 (Kd.int .i64)) w aj I.length I) (aB:I.length≤ak) (bJ:Kd.C (Kd.int .i64) w aZ ao.length ao) (bO:ao.length≤a6) (bT:Kd.C (Kd.slice 3 (Kd.int .i64)) w a7 ar.length ar) (bV:ar.length≤a8) (h:km.f k J o I aq ao ar=some r):
  Calls Tryz.prog 11 #[.agg #[.int .i64 J,.slice ah o.length ai,.slice aj I.length ak],.agg #[.int .i64 aq,.slice aZ ao.length a6,.slice a7 ar.length a8]] w fun e w'=>e= .returned (.bool r)∧Below w.heap.size w w':=by
 have cl:=Tryz.underlying26;have aD:=bm ay;have aE:=bm az;clear ay az;have aN:=bm aA;have aO:=bm aB;clear aA aB;have bZ:=bm bJ;have b0:=bm bO;clear bJ bO;have cr:=bm bT;have ct:=bm bV;clear bT bV;have HB:=bm (Below.refl w.heap.size w);have H:=h;clear h;unfold km.f at H;rcases iT H with⟨c3,H⟩|⟨c3,H⟩
 obtain⟨aU,aV⟩:=vl c3;clear c3;obtain⟨aW,A4,H⟩:=bE H;try dsimp only at H
 by_cases c5:aW=true
 subst c5;rw[if_pos rfl]at H;obtain⟨aY,A6,H⟩:=bE H;try dsimp only at H
 obtain rfl:=vZ H
 rotate_left
 replace c5:=uZ c5;subst c5;rw[if_neg vR]at H;obtain rfl:=vZ H
 rotate_left
 obtain⟨aU,aV⟩:=vk c3;obtain rfl:=vZ H
 rotate_left
 all_goals(go_enter Tryz.func11,Tryz.ntmps11;go_wp2_with (first|(refine mK 2 #[.int .i64 J,.slice ah o.length ai,.slice aj I.length ak] 26 ?_;intro _ hg _ aa hb;have ab:=bm (aa);have b4:=bG HB hg;replace HB:=bW HB hb;clear hb aa hg)|(refine mK 3 #[.int .i64 aq,.slice aZ ao.length a6,.slice a7 ar.length a8] 26 ?_;intro _ hg _ aa hb;have aP:=bm (aa);have b6:=bG HB hg;replace HB:=bW HB hb;have al:=bL ab hg;have an:=bM ab hg;replace ab:=bU ab hb;clear hb aa hg;obtain⟨_,_⟩:=vS al an;obtain⟨_,_,_,_,_,_⟩:=b3 ab;obtain⟨_,_,_,_,_,_⟩:=b3 aP)|(go_at_call 60;(with_reducible refine(iW.calls k _ _ o _ _ ao true _ ?_ ?_ ?_ ?_ A4.out).mono ?_);exact cY aD HB;exact aE.out;exact cY bZ HB;exact b0.out;rintro e w' ⟨rfl,⟨nd,rfl⟩⟩)|(go_at_call 61;(with_reducible refine(jF.calls k _ _ I _ _ ar aY _ ?_ ?_ ?_ ?_ A6.out).mono ?_);exact cZ (Kd.C_below aN.out (wZ HB));exact aO.out;exact cZ (Kd.C_below cr.out (wZ HB));exact ct.out;rintro e w' ⟨rfl,⟨nd,rfl⟩⟩)|(go_at_call 60;(with_reducible refine(iW.calls k _ _ o _ _ ao false _ ?_ ?_ ?_ ?_ A4.out).mono ?_);exact cY aD HB;exact aE.out;exact cY bZ HB;exact b0.out;rintro e w' ⟨rfl,⟨nd,rfl⟩⟩)))
 iterate 3(go_ret;exact vo HB)
def mA.f (k:Nat) (J:Int) (o:List Int) (I:List (List Int)):Option (Bool):=(km.f k J o I 0 ([]:List Int) ([]:List (List Int))).bind fun ba=>(some ba)
instance mA.mo {k a0 a1 a2}:ku (mA.f k a0 a1 a2) (mA.f (k+1) a0 a1 a2):=by unfold mA.f;infer_instance
theorem mA.calls (k:Nat) (J:Int) (ah:Option Addr) (ai:Nat) (o:List Int) (aj:Option Addr) (ak:Nat) (I:List (List Int)) (r:Bool) (w:World) (ay:Kd.C (Kd.int .i64) w ah o.length o) (az:o.length≤ai) (aA:Kd.C (Kd.slice 3 (Kd.int .i64)) w aj I.length I) (aB:I.length≤ak) (h:mA.f k J o I=some r):
  Calls Tryz.prog 13 #[.agg #[.int .i64 J,.slice ah o.length ai,.slice aj I.length ak]] w fun e w'=>e= .returned (.bool r)∧Below w.heap.size w w':=by
 have cl:=Tryz.underlying26;have aD:=bm ay;have aE:=bm az;clear ay az;have aN:=bm aA;have aO:=bm aB;clear aA aB;have HB:=bm (Below.refl w.heap.size w);have H:=h;clear h;unfold mA.f at H;obtain⟨ba,A2,H⟩:=bE H;try dsimp only at H
 obtain rfl:=vZ H;go_enter Tryz.func13,Tryz.ntmps13;go_wp2_with (first|(refine mK 1 #[.int .i64 J,.slice ah o.length ai,.slice aj I.length ak] 26 ?_;intro _ hg _ aa hb;have bh:=bm (aa);have dw:=bG HB hg;replace HB:=bW HB hb;clear hb aa hg;obtain⟨_,_,_,_,_,_⟩:=b3 bh)|(refine gB (some 5) Tryz.func11 #[.agg #[.int .i64 J,.slice ah o.length ai,.slice aj I.length ak],.agg #[.int .i64 0,.slice none 0 0,.slice none 0 0]] rfl ?_;(refine(km.calls k J _ _ o _ _ I 0 _ _ ([]:List Int) _ _ ([]:List (List Int)) ba _ ?_ ?_ ?_ ?_ ?_ ?_ ?_ ?_ A2.out).mono ?_);exact cY aD HB;exact aE.out;exact cY aN HB;exact aO.out;exact Kd.C_nil _ _;exact Nat.le_refl _;exact Kd.C_nil _ _;exact Nat.le_refl _;rintro e _ ⟨rfl,hb⟩;refine⟨_,rfl,?_⟩;replace bh:=bU bh hb;replace HB:=bW HB hb;clear hb));go_ret;exact vo HB
def mw.f (a0:Int):Option (Int):=(kn.f a0).bind fun bb=>(if bb=true then(if 0≤a0 then(some (shl .i64 1 a0))else(none))else(some (-1)))
theorem mw.calls (a0:Int) (r:Int) (w:World) (h:mw.f a0=some r):
  Calls Tryz.prog 63 #[.int .i64 a0] w fun e w'=>e= .returned (.int .i64 r)∧Drawn0 w w':=by
 have H:=h;clear h;unfold mw.f at H;obtain⟨bb,A2,H⟩:=bE H;try dsimp only at H
 by_cases c3:bb=true
 ·subst c3;rw[if_pos rfl]at H;obtain⟨bk,dF,H⟩:=vK H;obtain⟨bl,aQ⟩:∃j_:Int,(shl .i64 1 a0)=j_:=⟨_,rfl⟩;first|rw[aQ]at H|simp only[aQ]at H
  (try rw[aQ]at A2);have b7:(IntKind.i64.wrap (1*2^min a0.toNat 64))=bl:=aQ;have b8:a0≤64→(IntKind.i64.wrap (1*2^a0.toNat))=bl:=shl_small aQ;have dx:(IntKind.i64.wrap (2^min a0.toNat 64))=bl:=by have h_:=b7;rw[Int.one_mul]at h_;exact h_
  have dy:a0≤64→(IntKind.i64.wrap (2^a0.toNat))=bl:=fun dm=>by have h_:=b8 dm;rw[Int.one_mul]at h_;exact h_
  have dz:(wrap64 (1*2^min a0.toNat 64))=bl:=(i64_w _).symm.trans b7;have dA:a0≤64→(wrap64 (1*2^a0.toNat))=bl:=fun h_=>(i64_w _).symm.trans (b8 h_)
  obtain rfl:=vZ H;go_enter Tryz.func63,Tryz.ntmps63;go_wp2_with (first|(refine gB (some 4) Tryz.func64 #[.int .i64 a0] rfl ?_;(with_reducible refine(kn.calls a0 true _ A2.out).mono ?_);rintro e w' ⟨rfl,⟨nd,rfl⟩⟩;refine⟨_,rfl,?_⟩));go_ret;exact⟨by first|rfl|(simp;done)|(simp only[←aQ]<;>(first|rfl|simp))|(simp[*];done),by repeat(first|exact Drawn0.refl _|apply Drawn0.step)⟩
 ·replace c3:=uZ c3;subst c3;rw[if_neg vR]at H;obtain rfl:=vZ H;go_enter Tryz.func63,Tryz.ntmps63;go_wp2_with (first|(refine gB (some 4) Tryz.func64 #[.int .i64 a0] rfl ?_;(with_reducible refine(kn.calls a0 false _ A2.out).mono ?_);rintro e w' ⟨rfl,⟨nd,rfl⟩⟩;refine⟨_,rfl,?_⟩));go_ret;exact vn
def oL.f:Option (Bool):=(mw.f 1).bind fun aC=>(if aC=2 then((mw.f 9).bind fun bc=>(some (bc==(-1))))else(some false))
theorem oL.calls  (r:Bool) (w:World) (h:oL.f=some r):
  Calls Tryz.prog 14 #[] w fun e w'=>e= .returned (.bool r)∧Drawn0 w w':=by
 have H:((mw.f 1).bind fun aC=>(if aC=2 then((mw.f 9).bind fun bc=>(some (bc==(-1))))else(some false)))=some r:=h;clear h;obtain⟨aC,A1,H⟩:=bE H;try dsimp only at H
 rcases iT H with⟨c2,H⟩|⟨c2,H⟩
 obtain⟨dn,dp⟩:=vl c2;clear c2;obtain⟨bc,A3,H⟩:=bE H;try dsimp only at H
 obtain rfl:=vZ H
 rotate_left
 obtain⟨dn,dp⟩:=vk c2;obtain rfl:=vZ H
 rotate_left
 all_goals(go_enter Tryz.func14,Tryz.ntmps14;go_wp2_with (first|(refine gB (some 1) Tryz.func63 #[.int .i64 1] rfl ?_;(with_reducible refine(mw.calls 1 aC _ A1.out).mono ?_);rintro e w' ⟨rfl,⟨nd,rfl⟩⟩;refine⟨_,rfl,?_⟩)|(go_at_call 63;(with_reducible refine(mw.calls 9 bc _ A3.out).mono ?_);rintro e w' ⟨rfl,⟨nd,rfl⟩⟩)))
 iterate 2(go_ret;exact vn)
def lB.f (k:Nat) (J:Int) (o:List Int) (I:List (List Int)):Option (Bool):=(jW.f k J o I).bind fun bd=>(some bd)
instance lB.mo {k a0 a1 a2}:ku (lB.f k a0 a1 a2) (lB.f (k+1) a0 a1 a2):=by unfold lB.f;infer_instance
theorem lB.calls (k:Nat) (J:Int) (ah:Option Addr) (ai:Nat) (o:List Int) (aj:Option Addr) (ak:Nat) (I:List (List Int)) (r:Bool) (w:World) (ay:Kd.C (Kd.int .i64) w ah o.length o) (az:o.length≤ai) (aA:Kd.C (Kd.slice 3 (Kd.int .i64)) w aj I.length I) (aB:I.length≤ak) (h:lB.f k J o I=some r):
  Calls Tryz.prog 16 #[.agg #[.int .i64 J,.slice ah o.length ai,.slice aj I.length ak]] w fun e w'=>e= .returned (.bool r)∧Below w.heap.size w w':=by
 have cl:=Tryz.underlying26;have aD:=bm ay;have aE:=bm az;clear ay az;have aN:=bm aA;have aO:=bm aB;clear aA aB;have HB:=bm (Below.refl w.heap.size w);have H:=h;clear h;unfold lB.f at H;obtain⟨bd,A2,H⟩:=bE H;try dsimp only at H
 obtain rfl:=vZ H;go_enter Tryz.func16,Tryz.ntmps16;go_wp2_with (first|(refine mK 1 #[.int .i64 J,.slice ah o.length ai,.slice aj I.length ak] 26 ?_;intro _ hg _ aa hb;have bj:=bm (aa);have dC:=bG HB hg;replace HB:=bW HB hb;clear hb aa hg;obtain⟨_,_,_,_,_,_⟩:=b3 bj)|(refine gB (some 4) Tryz.func43 #[.agg #[.int .i64 J,.slice ah o.length ai,.slice aj I.length ak]] rfl ?_;(with_reducible refine(jW.calls k J _ _ o _ _ I bd _ ?_ ?_ ?_ ?_ A2.out).mono ?_);exact cY aD HB;exact aE.out;exact cY aN HB;exact aO.out;rintro e _ ⟨rfl,hb⟩;refine⟨_,rfl,?_⟩;replace bj:=bU bj hb;replace HB:=bW HB hb;clear hb));go_ret;exact vo HB
def mc.f (k:Nat) (a0:Int) (l1:List Int):Option (Int):=(jG.f k a0 l1).bind fun bf=>(if bf=true then((ko.f a0 l1).bind fun bg=>(some bg))else(some (-1)))
instance mc.mo {k a0 a1}:ku (mc.f k a0 a1) (mc.f (k+1) a0 a1):=by unfold mc.f;infer_instance
theorem mc.calls (k:Nat) (a0:Int) (A1:Option Addr) (c1:Nat) (l1:List Int) (r:Int) (w:World) (aS:Kd.C (Kd.int .i64) w A1 l1.length l1) (aT:l1.length≤c1) (h:mc.f k a0 l1=some r):
  Calls Tryz.prog 17 #[.int .i64 a0,.slice A1 l1.length c1] w fun e w'=>e= .returned (.int .i64 r)∧Below w.heap.size w w':=by
 have aR:=bm aS;have bq:=bm aT;clear aS aT;have HB:=bm (Below.refl w.heap.size w);have H:=h;clear h;unfold mc.f at H;obtain⟨bf,A3,H⟩:=bE H;try dsimp only at H
 by_cases c4:bf=true
 ·subst c4;rw[if_pos rfl]at H;obtain⟨bg,A5,H⟩:=bE H;try dsimp only at H
  obtain rfl:=vZ H;go_enter Tryz.func17,Tryz.ntmps17;go_wp2_with (first|(refine gB (some 7) Tryz.func66 #[.int .i64 a0,.slice A1 l1.length c1] rfl ?_;(with_reducible refine(jG.calls k a0 _ _ l1 true _ ?_ ?_ A3.out).mono ?_);exact cZ aR.out;exact bq.out;rintro e _ ⟨rfl,hb⟩;refine⟨_,rfl,?_⟩;replace HB:=bW HB hb;clear hb)|(refine gB (some 11) Tryz.func67 #[.int .i64 a0,.slice A1 l1.length c1] rfl ?_;(with_reducible refine(ko.calls a0 _ _ l1 bg _ ?_ ?_ A5.out).mono ?_);exact cY aR HB;exact bq.out;rintro e _ ⟨rfl,hb⟩;refine⟨_,rfl,?_⟩;replace HB:=bW HB hb;clear hb));go_ret;exact vo HB
 ·replace c4:=uZ c4;subst c4;rw[if_neg vR]at H;obtain rfl:=vZ H;go_enter Tryz.func17,Tryz.ntmps17;go_wp2_with (first|(refine gB (some 7) Tryz.func66 #[.int .i64 a0,.slice A1 l1.length c1] rfl ?_;(with_reducible refine(jG.calls k a0 _ _ l1 false _ ?_ ?_ A3.out).mono ?_);exact cZ aR.out;exact bq.out;rintro e _ ⟨rfl,hb⟩;refine⟨_,rfl,?_⟩;replace HB:=bW HB hb;clear hb));go_ret;exact vo HB
end Go.Proofs.YtihgpkohglcijaaGreatDoor.P
