import Derived.Test.YtigeaokfhnlkcaaGreatDoorPx0
namespace Go.Proofs.YtigeaokfhnlkcaaGreatDoor.P
open Go.RowKit YtigeaokfhnlkcaaGreatDoorW PrintWords PrintLast PrintMore
attribute [local go_sem] max2_int min2_int max_two min_two max_three min_three max_four min_four
set_option linter.unusedVariables false
set_option linter.unusedSimpArgs false
set_option maxHeartbeats 8000000
set_option maxRecDepth 100000
def ny.l0:Nat→List Int→List Int→Int→Option (Bool)
 |0,_,_,_=>none
 |k+1,x0,x1,x5=>if x5<(x0.length:Int)then(if 0≤x5 then(if x5<(x1.length:Int)then(if(rd x0 x5)=(rd x1 x5)then(ny.l0 k x0 x1 (wrap64 (x5+1)))else(some false))else(none))else(none))else(some true)
def ny.f (k:Nat) (l0:List Int) (l1:List Int):Option (Bool):=if(l0.length:Int)=(l1.length:Int)then(ny.l0 k l0 l1 0)else(some false)
theorem ny.kU:∀k,(∀y0 y1 y2,ph (ny.l0 k y0 y1 y2) (ny.l0 (k+1) y0 y1 y2))
 |0=>fun _ _ _=> .z (by simp only[ny.l0])
 |k+1=>by
  have i0:=ny.kU k;exact fun _ _ _=>by unfold ny.l0;infer_instance
instance ny.mo {k a0 a1}:ph (ny.f k a0 a1) (ny.f (k+1) a0 a1):=by have i0:=ny.kU k;unfold ny.f;infer_instance
theorem ny.calls (k:Nat) (A0:Option Addr) (c0:Nat) (l0:List Int) (A1:Option Addr) (c1:Nat) (l1:List Int) (r:Bool) (w:World) (b4:Kd.C (Kd.int .i64) w A0 l0.length l0) (b5:l0.length≤c0) (aE:Kd.C (Kd.int .i64) w A1 l1.length l1) (aG:l1.length≤c1) (h:ny.f k l0 l1=some r):
  Calls Tryz.prog 32 #[.slice A0 l0.length c0,.slice A1 l1.length c1] w fun e w'=>e= .returned (.bool r)∧Drawn0 w w':=by
 have b6:=bm b4;have eF:=bm b5;clear b4 b5;have J:=bm aE;have aH:=bm aG;clear aE aG;have H:=h;clear h;unfold ny.f at H;rcases iT H with⟨c3,H⟩|⟨c3,H⟩
 ·obtain⟨aK,bq⟩:=nL c3;have b7:(l0.length==l1.length)=true:=by first|simpa using c3|(simp at c3⊢;omega)
  clear c3;have H':=bm H;clear H;go_enter Tryz.func32,Tryz.ntmps32;go_wp2;repeat(go_quiet (fail);try go_wp2)
  go_loopg [5] k (fun kq v5 w'=>∃(j:Int),v5= .int .i64 j∧kn (ny.l0 kq l0 l1 j=some r)∧kn (kq≤k)∧Drawn0 w w')
  case atStart=>exact⟨(0),(by first|rfl|(simp;done)|(simp[*];done)),H',⟨Nat.le_refl _⟩,by repeat(first|exact Drawn0.refl _|apply Drawn0.step)⟩
  case round=>
   clear H';obtain⟨j,rfl,HA,ab,⟨m1,rfl⟩⟩:=hrel;cases gk with
   |zero=>exact absurd HA.out (by simp[ny.l0])
   |succ k1=>
    have H:=HA.out;clear HA;simp only[ny.l0]at H;rcases nA H with⟨bn,H⟩|⟨bn,H⟩
    ·obtain⟨dy,H⟩:=mY H;obtain⟨aM,H⟩:=mY H;rcases iT H with⟨c7,H⟩|⟨c7,H⟩
     ·obtain⟨dz,dA⟩:=nL c7;clear c7;have H':=bm H;clear H;have aN:0≤(j:Int):=nY;have aQ:j<(l0.length:Int):=nY;obtain⟨db,b8,b9⟩:=Kd.at_int b6.out j aN aQ;cases b8;replace aN:=mX aN;replace aQ:=mX aQ;have aR:0≤(j:Int):=nY;have aT:j<(l1.length:Int):=nY;obtain⟨dc,ca,cb⟩:=Kd.at_int J.out j aR aT;cases ca;replace aR:=mX aR;replace aT:=mX aT;go_wp2;repeat(go_quiet (fail);try go_wp2)
      go_roundg k1
      case measure=>have:=ab.out;omega
      case rel=>exact⟨(wrap64 (j+1)),(by first|rfl|(simp;done)|(simp[*];done)),H',⟨by have:=ab.out;omega⟩,by repeat(first|exact Drawn0.refl _|apply Drawn0.step)⟩
     ·obtain⟨dz,dA⟩:=nK c7;obtain rfl:=oJ H;have aN:0≤(j:Int):=nY;have aQ:j<(l0.length:Int):=nY;obtain⟨db,b8,b9⟩:=Kd.at_int b6.out j aN aQ;cases b8;replace aN:=mX aN;replace aQ:=mX aQ;have aR:0≤(j:Int):=nY;have aT:j<(l1.length:Int):=nY;obtain⟨dc,ca,cb⟩:=Kd.at_int J.out j aR aT;cases ca;replace aR:=mX aR;replace aT:=mX aT;go_wp2;repeat(go_quiet (fail);try go_wp2)
      go_ret;exact rq
    ·obtain rfl:=oJ H;go_wp2;repeat(go_quiet (fail);try go_wp2)
     go_ret;exact rq
 ·obtain⟨aK,bq⟩:=nK c3;have b7:(l0.length==l1.length)=false:=by first|simpa using c3|(simp at c3⊢;omega)
  obtain rfl:=oJ H;go_enter Tryz.func32,Tryz.ntmps32;go_wp2;repeat(go_quiet (fail);try go_wp2)
  go_ret;exact rq
def nW.l0:Nat→List (List Int)→List (List Int)→Int→Option (Bool)
 |0,_,_,_=>none
 |k+1,x0,x1,x5=>if x5<(x0.length:Int)then(if 0≤x5 then(if x5<(x1.length:Int)then((ny.f k (oP x0 x5) (oP x1 x5)).bind fun t105=>(if t105=true then(nW.l0 k x0 x1 (wrap64 (x5+1)))else(some false)))else(none))else(none))else(some true)
def nW.f (k:Nat) (l0:List (List Int)) (l1:List (List Int)):Option (Bool):=if(l0.length:Int)=(l1.length:Int)then(nW.l0 k l0 l1 0)else(some false)
theorem nW.kU:∀k,(∀y0 y1 y2,ph (nW.l0 k y0 y1 y2) (nW.l0 (k+1) y0 y1 y2))
 |0=>fun _ _ _=> .z (by simp only[nW.l0])
 |k+1=>by
  have i0:=nW.kU k;exact fun _ _ _=>by unfold nW.l0;infer_instance
instance nW.mo {k a0 a1}:ph (nW.f k a0 a1) (nW.f (k+1) a0 a1):=by have i0:=nW.kU k;unfold nW.f;infer_instance
theorem nW.calls (k:Nat) (A0:Option Addr) (c0:Nat) (l0:List (List Int)) (A1:Option Addr) (c1:Nat) (l1:List (List Int)) (r:Bool) (w:World) (b4:Kd.C (Kd.slice 3 (Kd.int .i64)) w A0 l0.length l0) (b5:l0.length≤c0) (aE:Kd.C (Kd.slice 3 (Kd.int .i64)) w A1 l1.length l1) (aG:l1.length≤c1) (h:nW.f k l0 l1=some r):
  Calls Tryz.prog 33 #[.slice A0 l0.length c0,.slice A1 l1.length c1] w fun e w'=>e= .returned (.bool r)∧Drawn0 w w':=by
 have b6:=bm b4;have eF:=bm b5;clear b4 b5;have J:=bm aE;have aH:=bm aG;clear aE aG;have H:=h;clear h;unfold nW.f at H;rcases iT H with⟨c3,H⟩|⟨c3,H⟩
 ·obtain⟨aK,bq⟩:=nL c3;have b7:(l0.length==l1.length)=true:=by first|simpa using c3|(simp at c3⊢;omega)
  clear c3;have H':=bm H;clear H;go_enter Tryz.func33,Tryz.ntmps33;go_wp2;repeat(go_quiet (fail);try go_wp2)
  go_loopg [5] k (fun kq v5 w'=>∃(j:Int),v5= .int .i64 j∧kn (nW.l0 kq l0 l1 j=some r)∧kn (kq≤k)∧Drawn0 w w')
  case atStart=>exact⟨(0),(by first|rfl|(simp;done)|(simp[*];done)),H',⟨Nat.le_refl _⟩,by repeat(first|exact Drawn0.refl _|apply Drawn0.step)⟩
  case round=>
   clear H';obtain⟨j,rfl,HA,ab,⟨m1,rfl⟩⟩:=hrel;cases gk with
   |zero=>exact absurd HA.out (by simp[nW.l0])
   |succ k1=>
    have H:=HA.out;clear HA;simp only[nW.l0]at H;rcases nA H with⟨bn,H⟩|⟨bn,H⟩
    ·obtain⟨dy,H⟩:=mY H;obtain⟨aM,H⟩:=mY H;obtain⟨t105,A7,H⟩:=bE H;try dsimp only at H
     by_cases c8:t105=true
     ·subst c8;rw[if_pos rfl]at H;have H':=bm H;clear H;have aU:0≤(j:Int):=nY;have aV:j<(l0.length:Int):=nY;obtain⟨dd,cR,cS,cc,cd,ax,ay⟩:=tt b6.out j aU aV;cases cc;have ad:=bm ay;have ae:=bm ax;clear ay ax;replace aU:=mX aU;replace aV:=mX aV;have aW:0≤(j:Int):=nY;have aY:j<(l1.length:Int):=nY;obtain⟨de,cT,cU,cf,cg,az,aA⟩:=tt J.out j aW aY;cases cf;have af:=bm aA;have ag:=bm az;clear aA az;replace aW:=mX aW;replace aY:=mX aY;go_wp2_with (first|(go_at_call 32;(with_reducible refine(ny.calls k1 _ _ (oP l0 j) _ _ (oP l1 j) true _ ?_ ?_ ?_ ?_ A7.out).mono ?_);exact cZ ad.out;exact ae.out;exact cZ af.out;exact ag.out;rintro e w' ⟨rfl,⟨nd,rfl⟩⟩;(try first|exact⟨rfl,_,World.drewN_drewN _ _ _⟩|exact⟨rfl,_,Eq.trans (World.drewN_drewN _ _ _) (congrArg (World.drewN _) (Nat.add_assoc _ _ _))⟩)));repeat(go_quiet (first|(go_at_call 32;(with_reducible refine(ny.calls k1 _ _ (oP l0 j) _ _ (oP l1 j) true _ ?_ ?_ ?_ ?_ A7.out).mono ?_);exact cZ ad.out;exact ae.out;exact cZ af.out;exact ag.out;rintro e w' ⟨rfl,⟨nd,rfl⟩⟩;(try first|exact⟨rfl,_,World.drewN_drewN _ _ _⟩|exact⟨rfl,_,Eq.trans (World.drewN_drewN _ _ _) (congrArg (World.drewN _) (Nat.add_assoc _ _ _))⟩)));try go_wp2_with (first|(go_at_call 32;(with_reducible refine(ny.calls k1 _ _ (oP l0 j) _ _ (oP l1 j) true _ ?_ ?_ ?_ ?_ A7.out).mono ?_);exact cZ ad.out;exact ae.out;exact cZ af.out;exact ag.out;rintro e w' ⟨rfl,⟨nd,rfl⟩⟩;(try first|exact⟨rfl,_,World.drewN_drewN _ _ _⟩|exact⟨rfl,_,Eq.trans (World.drewN_drewN _ _ _) (congrArg (World.drewN _) (Nat.add_assoc _ _ _))⟩))))
      go_roundg k1
      case measure=>have:=ab.out;omega
      case rel=>exact⟨(wrap64 (j+1)),(by first|rfl|(simp;done)|(simp[*];done)),H',⟨by have:=ab.out;omega⟩,by repeat(first|exact Drawn0.refl _|apply Drawn0.step)⟩
     ·replace c8:=mN c8;subst c8;rw[if_neg nz]at H;obtain rfl:=oJ H;have aU:0≤(j:Int):=nY;have aV:j<(l0.length:Int):=nY;obtain⟨dd,cR,cS,cc,cd,ax,ay⟩:=tt b6.out j aU aV;cases cc;have ad:=bm ay;have ae:=bm ax;clear ay ax;replace aU:=mX aU;replace aV:=mX aV;have aW:0≤(j:Int):=nY;have aY:j<(l1.length:Int):=nY;obtain⟨de,cT,cU,cf,cg,az,aA⟩:=tt J.out j aW aY;cases cf;have af:=bm aA;have ag:=bm az;clear aA az;replace aW:=mX aW;replace aY:=mX aY;go_wp2_with (first|(go_at_call 32;(with_reducible refine(ny.calls k1 _ _ (oP l0 j) _ _ (oP l1 j) false _ ?_ ?_ ?_ ?_ A7.out).mono ?_);exact cZ ad.out;exact ae.out;exact cZ af.out;exact ag.out;rintro e w' ⟨rfl,⟨nd,rfl⟩⟩;(try first|exact⟨rfl,_,World.drewN_drewN _ _ _⟩|exact⟨rfl,_,Eq.trans (World.drewN_drewN _ _ _) (congrArg (World.drewN _) (Nat.add_assoc _ _ _))⟩)));repeat(go_quiet (first|(go_at_call 32;(with_reducible refine(ny.calls k1 _ _ (oP l0 j) _ _ (oP l1 j) false _ ?_ ?_ ?_ ?_ A7.out).mono ?_);exact cZ ad.out;exact ae.out;exact cZ af.out;exact ag.out;rintro e w' ⟨rfl,⟨nd,rfl⟩⟩;(try first|exact⟨rfl,_,World.drewN_drewN _ _ _⟩|exact⟨rfl,_,Eq.trans (World.drewN_drewN _ _ _) (congrArg (World.drewN _) (Nat.add_assoc _ _ _))⟩)));try go_wp2_with (first|(go_at_call 32;(with_reducible refine(ny.calls k1 _ _ (oP l0 j) _ _ (oP l1 j) false _ ?_ ?_ ?_ ?_ A7.out).mono ?_);exact cZ ad.out;exact ae.out;exact cZ af.out;exact ag.out;rintro e w' ⟨rfl,⟨nd,rfl⟩⟩;(try first|exact⟨rfl,_,World.drewN_drewN _ _ _⟩|exact⟨rfl,_,Eq.trans (World.drewN_drewN _ _ _) (congrArg (World.drewN _) (Nat.add_assoc _ _ _))⟩))))
      go_ret;exact rq
    ·obtain rfl:=oJ H;go_wp2;repeat(go_quiet (fail);try go_wp2)
     go_ret;exact rq
 ·obtain⟨aK,bq⟩:=nK c3;have b7:(l0.length==l1.length)=false:=by first|simpa using c3|(simp at c3⊢;omega)
  obtain rfl:=oJ H;go_enter Tryz.func33,Tryz.ntmps33;go_wp2;repeat(go_quiet (fail);try go_wp2)
  go_ret;exact rq
def oU.f (k:Nat) (ar:Int) (an:List Int) (au:List (List Int)) (av:Int) (ao:List Int) (aw:List (List Int)):Option (Bool):=if ar=av then((ny.f k an ao).bind fun t108=>(if t108=true then((nW.f k au aw).bind fun t109=>(some t109))else(some false)))else(some false)
instance oU.mo {k a0 a1 a2 a3 a4 a5}:ph (oU.f k a0 a1 a2 a3 a4 a5) (oU.f (k+1) a0 a1 a2 a3 a4 a5):=by unfold oU.f;infer_instance
theorem oU.calls (k:Nat) (ar:Int) (br:Option Addr) (bs:Nat) (an:List Int) (bu:Option Addr) (bw:Nat) (au:List (List Int)) (av:Int) (bx:Option Addr) (bz:Nat) (ao:List Int) (bA:Option Addr) (bB:Nat) (aw:List (List Int)) (r:Bool) (w:World) (ch:Kd.C (Kd.int .i64) w br an.length an) (cj:an.length≤bs) (ck:Kd.C (Kd.slice 3 (Kd.int .i64)) w bu au.length au) (cl:au.length≤bw) (cm:Kd.C (Kd.int .i64) w bx ao.length ao) (cn:ao.length≤bz) (cp:Kd.C (Kd.slice 3 (Kd.int .i64)) w bA aw.length aw) (cq:aw.length≤bB) (h:oU.f k ar an au av ao aw=some r):
  Calls Tryz.prog 8 #[.agg #[.int .i64 ar,.slice br an.length bs,.slice bu au.length bw],.agg #[.int .i64 av,.slice bx ao.length bz,.slice bA aw.length bB]] w fun e w'=>e= .returned (.bool r)∧Below w.heap.size w w':=by
 have eQ:=Tryz.underlying26;have cr:=bm ch;have ct:=bm cj;clear ch cj;have df:=bm ck;have dg:=bm cl;clear ck cl;have cu:=bm cm;have cv:=bm cn;clear cm cn;have dh:=bm cp;have di:=bm cq;clear cp cq;have HB:=bm (Below.refl w.heap.size w);have H:=h;clear h;unfold oU.f at H;rcases iT H with⟨c3,H⟩|⟨c3,H⟩
 ·obtain⟨aK,bq⟩:=nL c3;clear c3;obtain⟨t108,A4,H⟩:=bE H;try dsimp only at H
  by_cases c5:t108=true
  ·subst c5;rw[if_pos rfl]at H;obtain⟨t109,A6,H⟩:=bE H;try dsimp only at H
   obtain rfl:=oJ H;go_enter Tryz.func8,Tryz.ntmps8;go_wp2_with (first|(refine pN 2 #[.int .i64 ar,.slice br an.length bs,.slice bu au.length bw] 26 ?_;intro cw hg w7 aa hb;have I:=bm (aa);have cx:=bG HB hg;replace HB:=bW HB hb;clear hb aa hg)|(refine pN 3 #[.int .i64 av,.slice bx ao.length bz,.slice bA aw.length bB] 26 ?_;intro cy hg w8 aa hb;have aZ:=bm (aa);have cz:=bG HB hg;replace HB:=bW HB hb;have ah:=bL I hg;have ai:=bM I hg;replace I:=bU I hb;clear hb aa hg;obtain⟨_,_⟩:=nC ah ai;obtain⟨dB,dC,dD,dE,dF,dG⟩:=b3 I;obtain⟨dH,dI,dJ,dK,dL,dM⟩:=b3 aZ)|(go_at_call 32;(with_reducible refine(ny.calls k _ _ an _ _ ao true _ ?_ ?_ ?_ ?_ A4.out).mono ?_);exact cY cr HB;exact ct.out;exact cY cu HB;exact cv.out;rintro e w' ⟨rfl,⟨nd,rfl⟩⟩)|(go_at_call 33;(with_reducible refine(nW.calls k _ _ au _ _ aw t109 _ ?_ ?_ ?_ ?_ A6.out).mono ?_);exact cZ (Kd.C_below df.out (wZ HB));exact dg.out;exact cZ (Kd.C_below dh.out (wZ HB));exact di.out;rintro e w' ⟨rfl,⟨nd,rfl⟩⟩));go_ret;exact rz HB
  ·replace c5:=mN c5;subst c5;rw[if_neg nz]at H;obtain rfl:=oJ H;go_enter Tryz.func8,Tryz.ntmps8;go_wp2_with (first|(refine pN 2 #[.int .i64 ar,.slice br an.length bs,.slice bu au.length bw] 26 ?_;intro cw hg e2 aa hb;have I:=bm (aa);have cx:=bG HB hg;replace HB:=bW HB hb;clear hb aa hg)|(refine pN 3 #[.int .i64 av,.slice bx ao.length bz,.slice bA aw.length bB] 26 ?_;intro cy hg e3 aa hb;have aZ:=bm (aa);have cz:=bG HB hg;replace HB:=bW HB hb;have ah:=bL I hg;have ai:=bM I hg;replace I:=bU I hb;clear hb aa hg;obtain⟨_,_⟩:=nC ah ai;obtain⟨dN,dO,dP,dQ,dR,dS⟩:=b3 I;obtain⟨dT,dU,dV,dW,dX,dY⟩:=b3 aZ)|(go_at_call 32;(with_reducible refine(ny.calls k _ _ an _ _ ao false _ ?_ ?_ ?_ ?_ A4.out).mono ?_);exact cY cr HB;exact ct.out;exact cY cu HB;exact cv.out;rintro e w' ⟨rfl,⟨nd,rfl⟩⟩));go_ret;exact rz HB
 ·obtain⟨aK,bq⟩:=nK c3;obtain rfl:=oJ H;go_enter Tryz.func8,Tryz.ntmps8;go_wp2_with (first|(refine pN 2 #[.int .i64 ar,.slice br an.length bs,.slice bu au.length bw] 26 ?_;intro cw hg e4 aa hb;have I:=bm (aa);have cx:=bG HB hg;replace HB:=bW HB hb;clear hb aa hg)|(refine pN 3 #[.int .i64 av,.slice bx ao.length bz,.slice bA aw.length bB] 26 ?_;intro cy hg eI aa hb;have aZ:=bm (aa);have cz:=bG HB hg;replace HB:=bW HB hb;have ah:=bL I hg;have ai:=bM I hg;replace I:=bU I hb;clear hb aa hg;obtain⟨_,_⟩:=nC ah ai;obtain⟨dZ,ea,eb,ec,ed,ee⟩:=b3 I;obtain⟨ef,eg,eh,ei,ej,ek⟩:=b3 aZ));go_ret;exact rz HB
def ov.f (a0:Int) (a1:Int) (a2:Int):Option (Bool):=if a0≥a1 then(some (decide (a0≤a2)))else(some false)
theorem ov.calls (a0:Int) (a1:Int) (a2:Int) (r:Bool) (w:World) (h:ov.f a0 a1 a2=some r):
  Calls Tryz.prog 77 #[.int .i64 a0,.int .i64 a1,.int .i64 a2] w fun e w'=>e= .returned (.bool r)∧Drawn0 w w':=by
 have H:=h;clear h;unfold ov.f at H;rcases nA H with⟨bn,H⟩|⟨bn,H⟩
 ·obtain rfl:=oJ H;go_enter Tryz.func77,Tryz.ntmps77;go_wp2;go_ret;exact rq
 ·obtain rfl:=oJ H;go_enter Tryz.func77,Tryz.ntmps77;go_wp2;go_ret;exact rq
def lr.l0:Nat→Int→List Int→Int→Int→Option (Bool)
 |0,_,_,_,_=>none
 |k+1,x0,x1,x5,x6=>if x6<(x1.length:Int)then(if 0≤x6 then((ov.f (rd x1 x6) 0 9).bind fun t111=>(if t111=true then(lr.l0 k x0 x1 (mn x5 (rd x1 x6)) (wrap64 (x6+1)))else(some false)))else(none))else((ov.f x0 1 3).bind fun t113=>(if t113=true then(if 0≤x0 then(if(x1.length:Int)=(shl .i64 1 x0)then(some (x5==0))else(some false))else(none))else(some false)))
def lr.f (k:Nat) (a0:Int) (l1:List Int):Option (Bool):=lr.l0 k a0 l1 9 0
theorem lr.kU:∀k,(∀y0 y1 y2 y3,ph (lr.l0 k y0 y1 y2 y3) (lr.l0 (k+1) y0 y1 y2 y3))
 |0=>fun _ _ _ _=> .z (by simp only[lr.l0])
 |k+1=>by
  have i0:=lr.kU k;exact fun _ _ _ _=>by unfold lr.l0;infer_instance
instance lr.mo {k a0 a1}:ph (lr.f k a0 a1) (lr.f (k+1) a0 a1):=by have i0:=lr.kU k;unfold lr.f;infer_instance
theorem lr.calls (k:Nat) (a0:Int) (A1:Option Addr) (c1:Nat) (l1:List Int) (r:Bool) (w:World) (aE:Kd.C (Kd.int .i64) w A1 l1.length l1) (aG:l1.length≤c1) (h:lr.f k a0 l1=some r):
  Calls Tryz.prog 68 #[.int .i64 a0,.slice A1 l1.length c1] w fun e w'=>e= .returned (.bool r)∧Below w.heap.size w w':=by
 have J:=bm aE;have aH:=bm aG;clear aE aG;have HB:=bm (Below.refl w.heap.size w);have H:=h;clear h;unfold lr.f at H;have H':=bm H;clear H;go_enter Tryz.func68,Tryz.ntmps68;go_wp2;go_loopg [5,6] k (fun kq v5 v6 w'=>∃(j:Int) (o:Int),v5= .int .i64 j∧v6= .int .i64 o∧kn (lr.l0 kq a0 l1 j o=some r)∧kn (kq≤k)∧kn (Below w.heap.size w w'))
 case atStart=>exact⟨(9),(0),(by first|rfl|(simp;done)|(simp[*];done)),(by first|rfl|(simp;done)|(simp[*];done)),H',⟨Nat.le_refl _⟩,⟨wZ HB⟩⟩
 case round=>
  clear H';obtain⟨j,o,rfl,rfl,HA,ab,HB⟩:=hrel;cases gk with
  |zero=>exact absurd HA.out (by simp[lr.l0])
  |succ k1=>
   have H:=HA.out;clear HA;simp only[lr.l0]at H;rcases nA H with⟨aK,H⟩|⟨aK,H⟩
   ·obtain⟨bn,H⟩:=mY H;obtain⟨t111,A5,H⟩:=bE H;try dsimp only at H
    by_cases c6:t111=true
    ·subst c6;rw[if_pos rfl]at H;obtain⟨el,bD⟩:∃j_:Int,(mn j (rd l1 o))=j_:=⟨_,rfl⟩;first|rw[bD]at H|simp only[bD]at H
     (try rw[bD]at A5);have eL:(if(rd l1 o)<j then(rd l1 o)else j)=el:=bD;have H':=bm H;clear H;have a6:0≤(o:Int):=nY;have a7:o<(l1.length:Int):=nY;obtain⟨cA,cB,aj⟩:=Kd.at_int J.out o a6 a7;cases cB;replace aj:=mO HB aj;replace a6:=mX a6;replace a7:=mX a7;go_wp2_with (first|(refine gB (some 17) Tryz.func77 #[.int .i64 (rd l1 o),.int .i64 0,.int .i64 9] rfl ?_;(with_reducible refine(ov.calls (rd l1 o) 0 9 true _ A5.out).mono ?_);rintro e w' ⟨rfl,⟨nd,rfl⟩⟩;refine⟨_,rfl,?_⟩;have cC:0≤(o:Int):=nY;have cD:o<(l1.length:Int):=nY;obtain⟨dj,en,a8⟩:=Kd.at_int J.out o cC cD;obtain rfl:cA=dj:=(by injection en);replace a8:=mO HB a8;replace cC:=mX cC;replace cD:=mX cD));go_roundg k1
     case measure=>have:=ab.out;omega
     case rel=>exact⟨(el),(wrap64 (o+1)),(by first|rfl|(simp;done)|(simp only[←bD]<;>(first|rfl|simp))|(simp[*];done)),(by first|rfl|(simp;done)|(simp[*];done)),H',⟨by have:=ab.out;omega⟩,⟨wZ HB⟩⟩
    ·replace c6:=mN c6;subst c6;rw[if_neg nz]at H;obtain rfl:=oJ H;have a6:0≤(o:Int):=nY;have a7:o<(l1.length:Int):=nY;obtain⟨cA,cB,aj⟩:=Kd.at_int J.out o a6 a7;cases cB;replace aj:=mO HB aj;replace a6:=mX a6;replace a7:=mX a7;go_wp2_with (first|(refine gB (some 17) Tryz.func77 #[.int .i64 (rd l1 o),.int .i64 0,.int .i64 9] rfl ?_;(with_reducible refine(ov.calls (rd l1 o) 0 9 false _ A5.out).mono ?_);rintro e w' ⟨rfl,⟨nd,rfl⟩⟩;refine⟨_,rfl,?_⟩));go_ret;exact rz HB
   ·obtain⟨t113,A8,H⟩:=bE H;try dsimp only at H
    by_cases c9:t113=true
    ·subst c9;rw[if_pos rfl]at H;obtain⟨cE,eM,H⟩:=mZ H;obtain⟨aC,aD⟩:∃j_:Int,(shl .i64 1 a0)=j_:=⟨_,rfl⟩;first|rw[aD]at H|simp only[aD]at H
     (try rw[aD]at A8);have b0:(IntKind.i64.wrap (1*2^min a0.toNat 64))=aC:=aD;have b1:a0≤64→(IntKind.i64.wrap (1*2^a0.toNat))=aC:=shl_small aD;have eB:(IntKind.i64.wrap (2^min a0.toNat 64))=aC:=by have h_:=b0;rw[Int.one_mul]at h_;exact h_
     have eC:a0≤64→(IntKind.i64.wrap (2^a0.toNat))=aC:=fun eo=>by have h_:=b1 eo;rw[Int.one_mul]at h_;exact h_
     have eD:(wrap64 (1*2^min a0.toNat 64))=aC:=(i64_w _).symm.trans b0;have eE:a0≤64→(wrap64 (1*2^a0.toNat))=aC:=fun h_=>(i64_w _).symm.trans (b1 h_)
     rcases iT H with⟨aJ,H⟩|⟨aJ,H⟩
     ·obtain⟨bO,dk⟩:=nL aJ;clear aJ;obtain rfl:=oJ H;go_wp2_with (first|(refine gB (some 26) Tryz.func77 #[.int .i64 a0,.int .i64 1,.int .i64 3] rfl ?_;(with_reducible refine(ov.calls a0 1 3 true _ A8.out).mono ?_);rintro e w' ⟨rfl,⟨nd,rfl⟩⟩;refine⟨_,rfl,?_⟩));go_ret;exact⟨by first|rfl|(simp[jY,jZ]<;>rfl)|(simp only[←aD];first|rfl|(simp[jY,jZ]<;>rfl))|(simp[*,jY,jZ]<;>rfl),wZ HB⟩
     ·obtain⟨bO,dk⟩:=nK aJ;obtain rfl:=oJ H;go_wp2_with (first|(refine gB (some 26) Tryz.func77 #[.int .i64 a0,.int .i64 1,.int .i64 3] rfl ?_;(with_reducible refine(ov.calls a0 1 3 true _ A8.out).mono ?_);rintro e w' ⟨rfl,⟨nd,rfl⟩⟩;refine⟨_,rfl,?_⟩));go_ret;exact⟨by first|rfl|(simp[jY,jZ]<;>rfl)|(simp only[←aD];first|rfl|(simp[jY,jZ]<;>rfl))|(simp[*,jY,jZ]<;>rfl),wZ HB⟩
    ·replace c9:=mN c9;subst c9;rw[if_neg nz]at H;obtain rfl:=oJ H;go_wp2_with (first|(refine gB (some 26) Tryz.func77 #[.int .i64 a0,.int .i64 1,.int .i64 3] rfl ?_;(with_reducible refine(ov.calls a0 1 3 false _ A8.out).mono ?_);rintro e w' ⟨rfl,⟨nd,rfl⟩⟩;refine⟨_,rfl,?_⟩));go_ret;exact rz HB
mutual
def jV.l0:Nat→Int→List Int→List Int→Int→Option (List Int)
 |0,_,_,_,_=>none
 |k+1,x0,x1,x5,x6=>if x6<(x1.length:Int)then((lr.f k x0 x1).bind fun t117=>(jV.j1 k x0 x1 x5 x6 t117))else(jV.j1 k x0 x1 x5 x6 false)
def jV.j1:Nat→Int→List Int→List Int→Int→Bool→Option (List Int)
 |0,_,_,_,_,_=>none
 |k+1,x0,x1,x5,x6,x20=>if x20=true then(jV.l1 k x0 x1 x5 x6 0 0)else(some x5)
def jV.l1:Nat→Int→List Int→List Int→Int→Int→Int→Option (List Int)
 |0,_,_,_,_,_,_=>none
 |k+1,x0,x1,x5,x6,x7,x8=>if 0≤x6 then(if x6<(x1.length:Int)then(if x8<(rd x1 x6)then(jV.l2 k x0 x1 x5 x6 x7 x8 false 0)else(if x5.length<17592186044416 then(jV.l0 k x0 x1 (x5++ [x7]) (wrap64 (x6+1)))else(none)))else(none))else(none)
def jV.l2:Nat→Int→List Int→List Int→Int→Int→Int→Bool→Int→Option (List Int)
 |0,_,_,_,_,_,_,_,_=>none
 |k+1,x0,x1,x5,x6,x7,x8,x9,x10=>if x10<(x1.length:Int)then(if x9=true then(jV.l2 k x0 x1 x5 x6 x7 x8 true (wrap64 (x10+1)))else(if 0≤x10 then(jV.l2 k x0 x1 x5 x6 x7 x8 ((rd x1 x10)==x8) (wrap64 (x10+1)))else(none)))else(if x9=true then(jV.l1 k x0 x1 x5 x6 (wrap64 (x7+1)) (wrap64 (x8+1)))else(jV.l1 k x0 x1 x5 x6 x7 (wrap64 (x8+1))))
end
def jV.f (k:Nat) (a0:Int) (l1:List Int):Option (List Int):=jV.l0 k a0 l1 (([]:List Int)) 0
theorem jV.kU:∀k,(∀y0 y1 y2 y3,ph (jV.l0 k y0 y1 y2 y3) (jV.l0 (k+1) y0 y1 y2 y3))∧(∀y0 y1 y2 y3 y4,ph (jV.j1 k y0 y1 y2 y3 y4) (jV.j1 (k+1) y0 y1 y2 y3 y4))∧(∀y0 y1 y2 y3 y4 y5,ph (jV.l1 k y0 y1 y2 y3 y4 y5) (jV.l1 (k+1) y0 y1 y2 y3 y4 y5))∧(∀y0 y1 y2 y3 y4 y5 y6 y7,ph (jV.l2 k y0 y1 y2 y3 y4 y5 y6 y7) (jV.l2 (k+1) y0 y1 y2 y3 y4 y5 y6 y7))
 |0=>⟨fun _ _ _ _=> .z (by simp only[jV.l0]),fun _ _ _ _ _=> .z (by simp only[jV.j1]),fun _ _ _ _ _ _=> .z (by simp only[jV.l1]),fun _ _ _ _ _ _ _ _=> .z (by simp only[jV.l2])⟩
 |k+1=>by
  have⟨i0,i1,i2,i3⟩:=jV.kU k;exact⟨fun _ _ _ _=>by unfold jV.l0;infer_instance,fun _ _ _ _ _=>by unfold jV.j1;infer_instance,fun _ _ _ _ _ _=>by unfold jV.l1;infer_instance,fun _ _ _ _ _ _ _ _=>by unfold jV.l2;infer_instance⟩
instance jV.mo {k a0 a1}:ph (jV.f k a0 a1) (jV.f (k+1) a0 a1):=by have⟨i0,i1,i2,i3⟩:=jV.kU k;unfold jV.f;infer_instance
theorem jV.calls (k:Nat) (a0:Int) (A1:Option Addr) (c1:Nat) (l1:List Int) (r:List Int) (w:World) (aE:Kd.C (Kd.int .i64) w A1 l1.length l1) (aG:l1.length≤c1) (h:jV.f k a0 l1=some r):
  Calls Tryz.prog 69 #[.int .i64 a0,.slice A1 l1.length c1] w fun e w'=>∃ep:Value,e= .returned (ep)∧Kd.R (Kd.int .i64) 3 w' w.heap.size (fun _=>True) ep r∧Below w.heap.size w w':=by
 have J:=bm aE;have aH:=bm aG;clear aE aG;have HB:=bm (Below.refl w.heap.size w);have H:=h;clear h;unfold jV.f at H;obtain⟨cX,bT⟩:∃y_:List Int,y_=(([]:List Int)):=⟨_,rfl⟩;replace H:(jV.l0 k a0 l1 cX 0)=some r:=by first|(rw[bT];exact H)|exact H
 have cF:=bm bT;clear bT;have H':=bm H;clear H;go_enter Tryz.func69,Tryz.ntmps69;go_wp2_with (first|((with_reducible refine gate_dst (N:=11) rfl ?_);refine Kd.R_lit (Kd.int .i64) _ 3 ?hg (N:=11) ?hd (xs:=([]:List Int)) (inner:=[]) (ok:=fun _=>True) (okp:=fun _=>True) ?hr ?hp (fun _ hk=>hk) trivial (Below.refl _ _) (Nat.le_refl _) (by simp) ?_;(case hd=>rfl);(case hg=>rfl);(case hr=>first|(go_simp;done)|(go_simp;rfl));(case hp=>exact(Reps.none _ _));intro eT w3 cG hb eN dm;clear eN dm;(first|rw[←cF.out]at cG|(simp only[Int.reduceToNat]at cG;rw[←cF.out]at cG));have dn:=rL cG HB;replace HB:=bW HB hb;clear hb cG));go_loopg [5,6] k (fun kq v5 v6 w'=>∃(j:List Int) (o:Int),v6= .int .i64 o∧kn (jV.l0 kq a0 l1 j o=some r)∧kn (kq≤k)∧kn (Kd.R (Kd.int .i64) 3 w' w.heap.size (fun _=>True) v5 j)∧kn (Below w.heap.size w w'))
 case atStart=>exact⟨(cX),(0),(by first|rfl|(simp;done)|(simp[*];done)),H',⟨Nat.le_refl _⟩,⟨by(repeat apply Kd.RS);exact dn.out⟩,⟨wZ HB⟩⟩
 case round=>
  clear H';obtain⟨j,o,rfl,HA,ab,oC,HB⟩:=hrel;cases gk with
  |zero=>exact absurd HA.out (by simp[jV.l0])
  |succ k1=>
   have H:=HA.out;clear HA;simp only[jV.l0]at H;have dp:=bm H;clear H;go_upto_region 3 with(fail)
   go_cut [20] (fun v20 wc=>∃(kq:Nat) (bo:Bool),v20= .bool bo∧kn (jV.j1 kq a0 l1 j o bo=some r)∧kn (kq≤k1)∧kn (Kd.R (Kd.int .i64) 3 wc w.heap.size (fun _=>True) u5 j)∧kn (Below w.heap.size w wc))
   case first=>
    have H:=dp.out;clear dp;rcases nA H with⟨aM,H⟩|⟨aM,H⟩
    ·(first|rw[aM]|(simp only[i64_w,i32_w];rw[aM])|skip);obtain⟨t117,A7,H⟩:=bE H;try dsimp only at H
     have H':=bm H;clear H;go_wp2_with (first|(go_at_call 68;(with_reducible refine(lr.calls k1 a0 _ _ l1 t117 _ ?_ ?_ A7.out).mono ?_);exact cY J HB;exact aH.out;rintro e w8 ⟨rfl,hb⟩;replace oC:=bR oC hb;replace HB:=bW HB hb;clear hb));go_meet
     case rel=>exact⟨_,(t117),(by first|rfl|(simp;done)|(simp[*];done)),H',⟨by have:=ab.out;first|omega|exact Nat.le_refl _⟩,⟨by(repeat apply Kd.RS);exact oC.out⟩,⟨wZ HB⟩⟩
    ·(first|rw[aM]|(simp only[i64_w,i32_w];rw[aM])|skip);have H':=bm H;clear H;go_wp2;go_meet
     case rel=>exact⟨_,(false),(by first|rfl|(simp;done)|(simp[*];done)),H',⟨by have:=ab.out;first|omega|exact Nat.le_refl _⟩,⟨by(repeat apply Kd.RS);exact oC.out⟩,⟨wZ HB⟩⟩
   case rest=>
    clear dp;obtain⟨kq,bo,rfl,HA,bk,oC,HB⟩:=hcut;cases kq with
    |zero=>exact absurd HA.out (by simp[jV.j1])
    |succ zk=>
     have H:=HA.out;clear HA;simp only[jV.j1]at H;by_cases c9:bo=true
     ·subst c9;rw[if_pos rfl]at H;have H':=bm H;clear H;go_wp2;go_loopg [7,8] zk (fun kq v7 v8 w'=>∃(aI:Int) (ba:Int),v7= .int .i64 aI∧v8= .int .i64 ba∧kn (jV.l1 kq a0 l1 j o aI ba=some r)∧kn (kq≤zk)∧kn (Kd.R (Kd.int .i64) 3 w' w.heap.size (fun _=>True) u5 j)∧kn (Below w.heap.size w w'))
      case atStart=>exact⟨(0),(0),(by first|rfl|(simp;done)|(simp[*];done)),(by first|rfl|(simp;done)|(simp[*];done)),H',⟨Nat.le_refl _⟩,⟨by(repeat apply Kd.RS);exact oC.out⟩,⟨wZ HB⟩⟩
      case round=>
       clear H';obtain⟨aI,ba,rfl,rfl,HA,bl,oC,HB⟩:=hrel;cases gk with
       |zero=>exact absurd HA.out (by simp[jV.l1])
       |succ k3=>
        have H:=HA.out;clear HA;simp only[jV.l1]at H;obtain⟨cE,H⟩:=mY H;obtain⟨cH,H⟩:=mY H;rcases nA H with⟨bO,H⟩|⟨bO,H⟩
        ·have H':=bm H;clear H;have bb:0≤(o:Int):=nY;have bc:o<(l1.length:Int):=nY;obtain⟨cI,cJ,ak⟩:=Kd.at_int J.out o bb bc;cases cJ;replace ak:=mO HB ak;replace bb:=mX bb;replace bc:=mX bc;go_wp2;go_loopg [9,10] k3 (fun kq v9 v10 w'=>∃(bF:Bool) (aq:Int),v9= .bool bF∧v10= .int .i64 aq∧kn (jV.l2 kq a0 l1 j o aI ba bF aq=some r)∧kn (kq≤k3)∧kn (Kd.R (Kd.int .i64) 3 w' w.heap.size (fun _=>True) u5 j)∧kn (Below w.heap.size w w'))
         case atStart=>exact⟨(false),(0),(by first|rfl|(simp;done)|(simp[*];done)),(by first|rfl|(simp;done)|(simp[*];done)),H',⟨Nat.le_refl _⟩,⟨by(repeat apply Kd.RS);exact oC.out⟩,⟨wZ HB⟩⟩
         case round=>
          clear H';obtain⟨bF,aq,rfl,rfl,HA,bH,oC,HB⟩:=hrel;cases gk with
          |zero=>exact absurd HA.out (by simp[jV.l2])
          |succ k4=>
           have H:=HA.out;clear HA;simp only[jV.l2]at H;rcases nA H with⟨dq,H⟩|⟨dq,H⟩
           ·by_cases cV:bF=true
            ·subst cV;rw[if_pos rfl]at H;have H':=bm H;clear H;go_wp2;go_roundg k4
             case measure=>have:=ab.out;have:=bk.out;have:=bl.out;have:=bH.out;omega
             case rel=>exact⟨(true),(wrap64 (aq+1)),(by first|rfl|(simp;done)|(simp[*];done)),(by first|rfl|(simp;done)|(simp[*];done)),H',⟨by have:=ab.out;have:=bk.out;have:=bl.out;have:=bH.out;omega⟩,⟨by(repeat apply Kd.RS);exact oC.out⟩,⟨wZ HB⟩⟩
            ·replace cV:=mN cV;subst cV;rw[if_neg nz]at H;obtain⟨eO,H⟩:=mY H;have H':=bm H;clear H;have cL:0≤(aq:Int):=nY;have cM:aq<(l1.length:Int):=nY;obtain⟨dr,et,bd⟩:=Kd.at_int J.out aq cL cM;obtain rfl:cI=dr:=(by injection et);replace bd:=mO HB bd;replace cL:=mX cL;replace cM:=mX cM;go_wp2;go_roundg k4
             case measure=>have:=ab.out;have:=bk.out;have:=bl.out;have:=bH.out;omega
             case rel=>exact⟨(((rd l1 aq)==ba)),(wrap64 (aq+1)),(by first|rfl|(simp;done)|(simp[*];done)),(by first|rfl|(simp;done)|(simp[*];done)),H',⟨by have:=ab.out;have:=bk.out;have:=bl.out;have:=bH.out;omega⟩,⟨by(repeat apply Kd.RS);exact oC.out⟩,⟨wZ HB⟩⟩
           ·by_cases cW:bF=true
            ·subst cW;rw[if_pos rfl]at H;have H':=bm H;clear H;go_wp2;go_roundg k4
             case measure=>have:=ab.out;have:=bk.out;have:=bl.out;have:=bH.out;omega
             case rel=>exact⟨(wrap64 (aI+1)),(wrap64 (ba+1)),(by first|rfl|(simp;done)|(simp[*];done)),(by first|rfl|(simp;done)|(simp[*];done)),H',⟨by have:=ab.out;have:=bk.out;have:=bl.out;have:=bH.out;omega⟩,⟨by(repeat apply Kd.RS);exact oC.out⟩,⟨wZ HB⟩⟩
            ·replace cW:=mN cW;subst cW;rw[if_neg nz]at H;have H':=bm H;clear H;go_wp2;go_roundg k4
             case measure=>have:=ab.out;have:=bk.out;have:=bl.out;have:=bH.out;omega
             case rel=>exact⟨(aI),(wrap64 (ba+1)),(by first|rfl|(simp;done)|(simp[*];done)),(by first|rfl|(simp;done)|(simp[*];done)),H',⟨by have:=ab.out;have:=bk.out;have:=bl.out;have:=bH.out;omega⟩,⟨by(repeat apply Kd.RS);exact oC.out⟩,⟨wZ HB⟩⟩
        ·obtain⟨eu,H⟩:=iN H;have ds:=bm eu;clear eu;obtain⟨da,bV⟩:∃y_:List Int,y_=(j++ [aI]):=⟨_,rfl⟩;rw[←bV]at H
         have dt:=bm bV;clear bV;have H':=bm H;clear H;have bb:0≤(o:Int):=nY;have bc:o<(l1.length:Int):=nY;obtain⟨cI,cJ,ak⟩:=Kd.at_int J.out o bb bc;cases cJ;replace ak:=mO HB ak;replace bb:=mX bb;replace bc:=mX bc;go_wp2_with (first|((with_reducible refine gate_builtin (b:=.append) (xs:= #[.tmp 49,.tmp 51]) rfl ?_);at_builtin;refine Kd.R_append (Kd.int .i64) (w0:=w) w.heap.size rfl (.tmp 49) (.tmp 51) 23 3 (.int .i64 0) 8 rfl Tryz.underlying23 info3 rfl (by decide) (by omega) u5 j aI [.int .i64 aI] (fun _=>True) (fun _=>False) rfl rfl ?aP (fun _ hk=>hk.elim) ?aF ?aO ?aB ?aS ?aL ?_;(case aP=>exact rfl);(case aB=>exact(wZ HB));(case aF=>exact(fun _ _=>trivial));(case aO=>exact(rS oC));(case aS=>exact(below_size (wZ HB)));(case aL=>have:=ds.out;omega);intro eU eI ho hb hg eP;rw[←dt.out]at ho;replace HB:=bm (hb);have du:=bm (ho);clear oC;clear ho hb hg eP));go_roundg k3
         case measure=>have:=ab.out;have:=bk.out;have:=bl.out;omega
         case rel=>exact⟨(da),(wrap64 (o+1)),(by first|rfl|(simp;done)|(simp[*];done)),H',⟨by have:=ab.out;have:=bk.out;have:=bl.out;omega⟩,⟨by(repeat apply Kd.RS);exact du.out⟩,⟨wZ HB⟩⟩
     ·replace c9:=mN c9;subst c9;rw[if_neg nz]at H;obtain rfl:=oJ H;go_wp2;go_ret;exact⟨_,by first|rfl|(simp[*,jY,jZ]<;>rfl),by(repeat apply Kd.RS);exact oC.out,wZ HB⟩
def nU.l0:Nat→List Int→List Int→Int→Option (Bool)
 |0,_,_,_=>none
 |k+1,x1,x5,x6=>if x6<(x5.length:Int)then(if 0≤x6 then(if x6<(x1.length:Int)then(if(rd x5 x6)=(rd x1 x6)then(nU.l0 k x1 x5 (wrap64 (x6+1)))else(some false))else(none))else(none))else(some true)
def nU.f (k:Nat) (a0:Int) (l1:List Int):Option (Bool):=(lr.f k a0 l1).bind fun t123=>(if t123=true then((jV.f k a0 l1).bind fun t124=>(nU.l0 k l1 t124 0))else(some false))
theorem nU.kU:∀k,(∀y0 y1 y2,ph (nU.l0 k y0 y1 y2) (nU.l0 (k+1) y0 y1 y2))
 |0=>fun _ _ _=> .z (by simp only[nU.l0])
 |k+1=>by
  have i0:=nU.kU k;exact fun _ _ _=>by unfold nU.l0;infer_instance
instance nU.mo {k a0 a1}:ph (nU.f k a0 a1) (nU.f (k+1) a0 a1):=by have i0:=nU.kU k;unfold nU.f;infer_instance
theorem nU.calls (k:Nat) (a0:Int) (A1:Option Addr) (c1:Nat) (l1:List Int) (r:Bool) (w:World) (aE:Kd.C (Kd.int .i64) w A1 l1.length l1) (aG:l1.length≤c1) (h:nU.f k a0 l1=some r):
  Calls Tryz.prog 34 #[.int .i64 a0,.slice A1 l1.length c1] w fun e w'=>e= .returned (.bool r)∧Below w.heap.size w w':=by
 have J:=bm aE;have aH:=bm aG;clear aE aG;have HB:=bm (Below.refl w.heap.size w);have H:=h;clear h;unfold nU.f at H;obtain⟨t123,A3,H⟩:=bE H;try dsimp only at H
 by_cases c4:t123=true
 ·subst c4;rw[if_pos rfl]at H;obtain⟨t124,A5,H⟩:=bE H;try dsimp only at H
  have H':=bm H;clear H;go_enter Tryz.func34,Tryz.ntmps34;go_wp2_with (first|(go_at_call 68;(with_reducible refine(lr.calls k a0 _ _ l1 true _ ?_ ?_ A3.out).mono ?_);exact cZ J.out;exact aH.out;rintro e w6 ⟨rfl,hb⟩;replace HB:=bW HB hb;clear hb)|(go_at_call 69;(with_reducible refine(jV.calls k a0 _ _ l1 t124 _ ?_ ?_ A5.out).mono ?_);exact cY J HB;exact aH.out;rintro e w7 ⟨cN,rfl,bJ,hb⟩;have bZ:=rL bJ HB;replace HB:=bW HB hb;clear hb;(try clear bJ)));repeat(go_quiet (first|(go_at_call 68;(with_reducible refine(lr.calls k a0 _ _ l1 true _ ?_ ?_ A3.out).mono ?_);exact cZ J.out;exact aH.out;rintro e w6 ⟨rfl,hb⟩;replace HB:=bW HB hb;clear hb)|(go_at_call 69;(with_reducible refine(jV.calls k a0 _ _ l1 t124 _ ?_ ?_ A5.out).mono ?_);exact cY J HB;exact aH.out;rintro e w7 ⟨cN,rfl,bJ,hb⟩;have bZ:=rL bJ HB;replace HB:=bW HB hb;clear hb;(try clear bJ)));try go_wp2_with (first|(go_at_call 68;(with_reducible refine(lr.calls k a0 _ _ l1 true _ ?_ ?_ A3.out).mono ?_);exact cZ J.out;exact aH.out;rintro e w6 ⟨rfl,hb⟩;replace HB:=bW HB hb;clear hb)|(go_at_call 69;(with_reducible refine(jV.calls k a0 _ _ l1 t124 _ ?_ ?_ A5.out).mono ?_);exact cY J HB;exact aH.out;rintro e w7 ⟨cN,rfl,bJ,hb⟩;have bZ:=rL bJ HB;replace HB:=bW HB hb;clear hb;(try clear bJ))))
  go_loopg [6] k (fun kq v6 w'=>∃(o:Int),v6= .int .i64 o∧kn (nU.l0 kq l1 t124 o=some r)∧kn (kq≤k)∧kn (Kd.R (Kd.int .i64) 3 w' w.heap.size (fun _=>True) cN t124)∧kn (Below w.heap.size w w'))
  case atStart=>exact⟨(0),(by first|rfl|(simp;done)|(simp[*];done)),H',⟨Nat.le_refl _⟩,⟨by(repeat apply Kd.RS);exact bZ.out⟩,⟨wZ HB⟩⟩
  case round=>
   clear H';obtain⟨o,rfl,HA,ab,oC,HB⟩:=hrel;cases gk with
   |zero=>exact absurd HA.out (by simp[nU.l0])
   |succ k1=>
    have H:=HA.out;clear HA;simp only[nU.l0]at H;rcases nA H with⟨ev,H⟩|⟨ev,H⟩
    ·obtain⟨eV,H⟩:=mY H;obtain⟨cE,H⟩:=mY H;rcases iT H with⟨bp,H⟩|⟨bp,H⟩
     ·obtain⟨cH,dv⟩:=nL bp;clear bp;have H':=bm H;clear H;obtain⟨eW,eX,ew⟩:=Kd.R_slice oC.out;subst ew;have bf:0≤(o:Int):=nY;have bg:o<(t124.length:Int):=nY;obtain⟨dw,cO,cP⟩:=Kd.at_int (Kd.R_reads' oC.out).2.2 o bf bg;cases cO;replace bf:=mX bf;replace bg:=mX bg;have bh:0≤(o:Int):=nY;have bj:o<(l1.length:Int):=nY;obtain⟨dx,cQ,al⟩:=Kd.at_int J.out o bh bj;cases cQ;replace al:=mO HB al;replace bh:=mX bh;replace bj:=mX bj;go_wp2;repeat(go_quiet (fail);try go_wp2)
      go_roundg k1
      case measure=>have:=ab.out;omega
      case rel=>exact⟨(wrap64 (o+1)),(by first|rfl|(simp;done)|(simp[*];done)),H',⟨by have:=ab.out;omega⟩,⟨by(repeat apply Kd.RS);exact oC.out⟩,⟨wZ HB⟩⟩
     ·obtain⟨cH,dv⟩:=nK bp;obtain rfl:=oJ H;obtain⟨eY,eZ,ey⟩:=Kd.R_slice oC.out;subst ey;have bf:0≤(o:Int):=nY;have bg:o<(t124.length:Int):=nY;obtain⟨dw,cO,cP⟩:=Kd.at_int (Kd.R_reads' oC.out).2.2 o bf bg;cases cO;replace bf:=mX bf;replace bg:=mX bg;have bh:0≤(o:Int):=nY;have bj:o<(l1.length:Int):=nY;obtain⟨dx,cQ,al⟩:=Kd.at_int J.out o bh bj;cases cQ;replace al:=mO HB al;replace bh:=mX bh;replace bj:=mX bj;go_wp2;repeat(go_quiet (fail);try go_wp2)
      go_ret;exact rz HB
    ·obtain rfl:=oJ H;obtain⟨e0,e1,ez⟩:=Kd.R_slice oC.out;subst ez;go_wp2;repeat(go_quiet (fail);try go_wp2)
     go_ret;exact rz HB
 ·replace c4:=mN c4;subst c4;rw[if_neg nz]at H;obtain rfl:=oJ H;go_enter Tryz.func34,Tryz.ntmps34;go_wp2_with (first|(go_at_call 68;(with_reducible refine(lr.calls k a0 _ _ l1 false _ ?_ ?_ A3.out).mono ?_);exact cZ J.out;exact aH.out;rintro e eA ⟨rfl,hb⟩;replace HB:=bW HB hb;clear hb));repeat(go_quiet (first|(go_at_call 68;(with_reducible refine(lr.calls k a0 _ _ l1 false _ ?_ ?_ A3.out).mono ?_);exact cZ J.out;exact aH.out;rintro e eA ⟨rfl,hb⟩;replace HB:=bW HB hb;clear hb));try go_wp2_with (first|(go_at_call 68;(with_reducible refine(lr.calls k a0 _ _ l1 false _ ?_ ?_ A3.out).mono ?_);exact cZ J.out;exact aH.out;rintro e eA ⟨rfl,hb⟩;replace HB:=bW HB hb;clear hb)))
  go_ret;exact rz HB
end Go.Proofs.YtigeaokfhnlkcaaGreatDoor.P
