import Derived.Test.YtigeaokfhnlkcaaGreatDoorPx0
import Derived.Test.YtigeaokfhnlkcaaGreatDoorPx2
import Derived.Test.YtigeaokfhnlkcaaGreatDoorPx4
namespace Go.Proofs.YtigeaokfhnlkcaaGreatDoor.P
open Go.RowKit YtigeaokfhnlkcaaGreatDoorW PrintWords PrintLast PrintMore
attribute [local go_sem] max2_int min2_int max_two min_two max_three min_three max_four min_four
set_option linter.unusedVariables false
set_option linter.unusedSimpArgs false
set_option maxHeartbeats 8000000
set_option maxRecDepth 100000
def ki.l0:Nat→Int→Int→Int→Int→Option (Int)
 |0,_,_,_,_=>none
 |k+1,x0,x1,x5,x6=>if x6<8 then((kz.f x0 x6).bind fun t199=>((kz.f x1 x6).bind fun t200=>(if 0≤x6 then(ki.l0 k x0 x1 (wrap64 (x5+(shl .i64 (wrap64 (t199*t200)) x6))) (wrap64 (x6+1)))else(none))))else(some x5)
def ki.f (k:Nat) (a0:Int) (a1:Int):Option (Int):=ki.l0 k a0 a1 0 0
theorem ki.hZ:∀k,(∀y0 y1 y2 y3,lS (ki.l0 k y0 y1 y2 y3) (ki.l0 (k+1) y0 y1 y2 y3))
 |0=>fun _ _ _ _=> .z (by simp only[ki.l0])
 |k+1=>by
  have i0:=ki.hZ k;exact fun _ _ _ _=>by unfold ki.l0;infer_instance
instance ki.mo {k a0 a1}:lS (ki.f k a0 a1) (ki.f (k+1) a0 a1):=by have i0:=ki.hZ k;unfold ki.f;infer_instance
theorem ki.calls (k:Nat) (a0:Int) (a1:Int) (r:Int) (w:World) (h:ki.f k a0 a1=some r):
  Calls Tryz.prog 62 #[.int .i64 a0,.int .i64 a1] w fun e w'=>e= .returned (.int .i64 r)∧Drawn0 w w':=by
 have H:=h;clear h;unfold ki.f at H;have H':=bm H;clear H;go_enter Tryz.func62,Tryz.ntmps62;go_wp2;go_loopg [5,6] k (fun kq v5 v6 w'=>∃(J:Int) (o:Int),v5= .int .i64 J∧v6= .int .i64 o∧hJ (ki.l0 kq a0 a1 J o=some r)∧hJ (kq≤k)∧Drawn0 w w')
 case atStart=>exact⟨(0),(0),eA,eA,H',⟨Nat.le_refl _⟩,by repeat(first|exact Drawn0.refl _|apply Drawn0.step)⟩
 case round=>
  clear H';obtain⟨J,o,rfl,rfl,HA,ah,⟨m1,rfl⟩⟩:=hrel;cases gk with
  |zero=>exact absurd HA.out (by simp[ki.l0])
  |succ k1=>
   have H:=HA.out;clear HA;simp only[ki.l0]at H;rcases pP H with⟨a6,H⟩|⟨a6,H⟩
   ·obtain⟨t199,A4,H⟩:=bE H;try dsimp only at H
    obtain⟨t200,A5,H⟩:=bE H;try dsimp only at H
    obtain⟨b0,dQ,H⟩:=pO H;obtain⟨aJ,ad⟩:∃j_:Int,(shl .i64 (wrap64 (t199*t200)) o)=j_:=⟨_,rfl⟩;first|rw[ad]at H|simp only[ad]at H
    (try rw[ad]at A4);(try rw[ad]at A5);have a7:(IntKind.i64.wrap ((wrap64 (t199*t200))*2^min o.toNat 64))=aJ:=ad;have b1:o≤64→(IntKind.i64.wrap ((wrap64 (t199*t200))*2^o.toNat))=aJ:=shl_small ad;have ds:(wrap64 ((wrap64 (t199*t200))*2^min o.toNat 64))=aJ:=(i64_w _).symm.trans a7;have dt:o≤64→(wrap64 ((wrap64 (t199*t200))*2^o.toNat))=aJ:=fun h_=>(i64_w _).symm.trans (b1 h_)
    have H':=bm H;clear H;go_wp2_with (first|(refine gB (some 14) Tryz.func98 #[.int .i64 a0,.int .i64 o] rfl ?_;(refine(kz.calls a0 o t199 _ A4.out).mono ?_);rintro e w' ⟨rfl,⟨nd,rfl⟩⟩;refine⟨_,rfl,?_⟩)|(refine gB (some 17) Tryz.func98 #[.int .i64 a1,.int .i64 o] rfl ?_;(refine(kz.calls a1 o t200 _ A5.out).mono ?_);rintro e w' ⟨rfl,⟨nd,rfl⟩⟩;refine⟨_,rfl,?_⟩));go_roundg k1
    case measure=>have:=ah.out;omega
    case rel=>exact⟨(wrap64 (J+(aJ))),(wrap64 (o+1)),(by first|rfl|(simp;done)|(simp only[←ad]<;>(first|rfl|simp))|(simp[*];done)),eA,H',⟨by have:=ah.out;omega⟩,by repeat(first|exact Drawn0.refl _|apply Drawn0.step)⟩
   ·obtain rfl:=pd H;go_wp2;go_ret;exact rq
theorem mh.yh (x y:Int):0≤shl .u64 x y:=by
 unfold shl;rw[show IntKind.u64.wrap (x*2^min y.toNat IntKind.u64.bits)=(x*2^min y.toNat IntKind.u64.bits)%18446744073709551616 from by simp[IntKind.wrap,IntKind.bits,IntKind.signed]];exact Int.emod_nonneg _ (by decide)
def mh.f (a0:Int):Option (Int):=if 0≤a0 then(some (wrap64 ((shl .i64 1 (shl .u64 1 a0)) - 1)))else(none)
theorem mh.calls (a0:Int) (r:Int) (w:World) (h:mh.f a0=some r):
  Calls Tryz.prog 96 #[.int .i64 a0] w fun e w'=>e= .returned (.int .i64 r)∧Drawn0 w w':=by
 have H:=h;clear h;unfold mh.f at H;obtain⟨dR,dS,H⟩:=pO H;obtain rfl:=pd H;clear H;have p:=mh.yh 1 a0;obtain⟨aS,a8⟩:∃j_:Int,(shl .u64 1 a0)=j_:=⟨_,rfl⟩;rw[a8]at p⊢;have b4:(IntKind.u64.wrap (1*2^min a0.toNat 64))=aS:=a8;have du:(IntKind.u64.wrap (2^min a0.toNat 64))=aS:=by have h_:=b4;rw[Int.one_mul]at h_;exact h_
 have eb:=pM p;have ec:decide (0≤aS)=true:=pK p;have ed:decide (aS<0)=false:=pF (by omega)
 have e5:wrap64 (2^min aS.toNat 64)=shl .i64 1 aS:=by
  unfold shl;rw[i64_w,Int.one_mul];rfl
 have E5:=bm e5;clear a8 p e5;go_enter Tryz.func96,Tryz.ntmps96;go_wp2;go_ret;rw[←E5.out];exact⟨rfl,Drawn0.refl _⟩
def jU.f (k:Nat) (a0:Int) (a1:Int):Option (Int):=(ki.f k a0 a1).bind fun t201=>(some (wrap64 ((wrap64 (a0+a1)) - t201)))
instance jU.mo {k a0 a1}:lS (jU.f k a0 a1) (jU.f (k+1) a0 a1):=by unfold jU.f;infer_instance
theorem jU.calls (k:Nat) (a0:Int) (a1:Int) (r:Int) (w:World) (h:jU.f k a0 a1=some r):
  Calls Tryz.prog 102 #[.int .i64 a0,.int .i64 a1] w fun e w'=>e= .returned (.int .i64 r)∧Drawn0 w w':=by
 have H:=h;clear h;unfold jU.f at H;obtain⟨t201,A3,H⟩:=bE H;try dsimp only at H
 obtain rfl:=pd H;go_enter Tryz.func102,Tryz.ntmps102;go_wp2_with (first|(refine gB (some 10) Tryz.func62 #[.int .i64 a0,.int .i64 a1] rfl ?_;(refine(ki.calls k a0 a1 t201 _ A3.out).mono ?_);rintro e w' ⟨rfl,⟨nd,rfl⟩⟩;refine⟨_,rfl,?_⟩));go_ret;exact rq
mutual
def hY.j0:Nat→Int→BA→Int→Int→Bool→Option (Int×Int)
 |0,_,_,_,_,_=>none
 |k+1,x0,x1,x2,x8,x38=>if x38=true then(hY.l0 k x0 x1 x2 0 0)else(if 0≤x2 then(if x2<(x1.size:Int)then(if(bt x1 x2)=33 then((hY.f k x0 x1 (wrap64 (x2+1))).bind fun aL=>(if aL.2<0 then(some ((-1),(-1)))else(some (wrap64 (x8 - aL.1),aL.2))))else(if(bt x1 x2)=40 then((hY.f k x0 x1 (wrap64 (x2+1))).bind fun ai=>(if ai.2<0 then(hY.j2 k x0 x1 x8 ai.1 ai.2 true)else(hY.j2 k x0 x1 x8 ai.1 ai.2 (decide (ai.2≥(x1.size:Int))))))else(some ((-1),(-1)))))else(none))else(none))
def hY.l0:Nat→Int→BA→Int→Int→Int→Option (Int×Int)
 |0,_,_,_,_,_=>none
 |k+1,x0,x1,x2,x9,x10=>if 0≤x0 then(if x10<(shl .i64 1 x0)then(if 0≤x2 then(if x2<(x1.size:Int)then(if 0≤x10 then(hY.l0 k x0 x1 x2 (wrap64 (x9+(shl .i64 (Int.tmod (shr .i64 x10 (((bt x1 x2) - 97)%256)) 2) x10))) (wrap64 (x10+1)))else(none))else(none))else(none))else(some (x9,wrap64 (x2+1))))else(none)
def hY.j2:Nat→Int→BA→Int→Int→Int→Bool→Option (Int×Int)
 |0,_,_,_,_,_,_=>none
 |k+1,x0,x1,x8,uE,x14,GD=>if GD=true then(some ((-1),(-1)))else((hY.f k x0 x1 (wrap64 (x14+1))).bind fun aa=>(if aa.2<0 then(hY.j3 k x1 x8 uE x14 aa.1 aa.2 true)else(if aa.2≥(x1.size:Int)then(hY.j3 k x1 x8 uE x14 aa.1 aa.2 true)else(if 0≤aa.2 then(if aa.2<(x1.size:Int)then(hY.j3 k x1 x8 uE x14 aa.1 aa.2 ((bt x1 aa.2) !=41))else(none))else(none)))))
def hY.j3:Nat→BA→Int→Int→Int→Int→Int→Bool→Option (Int×Int)
 |0,_,_,_,_,_,_,_=>none
 |k+1,x1,x8,uE,x14,x15,x16,GF=>if GF=true then(some ((-1),(-1)))else(if 0≤x14 then(if x14<(x1.size:Int)then(if(bt x1 x14)=38 then((ki.f k uE x15).bind fun t209=>(some (t209,wrap64 (x16+1))))else(if(bt x1 x14)=124 then((jU.f k uE x15).bind fun t210=>(some (t210,wrap64 (x16+1))))else(if(bt x1 x14)=62 then((jU.f k (wrap64 (x8 - uE)) x15).bind fun t211=>(some (t211,wrap64 (x16+1))))else(some ((-1),(-1))))))else(none))else(none))
def hY.f:Nat→Int→BA→Int→Option (Int×Int)
 |0,_,_,_=>none
 |k+1,a0,a1,a2=>if a2≥(a1.size:Int)then(some ((-1),(-1)))else((mh.f a0).bind fun t202=>(if 0≤a2 then(if a2<(a1.size:Int)then(if(bt a1 a2)=49 then(some (t202,wrap64 (a2+1)))else(if(bt a1 a2)=48 then(some (0,wrap64 (a2+1)))else(if(bt a1 a2)≥97 then(hY.j0 k a0 a1 a2 t202 (decide ((((bt a1 a2) - 97)%256)<a0)))else(hY.j0 k a0 a1 a2 t202 false))))else(none))else(none)))
end
theorem hY.hZ:∀k,(∀y0 y1 y2,lS (hY.f k y0 y1 y2) (hY.f (k+1) y0 y1 y2))∧(∀y0 y1 y2 y3 y4,lS (hY.j0 k y0 y1 y2 y3 y4) (hY.j0 (k+1) y0 y1 y2 y3 y4))∧(∀y0 y1 y2 y3 y4,lS (hY.l0 k y0 y1 y2 y3 y4) (hY.l0 (k+1) y0 y1 y2 y3 y4))∧(∀y0 y1 y2 y3 y4 y5,lS (hY.j2 k y0 y1 y2 y3 y4 y5) (hY.j2 (k+1) y0 y1 y2 y3 y4 y5))∧(∀y0 y1 y2 y3 y4 y5 y6,lS (hY.j3 k y0 y1 y2 y3 y4 y5 y6) (hY.j3 (k+1) y0 y1 y2 y3 y4 y5 y6))
 |0=>⟨fun _ _ _=> .z (by simp only[hY.f]),fun _ _ _ _ _=> .z (by simp only[hY.j0]),fun _ _ _ _ _=> .z (by simp only[hY.l0]),fun _ _ _ _ _ _=> .z (by simp only[hY.j2]),fun _ _ _ _ _ _ _=> .z (by simp only[hY.j3])⟩
 |k+1=>by
  have⟨i0,i1,i2,i3,i4⟩:=hY.hZ k;exact⟨fun _ _ _=>by unfold hY.f;infer_instance,fun _ _ _ _ _=>by unfold hY.j0;infer_instance,fun _ _ _ _ _=>by unfold hY.l0;infer_instance,fun _ _ _ _ _ _=>by unfold hY.j2;infer_instance,fun _ _ _ _ _ _ _=>by unfold hY.j3;infer_instance⟩
instance hY.mo {k a0 a1 a2}:lS (hY.f k a0 a1 a2) (hY.f (k+1) a0 a1 a2):=(hY.hZ k).1 a0 a1 a2
theorem hY.calls (k:Nat):∀(a0:Int) (a1:BA) (a2:Int) (r1:Int) (r2:Int) (w:World) (h:hY.f k a0 a1 a2=some (r1,r2)),
  Calls Tryz.prog 100 #[.int .i64 a0,.string a1,.int .i64 a2] w fun e w'=>e= .returned (.tuple #[.int .i64 r1,.int .i64 r2])∧Drawn0 w w':=by
 induction k using Nat.strongRecOn with
 | _ k ih=>
 intro a0 a1 a2 r1 r2 w h;cases k with
 |zero=>exact absurd h (by simp[hY.f])
 |succ k=>
 simp only[hY.f]at h;have H:(if a2≥(a1.size:Int)then(some ((-1),(-1)))else((mh.f a0).bind fun t202=>(if 0≤a2 then(if a2<(a1.size:Int)then(if(bt a1 a2)=49 then(some (t202,wrap64 (a2+1)))else(if(bt a1 a2)=48 then(some (0,wrap64 (a2+1)))else(if(bt a1 a2)≥97 then(hY.j0 k a0 a1 a2 t202 (decide ((((bt a1 a2) - 97)%256)<a0)))else(hY.j0 k a0 a1 a2 t202 false))))else(none))else(none))))=some (r1,r2):=h;clear h;rcases pP H with⟨cw,H⟩|⟨cw,H⟩
 ·obtain⟨rfl,rfl⟩:=s2 H;go_enter Tryz.func100,Tryz.ntmps100;go_wp2;go_ret2;exact rq
 ·obtain⟨t202,A5,H⟩:=bE H;try dsimp only at H
  obtain⟨b0,H⟩:=pN H;obtain⟨dT,H⟩:=pN H;rcases iT H with⟨c9,H⟩|⟨c9,H⟩
  ·obtain⟨cx,cy⟩:=pf c9;clear c9;obtain⟨rfl,rfl⟩:=s2 H;go_enter Tryz.func100,Tryz.ntmps100;go_wp2_with (first|(refine gB (some 22) Tryz.func96 #[.int .i64 a0] rfl ?_;(refine(mh.calls a0 t202 _ A5.out).mono ?_);rintro e w' ⟨rfl,⟨nd,rfl⟩⟩;refine⟨_,rfl,?_⟩;have p8:0≤(a2:Int):=ko;have q8:a2<(a1.size:Int):=ko;have cz:=bt_at a1 a2;replace p8:=pM p8;replace q8:=pM q8));go_ret2;exact rq
  ·obtain⟨cx,cy⟩:=pe c9;rcases iT H with⟨aF,H⟩|⟨aF,H⟩
   ·obtain⟨ba,b5⟩:=pf aF;clear aF;obtain⟨rfl,rfl⟩:=s2 H;go_enter Tryz.func100,Tryz.ntmps100;go_wp2_with (first|(refine gB (some 22) Tryz.func96 #[.int .i64 a0] rfl ?_;(refine(mh.calls a0 t202 _ A5.out).mono ?_);rintro e w' ⟨rfl,⟨nd,rfl⟩⟩;refine⟨_,rfl,?_⟩;have p8:0≤(a2:Int):=ko;have q8:a2<(a1.size:Int):=ko;have cz:=bt_at a1 a2;replace p8:=pM p8;replace q8:=pM q8;have bb:0≤(a2:Int):=ko;have bc:a2<(a1.size:Int):=ko;have cA:=bt_at a1 a2;replace bb:=pM bb;replace bc:=pM bc));go_ret2;exact rq
   ·obtain⟨ba,b5⟩:=pe aF;have bd:=bm H;clear H;go_enter Tryz.func100,Tryz.ntmps100;go_upto_region 8 with(first|(refine gB (some 22) Tryz.func96 #[.int .i64 a0] rfl ?_;(refine(mh.calls a0 t202 _ A5.out).mono ?_);rintro e w' ⟨rfl,⟨nd,rfl⟩⟩;refine⟨_,rfl,?_⟩;have p8:0≤(a2:Int):=ko;have q8:a2<(a1.size:Int):=ko;have cz:=bt_at a1 a2;replace p8:=pM p8;replace q8:=pM q8;have bb:0≤(a2:Int):=ko;have bc:a2<(a1.size:Int):=ko;have cA:=bt_at a1 a2;replace bb:=pM bb;replace bc:=pM bc))
    (try simp only[Act.put,qA,qB,qC]);go_cut [38] (fun dv wc=>∃(kq:Nat) (ak:Bool),dv= .bool ak∧hJ (hY.j0 kq a0 a1 a2 t202 ak=some (r1,r2))∧hJ (kq≤k)∧Drawn0 w wc)
    case first=>
     have H:=bd.out;clear bd;rcases pP H with⟨al,H⟩|⟨al,H⟩
     ·(first|rw[al]|(simp only[i64_w,i32_w];rw[al])|skip);have H':=bm H;clear H;have bg:0≤(a2:Int):=ko;have bh:a2<(a1.size:Int):=ko;have cB:=bt_at a1 a2;replace bg:=pM bg;replace bh:=pM bh;have cC:0≤(a2:Int):=ko;have cD:a2<(a1.size:Int):=ko;have dU:=bt_at a1 a2;replace cC:=pM cC;replace cD:=pM cD;go_wp2;go_meet
      case rel=>exact⟨_,(decide ((((bt a1 a2) - 97)%256)<a0)),eA,H',⟨by first|omega|exact Nat.le_refl _⟩,by repeat(first|exact Drawn0.refl _|apply Drawn0.step)⟩
     ·(first|rw[al]|(simp only[i64_w,i32_w];rw[al])|skip);have H':=bm H;clear H;have bg:0≤(a2:Int):=ko;have bh:a2<(a1.size:Int):=ko;have cB:=bt_at a1 a2;replace bg:=pM bg;replace bh:=pM bh;go_wp2;go_meet
      case rel=>exact⟨_,(false),eA,H',⟨by first|omega|exact Nat.le_refl _⟩,by repeat(first|exact Drawn0.refl _|apply Drawn0.step)⟩
    case rest=>
     clear bd;obtain⟨kq,ak,rfl,HA,ae,⟨dV,rfl⟩⟩:=hcut;cases kq with
     |zero=>exact absurd HA.out (by simp[hY.j0])
     |succ zO=>
      have H:=HA.out;clear HA;simp only[hY.j0]at H;by_cases bJ:ak=true
      ·subst bJ;rw[if_pos rfl]at H;have H':=bm H;clear H;go_wp2;go_loopg [9,10] zO (fun kq v9 v10 w'=>∃(aM:Int) (I:Int),v9= .int .i64 aM∧v10= .int .i64 I∧hJ (hY.l0 kq a0 a1 a2 aM I=some (r1,r2))∧hJ (kq≤zO)∧Drawn0 w w')
       case atStart=>exact⟨(0),(0),eA,eA,H',⟨Nat.le_refl _⟩,by repeat(first|exact Drawn0.refl _|apply Drawn0.step)⟩
       case round=>
        clear H';obtain⟨aM,I,rfl,rfl,HA,aG,⟨m2,rfl⟩⟩:=hrel;cases gk with
        |zero=>exact absurd HA.out (by simp[hY.l0])
        |succ k2=>
         have H:=HA.out;clear HA;simp only[hY.l0]at H;obtain⟨dw,dx,H⟩:=pO H;obtain⟨aD,an⟩:∃j_:Int,(shl .i64 1 a0)=j_:=⟨_,rfl⟩;first|rw[an]at H|simp only[an]at H
         have aN:(IntKind.i64.wrap (1*2^min a0.toNat 64))=aD:=an;have aO:a0≤64→(IntKind.i64.wrap (1*2^a0.toNat))=aD:=shl_small an;have de:(IntKind.i64.wrap (2^min a0.toNat 64))=aD:=by have h_:=aN;rw[Int.one_mul]at h_;exact h_
         have df:a0≤64→(IntKind.i64.wrap (2^a0.toNat))=aD:=fun bj=>by have h_:=aO bj;rw[Int.one_mul]at h_;exact h_
         have dg:(wrap64 (1*2^min a0.toNat 64))=aD:=(i64_w _).symm.trans aN;have dh:a0≤64→(wrap64 (1*2^a0.toNat))=aD:=fun h_=>(i64_w _).symm.trans (aO h_)
         rcases pP H with⟨b7,H⟩|⟨b7,H⟩
         ·obtain⟨dy,H⟩:=pN H;obtain⟨dz,H⟩:=pN H;obtain⟨ao,aH⟩:∃j_:Int,(shr .i64 I (((bt a1 a2) - 97)%256))=j_:=⟨_,rfl⟩;first|rw[aH]at H|simp only[aH]at H
          have di:(I/2^min (((bt a1 a2) - 97)%256).toNat 64)=ao:=aH;have cG:=pM (show(0:Int)≤(((bt a1 a2) - 97)%256) by omega);have cH:decide ((0:Int)≤(((bt a1 a2) - 97)%256))=true:=pK (by omega);have cI:decide ((((bt a1 a2) - 97)%256)<0)=false:=pF (by omega);have dj:(((bt a1 a2) - 97)%256)≤64→(I/2^(((bt a1 a2) - 97)%256).toNat)=ao:=shr_small aH;obtain⟨dA,dB,H⟩:=pO H;obtain⟨aK,aq⟩:∃j_:Int,(shl .i64 (Int.tmod (ao) 2) I)=j_:=⟨_,rfl⟩;first|rw[aq]at H|simp only[aq]at H
          have bO:(IntKind.i64.wrap ((Int.tmod (ao) 2)*2^min I.toNat 64))=aK:=aq;have bT:I≤64→(IntKind.i64.wrap ((Int.tmod (ao) 2)*2^I.toNat))=aK:=shl_small aq;have dk:(wrap64 ((Int.tmod (ao) 2)*2^min I.toNat 64))=aK:=(i64_w _).symm.trans bO;have dm:I≤64→(wrap64 ((Int.tmod (ao) 2)*2^I.toNat))=aK:=fun h_=>(i64_w _).symm.trans (bT h_)
          have H':=bm H;clear H;have cJ:0≤(a2:Int):=ko;have cK:a2<(a1.size:Int):=ko;have dW:=bt_at a1 a2;replace cJ:=pM cJ;replace cK:=pM cK;go_wp2;go_roundg k2
          case measure=>have:=ae.out;have:=aG.out;omega
          case rel=>exact⟨(wrap64 (aM+(aK))),(wrap64 (I+1)),(by first|rfl|(simp;done)|(simp only[←aq]<;>(first|rfl|simp))|(simp[*];done)),eA,H',⟨by have:=ae.out;have:=aG.out;omega⟩,by repeat(first|exact Drawn0.refl _|apply Drawn0.step)⟩
         ·obtain⟨rfl,rfl⟩:=s2 H;go_wp2;go_ret2;exact⟨by first|rfl|(simp;done)|(simp only[←an]<;>(first|rfl|simp))|(simp[*];done),by repeat(first|exact Drawn0.refl _|apply Drawn0.step)⟩
      ·replace bJ:=pD bJ;subst bJ;rw[if_neg pV]at H;obtain⟨dC,H⟩:=pN H;obtain⟨dD,H⟩:=pN H;rcases iT H with⟨aT,H⟩|⟨aT,H⟩
       ·obtain⟨b9,ca⟩:=pf aT;clear aT;obtain⟨⟨t203,t204⟩,cN,H⟩:=bE H;try dsimp only at H
        rcases pP H with⟨cb,H⟩|⟨cb,H⟩
        ·obtain⟨rfl,rfl⟩:=s2 H;have ar:0≤(a2:Int):=ko;have au:a2<(a1.size:Int):=ko;have bn:=bt_at a1 a2;replace ar:=pM ar;replace au:=pM au;go_wp2_with (first|(refine gB (some 82) Tryz.func100 #[.int .i64 a0,.string a1,.int .i64 (wrap64 (a2+1))] rfl ?_;(with_reducible refine(ih zO (by have:=ae.out;omega) a0 a1 (wrap64 (a2+1)) t203 t204 _ cN.out).mono ?_);rintro e w' ⟨rfl,⟨nd,rfl⟩⟩;refine⟨_,rfl,?_⟩));go_ret2;exact rq
        ·obtain⟨rfl,rfl⟩:=s2 H;have ar:0≤(a2:Int):=ko;have au:a2<(a1.size:Int):=ko;have bn:=bt_at a1 a2;replace ar:=pM ar;replace au:=pM au;go_wp2_with (first|(refine gB (some 82) Tryz.func100 #[.int .i64 a0,.string a1,.int .i64 (wrap64 (a2+1))] rfl ?_;(with_reducible refine(ih zO (by have:=ae.out;omega) a0 a1 (wrap64 (a2+1)) t203 t204 _ cN.out).mono ?_);rintro e w' ⟨rfl,⟨nd,rfl⟩⟩;refine⟨_,rfl,?_⟩));go_ret2;exact rq
       ·obtain⟨b9,ca⟩:=pe aT;rcases iT H with⟨aU,H⟩|⟨aU,H⟩
        ·obtain⟨cc,cd⟩:=pf aU;clear aU;obtain⟨⟨t205,t206⟩,dE,H⟩:=bE H;try dsimp only at H
         have bo:=bm H;clear H;have ar:0≤(a2:Int):=ko;have au:a2<(a1.size:Int):=ko;have bn:=bt_at a1 a2;replace ar:=pM ar;replace au:=pM au;have bp:0≤(a2:Int):=ko;have bq:a2<(a1.size:Int):=ko;have cO:=bt_at a1 a2;replace bp:=pM bp;replace bq:=pM bq;go_upto_region 22 with(first|(refine gB (some 101) Tryz.func100 #[.int .i64 a0,.string a1,.int .i64 (wrap64 (a2+1))] rfl ?_;(with_reducible refine(ih zO (by have:=ae.out;omega) a0 a1 (wrap64 (a2+1)) t205 t206 _ dE.out).mono ?_);rintro e w' ⟨rfl,⟨nd,rfl⟩⟩;refine⟨_,rfl,?_⟩))
         (try simp only[Act.put,qA,qB,qC]);go_cut [111] (fun cP wc=>∃(kq:Nat) (af:Bool),cP= .bool af∧hJ (hY.j2 kq a0 a1 t202 t205 t206 af=some (r1,r2))∧hJ (kq≤zO)∧Drawn0 w wc)
         case first=>
          have H:=bo.out;clear bo;rcases pP H with⟨av,H⟩|⟨av,H⟩
          ·(first|rw[av]|(simp only[i64_w,i32_w];rw[av])|skip);have H':=bm H;clear H;go_wp2;go_meet
           case rel=>exact⟨_,(true),eA,H',⟨by have:=ae.out;first|omega|exact Nat.le_refl _⟩,by repeat(first|exact Drawn0.refl _|apply Drawn0.step)⟩
          ·(first|rw[av]|(simp only[i64_w,i32_w];rw[av])|skip);have H':=bm H;clear H;go_wp2;go_meet
           case rel=>exact⟨_,(decide (t206≥(a1.size:Int))),eA,H',⟨by have:=ae.out;first|omega|exact Nat.le_refl _⟩,by repeat(first|exact Drawn0.refl _|apply Drawn0.step)⟩
         case rest=>
          clear bo;obtain⟨kq,af,rfl,HA,aP,⟨dX,rfl⟩⟩:=hcut;cases kq with
          |zero=>exact absurd HA.out (by simp[hY.j2])
          |succ Fa=>
           have H:=HA.out;clear HA;simp only[hY.j2]at H;by_cases bV:af=true
           ·subst bV;rw[if_pos rfl]at H;obtain⟨rfl,rfl⟩:=s2 H;go_wp2;go_ret2;exact rq
           ·replace bV:=pD bV;subst bV;rw[if_neg pV]at H;obtain⟨⟨t207,t208⟩,dF,H⟩:=bE H;try dsimp only at H
            have bs:=bm H;clear H;go_upto_region 25 with(first|(refine gB (some 117) Tryz.func100 #[.int .i64 a0,.string a1,.int .i64 (wrap64 (t206+1))] rfl ?_;(with_reducible refine(ih Fa (by have:=ae.out;have:=aP.out;omega) a0 a1 (wrap64 (t206+1)) t207 t208 _ dF.out).mono ?_);rintro e w' ⟨rfl,⟨nd,rfl⟩⟩;refine⟨_,rfl,?_⟩))
            (try simp only[Act.put,qA,qB,qC]);go_cut [133] (fun cQ wc=>∃(kq:Nat) (ag:Bool),cQ= .bool ag∧hJ (hY.j3 kq a1 t202 t205 t206 t207 t208 ag=some (r1,r2))∧hJ (kq≤Fa)∧Drawn0 w wc)
            case first=>
             have H:=bs.out;clear bs;rcases pP H with⟨aw,H⟩|⟨aw,H⟩
             ·(first|rw[aw]|(simp only[i64_w,i32_w];rw[aw])|skip);have H':=bm H;clear H;go_wp2;go_meet
              case rel=>exact⟨_,(true),eA,H',⟨by have:=ae.out;have:=aP.out;first|omega|exact Nat.le_refl _⟩,by repeat(first|exact Drawn0.refl _|apply Drawn0.step)⟩
             ·(first|rw[aw]|(simp only[i64_w,i32_w];rw[aw])|skip);rcases pP H with⟨cf,H⟩|⟨cf,H⟩
              ·have H':=bm H;clear H;go_wp2;go_meet
               case rel=>exact⟨_,(true),eA,H',⟨by have:=ae.out;have:=aP.out;first|omega|exact Nat.le_refl _⟩,by repeat(first|exact Drawn0.refl _|apply Drawn0.step)⟩
              ·obtain⟨dG,H⟩:=pN H;obtain⟨dH,H⟩:=pN H;have H':=bm H;clear H;have cT:0≤(t208:Int):=ko;have cU:t208<(a1.size:Int):=ko;have dY:=bt_at a1 t208;replace cT:=pM cT;replace cU:=pM cU;go_wp2;go_meet
               case rel=>exact⟨_,(((bt a1 t208) !=41)),eA,H',⟨by have:=ae.out;have:=aP.out;first|omega|exact Nat.le_refl _⟩,by repeat(first|exact Drawn0.refl _|apply Drawn0.step)⟩
            case rest=>
             clear bs;obtain⟨kq,ag,rfl,HA,dZ,⟨ea,rfl⟩⟩:=hcut;cases kq with
             |zero=>exact absurd HA.out (by simp[hY.j3])
             |succ Dw=>
              have H:=HA.out;clear HA;simp only[hY.j3]at H;by_cases bZ:ag=true
              ·subst bZ;rw[if_pos rfl]at H;obtain⟨rfl,rfl⟩:=s2 H;go_wp2;go_ret2;exact rq
              ·replace bZ:=pD bZ;subst bZ;rw[if_neg pV]at H;obtain⟨dI,H⟩:=pN H;obtain⟨dJ,H⟩:=pN H;rcases iT H with⟨aV,H⟩|⟨aV,H⟩
               ·obtain⟨cg,ch⟩:=pf aV;clear aV;obtain⟨t209,dK,H⟩:=bE H;try dsimp only at H
                obtain⟨rfl,rfl⟩:=s2 H;have ax:0≤(t206:Int):=ko;have ay:t206<(a1.size:Int):=ko;have bx:=bt_at a1 t206;replace ax:=pM ax;replace ay:=pM ay;go_wp2_with (first|(refine gB (some 141) Tryz.func62 #[.int .i64 t205,.int .i64 t207] rfl ?_;(refine(ki.calls Dw t205 t207 t209 _ dK.out).mono ?_);rintro e w' ⟨rfl,⟨nd,rfl⟩⟩;refine⟨_,rfl,?_⟩));go_ret2;exact rq
               ·obtain⟨cg,ch⟩:=pe aV;rcases iT H with⟨aW,H⟩|⟨aW,H⟩
                ·obtain⟨cj,ck⟩:=pf aW;clear aW;obtain⟨t210,dL,H⟩:=bE H;try dsimp only at H
                 obtain⟨rfl,rfl⟩:=s2 H;have ax:0≤(t206:Int):=ko;have ay:t206<(a1.size:Int):=ko;have bx:=bt_at a1 t206;replace ax:=pM ax;replace ay:=pM ay;go_wp2_with (first|(refine gB (some 148) Tryz.func102 #[.int .i64 t205,.int .i64 t207] rfl ?_;(refine(jU.calls Dw t205 t207 t210 _ dL.out).mono ?_);rintro e w' ⟨rfl,⟨nd,rfl⟩⟩;refine⟨_,rfl,?_⟩));go_ret2;exact rq
                ·obtain⟨cj,ck⟩:=pe aW;rcases iT H with⟨aY,H⟩|⟨aY,H⟩
                 ·obtain⟨cl,cm⟩:=pf aY;clear aY;obtain⟨t211,dM,H⟩:=bE H;try dsimp only at H
                  obtain⟨rfl,rfl⟩:=s2 H;have ax:0≤(t206:Int):=ko;have ay:t206<(a1.size:Int):=ko;have bx:=bt_at a1 t206;replace ax:=pM ax;replace ay:=pM ay;go_wp2_with (first|(refine gB (some 157) Tryz.func102 #[.int .i64 (wrap64 (t202 - t205)),.int .i64 t207] rfl ?_;(refine(jU.calls Dw (wrap64 (t202 - t205)) t207 t211 _ dM.out).mono ?_);rintro e w' ⟨rfl,⟨nd,rfl⟩⟩;refine⟨_,rfl,?_⟩));go_ret2;exact rq
                 ·obtain⟨cl,cm⟩:=pe aY;obtain⟨rfl,rfl⟩:=s2 H;have ax:0≤(t206:Int):=ko;have ay:t206<(a1.size:Int):=ko;have bx:=bt_at a1 t206;replace ax:=pM ax;replace ay:=pM ay;go_wp2;go_ret2;exact rq
        ·obtain⟨cc,cd⟩:=pe aU;obtain⟨rfl,rfl⟩:=s2 H;have ar:0≤(a2:Int):=ko;have au:a2<(a1.size:Int):=ko;have bn:=bt_at a1 a2;replace ar:=pM ar;replace au:=pM au;have bp:0≤(a2:Int):=ko;have bq:a2<(a1.size:Int):=ko;have cO:=bt_at a1 a2;replace bp:=pM bp;replace bq:=pM bq;go_wp2;go_ret2;exact rq
def jv.j0:Nat→Int→BA→Bool→Option (Int×Bool)
 |0,_,_,_=>none
 |k+1,x0,x1,x15=>if x15=true then(some ((-1),false))else((hY.f k x0 x1 0).bind fun bA=>(if bA.2=(x1.size:Int)then(some (bA.1,true))else(some ((-1),false))))
def jv.f (k:Nat) (a0:Int) (a1:BA):Option (Int×Bool):=(lR.f a0 1 3).bind fun t212=>(if t212=true then(jv.j0 k a0 a1 (decide ((a1.size:Int)>120)))else(jv.j0 k a0 a1 true))
theorem jv.hZ:∀k,(∀y0 y1 y2,lS (jv.j0 k y0 y1 y2) (jv.j0 (k+1) y0 y1 y2))
 |0=>fun _ _ _=> .z (by simp only[jv.j0])
 |k+1=>by
  have i0:=jv.hZ k;exact fun _ _ _=>by unfold jv.j0;infer_instance
instance jv.mo {k a0 a1}:lS (jv.f k a0 a1) (jv.f (k+1) a0 a1):=by have i0:=jv.hZ k;unfold jv.f;infer_instance
theorem jv.calls (k:Nat) (a0:Int) (a1:BA) (r1:Int) (r2:Bool) (w:World) (h:jv.f k a0 a1=some (r1,r2)):
  Calls Tryz.prog 59 #[.int .i64 a0,.string a1] w fun e w'=>e= .returned (.tuple #[.int .i64 r1,.bool r2])∧Drawn0 w w':=by
 have H:=h;clear h;unfold jv.f at H;have cn:=bm H;clear H;go_enter Tryz.func59,Tryz.ntmps59;go_upto_region 1 with(fail)
 go_cut [15] (fun dN wc=>∃(kq:Nat) (aI:Bool),dN= .bool aI∧hJ (jv.j0 kq a0 a1 aI=some (r1,r2))∧hJ (kq≤k)∧Drawn0 w wc)
 case first=>
  have H:=cn.out;clear cn;obtain⟨t212,A4,H⟩:=bE H;try dsimp only at H
  by_cases c5:t212=true
  ·subst c5;rw[if_pos rfl]at H;have H':=bm H;clear H;go_wp2_with (first|(refine gB (some 9) Tryz.func77 #[.int .i64 a0,.int .i64 1,.int .i64 3] rfl ?_;(refine(lR.calls a0 1 3 true _ A4.out).mono ?_);rintro e w' ⟨rfl,⟨nd,rfl⟩⟩;refine⟨_,rfl,?_⟩));go_meet
   case rel=>exact⟨_,(decide ((a1.size:Int)>120)),eA,H',⟨by first|omega|exact Nat.le_refl _⟩,by repeat(first|exact Drawn0.refl _|apply Drawn0.step)⟩
  ·replace c5:=pD c5;subst c5;rw[if_neg pV]at H;have H':=bm H;clear H;go_wp2_with (first|(refine gB (some 9) Tryz.func77 #[.int .i64 a0,.int .i64 1,.int .i64 3] rfl ?_;(refine(lR.calls a0 1 3 false _ A4.out).mono ?_);rintro e w' ⟨rfl,⟨nd,rfl⟩⟩;refine⟨_,rfl,?_⟩));go_meet
   case rel=>exact⟨_,(true),eA,H',⟨by first|omega|exact Nat.le_refl _⟩,by repeat(first|exact Drawn0.refl _|apply Drawn0.step)⟩
 case rest=>
  clear cn;obtain⟨kq,aI,rfl,HA,ee,⟨ef,rfl⟩⟩:=hcut;cases kq with
  |zero=>exact absurd HA.out (by simp[jv.j0])
  |succ wU=>
   have H:=HA.out;clear HA;simp only[jv.j0]at H;by_cases c6:aI=true
   ·subst c6;rw[if_pos rfl]at H;obtain⟨rfl,rfl⟩:=s2 H;go_wp2;go_ret2;exact rq
   ·replace c6:=pD c6;subst c6;rw[if_neg pV]at H;obtain⟨⟨t213,t214⟩,A7,H⟩:=bE H;try dsimp only at H
    rcases iT H with⟨c8,H⟩|⟨c8,H⟩
    ·obtain⟨bB,cX⟩:=pf c8;clear c8;obtain⟨rfl,rfl⟩:=s2 H;go_wp2_with (first|(refine gB (some 19) Tryz.func100 #[.int .i64 a0,.string a1,.int .i64 0] rfl ?_;(refine(hY.calls wU a0 a1 0 t213 t214 _ A7.out).mono ?_);rintro e w' ⟨rfl,⟨nd,rfl⟩⟩;refine⟨_,rfl,?_⟩));go_ret2;exact rq
    ·obtain⟨bB,cX⟩:=pe c8;obtain⟨rfl,rfl⟩:=s2 H;go_wp2_with (first|(refine gB (some 19) Tryz.func100 #[.int .i64 a0,.string a1,.int .i64 0] rfl ?_;(refine(hY.calls wU a0 a1 0 t213 t214 _ A7.out).mono ?_);rintro e w' ⟨rfl,⟨nd,rfl⟩⟩;refine⟨_,rfl,?_⟩));go_ret2;exact rq
mutual
def gZ.l0:Nat→LI→Int→Int→Int→Option (Int)
 |0,_,_,_,_=>none
 |k+1,x0,x1,x5,x6=>if x6<(x0.length:Int)then((kz.f x1 x6).bind fun t215=>(if t215=1 then(if 0≤x6 then(gZ.l0 k x0 x1 (mn x5 (rd x0 x6)) (wrap64 (x6+1)))else(none))else(gZ.l0 k x0 x1 x5 (wrap64 (x6+1)))))else(gZ.l1 k x0 x1 x5 0 0)
def gZ.l1:Nat→LI→Int→Int→Int→Int→Option (Int)
 |0,_,_,_,_,_=>none
 |k+1,x0,x1,x5,x7,x8=>if x8<(x0.length:Int)then((kz.f x1 x8).bind fun t217=>(if t217=1 then(if 0≤x8 then(if(rd x0 x8)=x5 then(gZ.l1 k x0 x1 x5 (wrap64 (x7+(shl .i64 1 x8))) (wrap64 (x8+1)))else(gZ.l1 k x0 x1 x5 x7 (wrap64 (x8+1))))else(none))else(gZ.l1 k x0 x1 x5 x7 (wrap64 (x8+1)))))else(some x7)
end
def gZ.f (k:Nat) (l0:LI) (a1:Int):Option (Int):=gZ.l0 k l0 a1 10 0
theorem gZ.hZ:∀k,(∀y0 y1 y2 y3,lS (gZ.l0 k y0 y1 y2 y3) (gZ.l0 (k+1) y0 y1 y2 y3))∧(∀y0 y1 y2 y3 y4,lS (gZ.l1 k y0 y1 y2 y3 y4) (gZ.l1 (k+1) y0 y1 y2 y3 y4))
 |0=>⟨fun _ _ _ _=> .z (by simp only[gZ.l0]),fun _ _ _ _ _=> .z (by simp only[gZ.l1])⟩
 |k+1=>by
  have⟨i0,i1⟩:=gZ.hZ k;exact⟨fun _ _ _ _=>by unfold gZ.l0;infer_instance,fun _ _ _ _ _=>by unfold gZ.l1;infer_instance⟩
instance gZ.mo {k a0 a1}:lS (gZ.f k a0 a1) (gZ.f (k+1) a0 a1):=by have⟨i0,i1⟩:=gZ.hZ k;unfold gZ.f;infer_instance
theorem gZ.calls (k:Nat) (A0:Option Addr) (c0:Nat) (l0:LI) (a1:Int) (r:Int) (w:World) (c1:Kd.C KI w A0 l0.length l0) (da:l0.length≤c0) (h:gZ.f k l0 a1=some r):
  Calls Tryz.prog 95 #[.slice A0 l0.length c0,.int .i64 a1] w fun e w'=>e= .returned (.int .i64 r)∧Below w.heap.size w w':=by
 have cp:=bm c1;have eg:=bm da;clear c1 da;have HB:=bm (Below.refl w.heap.size w);have H:=h;clear h;unfold gZ.f at H;have H':=bm H;clear H;go_enter Tryz.func95,Tryz.ntmps95;go_wp2;go_loopg [5,6] k (fun kq v5 v6 w'=>∃(J:Int) (o:Int),v5= .int .i64 J∧v6= .int .i64 o∧hJ (gZ.l0 kq l0 a1 J o=some r)∧hJ (kq≤k)∧hJ (Below w.heap.size w w'))
 case atStart=>exact⟨(10),(0),eA,eA,H',⟨Nat.le_refl _⟩,⟨wZ HB⟩⟩
 case round=>
  clear H';obtain⟨J,o,rfl,rfl,HA,ah,HB⟩:=hrel;cases gk with
  |zero=>exact absurd HA.out (by simp[gZ.l0])
  |succ k1=>
   have H:=HA.out;clear HA;simp only[gZ.l0]at H;rcases pP H with⟨a6,H⟩|⟨a6,H⟩
   ·obtain⟨t215,A4,H⟩:=bE H;try dsimp only at H
    rcases iT H with⟨c5,H⟩|⟨c5,H⟩
    ·obtain⟨db,dc⟩:=pf c5;clear c5;obtain⟨b0,H⟩:=pN H;obtain⟨aJ,ad⟩:∃j_:Int,(mn J (rd l0 o))=j_:=⟨_,rfl⟩;first|rw[ad]at H|simp only[ad]at H
     (try rw[ad]at A4);have a7:(if(rd l0 o)<J then(rd l0 o)else J)=aJ:=ad;have H':=bm H;clear H;go_wp2_with (first|(refine gB (some 17) Tryz.func98 #[.int .i64 a1,.int .i64 o] rfl ?_;(refine(kz.calls a1 o t215 _ A4.out).mono ?_);rintro e w' ⟨rfl,⟨nd,rfl⟩⟩;refine⟨_,rfl,?_⟩;have bD:0≤(o:Int):=ko;have bF:o<(l0.length:Int):=ko;obtain⟨dO,dd,az⟩:=Kd.at_int cp.out o bD bF;cases dd;replace az:=pE HB az;replace bD:=pM bD;replace bF:=pM bF));go_roundg k1
     case measure=>have:=ah.out;omega
     case rel=>exact⟨(aJ),(wrap64 (o+1)),(by first|rfl|(simp;done)|(simp only[←ad]<;>(first|rfl|simp))|(simp[*];done)),eA,H',⟨by have:=ah.out;omega⟩,⟨wZ HB⟩⟩
    ·obtain⟨db,dc⟩:=pe c5;have H':=bm H;clear H;go_wp2_with (first|(refine gB (some 17) Tryz.func98 #[.int .i64 a1,.int .i64 o] rfl ?_;(refine(kz.calls a1 o t215 _ A4.out).mono ?_);rintro e w' ⟨rfl,⟨nd,rfl⟩⟩;refine⟨_,rfl,?_⟩));go_roundg k1
     case measure=>have:=ah.out;omega
     case rel=>exact⟨(J),(wrap64 (o+1)),eA,eA,H',⟨by have:=ah.out;omega⟩,⟨wZ HB⟩⟩
   ·have H':=bm H;clear H;go_wp2;go_loopg [7,8] k1 (fun kq v7 v8 w'=>∃(aE:Int) (j:Int),v7= .int .i64 aE∧v8= .int .i64 j∧hJ (gZ.l1 kq l0 a1 J aE j=some r)∧hJ (kq≤k1)∧hJ (Below w.heap.size w w'))
    case atStart=>exact⟨(0),(0),eA,eA,H',⟨Nat.le_refl _⟩,⟨wZ HB⟩⟩
    case round=>
     clear H';obtain⟨aE,j,rfl,rfl,HA,aG,HB⟩:=hrel;cases gk with
     |zero=>exact absurd HA.out (by simp[gZ.l1])
     |succ k2=>
      have H:=HA.out;clear HA;simp only[gZ.l1]at H;rcases pP H with⟨bB,H⟩|⟨bB,H⟩
      ·obtain⟨t217,A9,H⟩:=bE H;try dsimp only at H
       rcases iT H with⟨c10,H⟩|⟨c10,H⟩
       ·obtain⟨cq,cr⟩:=pf c10;clear c10;obtain⟨ba,H⟩:=pN H;rcases iT H with⟨aZ,H⟩|⟨aZ,H⟩
        ·obtain⟨ct,cu⟩:=pf aZ;clear aZ;have dP:=pM (ko:0≤j);obtain⟨aA,aj⟩:∃j_:Int,(shl .i64 1 j)=j_:=⟨_,rfl⟩;first|rw[aj]at H|simp only[aj]at H
         (try rw[aj]at A9);have aQ:(IntKind.i64.wrap (1*2^min j.toNat 64))=aA:=aj;have aR:j≤64→(IntKind.i64.wrap (1*2^j.toNat))=aA:=shl_small aj;have dn:(IntKind.i64.wrap (2^min j.toNat 64))=aA:=by have h_:=aQ;rw[Int.one_mul]at h_;exact h_
         have dp:j≤64→(IntKind.i64.wrap (2^j.toNat))=aA:=fun bj=>by have h_:=aR bj;rw[Int.one_mul]at h_;exact h_
         have dq:(wrap64 (1*2^min j.toNat 64))=aA:=(i64_w _).symm.trans aQ;have dr:j≤64→(wrap64 (1*2^j.toNat))=aA:=fun h_=>(i64_w _).symm.trans (aR h_)
         have H':=bm H;clear H;go_wp2_with (first|(refine gB (some 33) Tryz.func98 #[.int .i64 a1,.int .i64 j] rfl ?_;(refine(kz.calls a1 j t217 _ A9.out).mono ?_);rintro e w' ⟨rfl,⟨nd,rfl⟩⟩;refine⟨_,rfl,?_⟩;have aB:0≤(j:Int):=ko;have aC:j<(l0.length:Int):=ko;obtain⟨cv,bH,ab⟩:=Kd.at_int cp.out j aB aC;cases bH;replace ab:=pE HB ab;replace aB:=pM aB;replace aC:=pM aC));go_roundg k2
         case measure=>have:=ah.out;have:=aG.out;omega
         case rel=>exact⟨(wrap64 (aE+(aA))),(wrap64 (j+1)),(by first|rfl|(simp;done)|(simp only[←aj]<;>(first|rfl|simp))|(simp[*];done)),eA,H',⟨by have:=ah.out;have:=aG.out;omega⟩,⟨wZ HB⟩⟩
        ·obtain⟨ct,cu⟩:=pe aZ;have H':=bm H;clear H;go_wp2_with (first|(refine gB (some 33) Tryz.func98 #[.int .i64 a1,.int .i64 j] rfl ?_;(refine(kz.calls a1 j t217 _ A9.out).mono ?_);rintro e w' ⟨rfl,⟨nd,rfl⟩⟩;refine⟨_,rfl,?_⟩;have aB:0≤(j:Int):=ko;have aC:j<(l0.length:Int):=ko;obtain⟨cv,bH,ab⟩:=Kd.at_int cp.out j aB aC;cases bH;replace ab:=pE HB ab;replace aB:=pM aB;replace aC:=pM aC));go_roundg k2
         case measure=>have:=ah.out;have:=aG.out;omega
         case rel=>exact⟨(aE),(wrap64 (j+1)),eA,eA,H',⟨by have:=ah.out;have:=aG.out;omega⟩,⟨wZ HB⟩⟩
       ·obtain⟨cq,cr⟩:=pe c10;have H':=bm H;clear H;go_wp2_with (first|(refine gB (some 33) Tryz.func98 #[.int .i64 a1,.int .i64 j] rfl ?_;(refine(kz.calls a1 j t217 _ A9.out).mono ?_);rintro e w' ⟨rfl,⟨nd,rfl⟩⟩;refine⟨_,rfl,?_⟩));go_roundg k2
        case measure=>have:=ah.out;have:=aG.out;omega
        case rel=>exact⟨(aE),(wrap64 (j+1)),eA,eA,H',⟨by have:=ah.out;have:=aG.out;omega⟩,⟨wZ HB⟩⟩
      ·obtain rfl:=pd H;go_wp2;go_ret;exact⟨eF,wZ HB⟩
def kc.f (a0:Int) (a1:Int):Option (Bool):=(lR.f a0 1 3).bind fun t219=>(if t219=true then((mh.f a0).bind fun t220=>((lR.f a1 0 t220).bind fun t221=>(some t221)))else(some false))
theorem kc.calls (a0:Int) (a1:Int) (r:Bool) (w:World) (h:kc.f a0 a1=some r):
  Calls Tryz.prog 97 #[.int .i64 a0,.int .i64 a1] w fun e w'=>e= .returned (.bool r)∧Drawn0 w w':=by
 have H:=h;clear h;unfold kc.f at H;obtain⟨t219,A3,H⟩:=bE H;try dsimp only at H
 by_cases c4:t219=true
 ·subst c4;rw[if_pos rfl]at H;obtain⟨t220,A5,H⟩:=bE H;try dsimp only at H
  obtain⟨t221,A6,H⟩:=bE H;try dsimp only at H
  obtain rfl:=pd H;go_enter Tryz.func97,Tryz.ntmps97;go_wp2_with (first|(refine gB (some 6) Tryz.func77 #[.int .i64 a0,.int .i64 1,.int .i64 3] rfl ?_;(refine(lR.calls a0 1 3 true _ A3.out).mono ?_);rintro e w' ⟨rfl,⟨nd,rfl⟩⟩;refine⟨_,rfl,?_⟩)|(go_at_call 96;(with_reducible refine(mh.calls a0 t220 _ A5.out).mono ?_);rintro e w' ⟨rfl,⟨nd,rfl⟩⟩)|(go_at_call 77;(with_reducible refine(lR.calls a1 0 t220 t221 _ A6.out).mono ?_);rintro e w' ⟨rfl,⟨nd,rfl⟩⟩));go_ret;exact rq
 ·replace c4:=pD c4;subst c4;rw[if_neg pV]at H;obtain rfl:=pd H;go_enter Tryz.func97,Tryz.ntmps97;go_wp2_with (first|(refine gB (some 6) Tryz.func77 #[.int .i64 a0,.int .i64 1,.int .i64 3] rfl ?_;(refine(lR.calls a0 1 3 false _ A3.out).mono ?_);rintro e w' ⟨rfl,⟨nd,rfl⟩⟩;refine⟨_,rfl,?_⟩));go_ret;exact rq
end Go.Proofs.YtigeaokfhnlkcaaGreatDoor.P
