import Derived.Test.YtigeaokfhnlkcaaGreatDoorPx0
import Derived.Test.YtigeaokfhnlkcaaGreatDoorPx2
import Derived.Test.YtigeaokfhnlkcaaGreatDoorPx12
namespace Go.Proofs.YtigeaokfhnlkcaaGreatDoor.P
open Go.RowKit YtigeaokfhnlkcaaGreatDoorW PrintWords PrintLast PrintMore
attribute [local go_sem] max2_int min2_int max_two min_two max_three min_three max_four min_four
set_option linter.unusedVariables false
set_option linter.unusedSimpArgs false
set_option maxHeartbeats 8000000
set_option maxRecDepth 100000
mutual
def jX.j0:Nat→Int→ByteArray→Int→Int→Bool→Option (Int×Int)
 |0,_,_,_,_,_=>none
 |k+1,x0,x1,x2,x8,x38=>if x38=true then(jX.l0 k x0 x1 x2 0 0)else(if 0≤x2 then(if x2<(x1.size:Int)then(if(bt x1 x2)=33 then((jX.f k x0 x1 (wrap64 (x2+1))).bind fun aW=>(if aW.2<0 then(some ((-1),(-1)))else(some (wrap64 (x8 - aW.1),aW.2))))else(if(bt x1 x2)=40 then((jX.f k x0 x1 (wrap64 (x2+1))).bind fun ak=>(if ak.2<0 then(jX.j2 k x0 x1 x8 ak.1 ak.2 true)else(jX.j2 k x0 x1 x8 ak.1 ak.2 (decide (ak.2≥(x1.size:Int))))))else(some ((-1),(-1)))))else(none))else(none))
def jX.l0:Nat→Int→ByteArray→Int→Int→Int→Option (Int×Int)
 |0,_,_,_,_,_=>none
 |k+1,x0,x1,x2,x9,x10=>if 0≤x0 then(if x10<(shl .i64 1 x0)then(if 0≤x2 then(if x2<(x1.size:Int)then(if 0≤x10 then(jX.l0 k x0 x1 x2 (wrap64 (x9+(shl .i64 (Int.tmod (shr .i64 x10 (((bt x1 x2) - 97)%256)) 2) x10))) (wrap64 (x10+1)))else(none))else(none))else(none))else(some (x9,wrap64 (x2+1))))else(none)
def jX.j2:Nat→Int→ByteArray→Int→Int→Int→Bool→Option (Int×Int)
 |0,_,_,_,_,_,_=>none
 |k+1,x0,x1,x8,wy,x14,Dm=>if Dm=true then(some ((-1),(-1)))else((jX.f k x0 x1 (wrap64 (x14+1))).bind fun aa=>(if aa.2<0 then(jX.j3 k x1 x8 wy x14 aa.1 aa.2 true)else(if aa.2≥(x1.size:Int)then(jX.j3 k x1 x8 wy x14 aa.1 aa.2 true)else(if 0≤aa.2 then(if aa.2<(x1.size:Int)then(jX.j3 k x1 x8 wy x14 aa.1 aa.2 ((bt x1 aa.2) !=41))else(none))else(none)))))
def jX.j3:Nat→ByteArray→Int→Int→Int→Int→Int→Bool→Option (Int×Int)
 |0,_,_,_,_,_,_,_=>none
 |k+1,x1,x8,wy,x14,x15,x16,Dn=>if Dn=true then(some ((-1),(-1)))else(if 0≤x14 then(if x14<(x1.size:Int)then(if(bt x1 x14)=38 then((oa.f k wy x15).bind fun bj=>(some (bj,wrap64 (x16+1))))else(if(bt x1 x14)=124 then((oV.f k wy x15).bind fun bk=>(some (bk,wrap64 (x16+1))))else(if(bt x1 x14)=62 then((oV.f k (wrap64 (x8 - wy)) x15).bind fun bl=>(some (bl,wrap64 (x16+1))))else(some ((-1),(-1))))))else(none))else(none))
def jX.f:Nat→Int→ByteArray→Int→Option (Int×Int)
 |0,_,_,_=>none
 |k+1,a0,a1,a2=>if a2≥(a1.size:Int)then(some ((-1),(-1)))else((pF.f a0).bind fun J=>(if 0≤a2 then(if a2<(a1.size:Int)then(if(bt a1 a2)=49 then(some (J,wrap64 (a2+1)))else(if(bt a1 a2)=48 then(some (0,wrap64 (a2+1)))else(if(bt a1 a2)≥97 then(jX.j0 k a0 a1 a2 J (decide ((((bt a1 a2) - 97)%256)<a0)))else(jX.j0 k a0 a1 a2 J false))))else(none))else(none)))
end
theorem jX.kU:∀k,(∀y0 y1 y2,ph (jX.f k y0 y1 y2) (jX.f (k+1) y0 y1 y2))∧(∀y0 y1 y2 y3 y4,ph (jX.j0 k y0 y1 y2 y3 y4) (jX.j0 (k+1) y0 y1 y2 y3 y4))∧(∀y0 y1 y2 y3 y4,ph (jX.l0 k y0 y1 y2 y3 y4) (jX.l0 (k+1) y0 y1 y2 y3 y4))∧(∀y0 y1 y2 y3 y4 y5,ph (jX.j2 k y0 y1 y2 y3 y4 y5) (jX.j2 (k+1) y0 y1 y2 y3 y4 y5))∧(∀y0 y1 y2 y3 y4 y5 y6,ph (jX.j3 k y0 y1 y2 y3 y4 y5 y6) (jX.j3 (k+1) y0 y1 y2 y3 y4 y5 y6))
 |0=>⟨fun _ _ _=> .z (by simp only[jX.f]),fun _ _ _ _ _=> .z (by simp only[jX.j0]),fun _ _ _ _ _=> .z (by simp only[jX.l0]),fun _ _ _ _ _ _=> .z (by simp only[jX.j2]),fun _ _ _ _ _ _ _=> .z (by simp only[jX.j3])⟩
 |k+1=>by
  have⟨i0,i1,i2,i3,i4⟩:=jX.kU k;exact⟨fun _ _ _=>by unfold jX.f;infer_instance,fun _ _ _ _ _=>by unfold jX.j0;infer_instance,fun _ _ _ _ _=>by unfold jX.l0;infer_instance,fun _ _ _ _ _ _=>by unfold jX.j2;infer_instance,fun _ _ _ _ _ _ _=>by unfold jX.j3;infer_instance⟩
instance jX.mo {k a0 a1 a2}:ph (jX.f k a0 a1 a2) (jX.f (k+1) a0 a1 a2):=(jX.kU k).1 a0 a1 a2
theorem jX.calls (k:Nat):∀(a0:Int) (a1:ByteArray) (a2:Int) (r1:Int) (r2:Int) (w:World) (h:jX.f k a0 a1 a2=some (r1,r2)),
  Calls Tryz.prog 100 #[.int .i64 a0,.string a1,.int .i64 a2] w fun e w'=>e= .returned (.tuple #[.int .i64 r1,.int .i64 r2])∧Drawn0 w w':=by
 induction k using Nat.strongRecOn with
 | _ k ih=>
 intro a0 a1 a2 r1 r2 w h;cases k with
 |zero=>exact absurd h (by simp[jX.f])
 |succ k=>
 simp only[jX.f]at h;have H:(if a2≥(a1.size:Int)then(some ((-1),(-1)))else((pF.f a0).bind fun J=>(if 0≤a2 then(if a2<(a1.size:Int)then(if(bt a1 a2)=49 then(some (J,wrap64 (a2+1)))else(if(bt a1 a2)=48 then(some (0,wrap64 (a2+1)))else(if(bt a1 a2)≥97 then(jX.j0 k a0 a1 a2 J (decide ((((bt a1 a2) - 97)%256)<a0)))else(jX.j0 k a0 a1 a2 J false))))else(none))else(none))))=some (r1,r2):=h;clear h;rcases nA H with⟨cF,H⟩|⟨cF,H⟩
 ·obtain⟨rfl,rfl⟩:=s2 H;go_enter Tryz.func100,Tryz.ntmps100;go_wp2;go_ret2;exact rq
 ·obtain⟨J,A5,H⟩:=bE H;try dsimp only at H
  obtain⟨cG,H⟩:=mY H;obtain⟨ea,H⟩:=mY H;rcases iT H with⟨c9,H⟩|⟨c9,H⟩
  ·obtain⟨cH,cI⟩:=nL c9;clear c9;obtain⟨rfl,rfl⟩:=s2 H;go_enter Tryz.func100,Tryz.ntmps100;go_wp2_with (first|(refine gB (some 22) Tryz.func96 #[.int .i64 a0] rfl ?_;(with_reducible refine(pF.calls a0 J _ A5.out).mono ?_);rintro e w' ⟨rfl,⟨nd,rfl⟩⟩;refine⟨_,rfl,?_⟩;have p8:0≤(a2:Int):=nY;have q8:a2<(a1.size:Int):=nY;have cJ:=bt_at a1 a2;replace p8:=mX p8;replace q8:=mX q8));go_ret2;exact rq
  ·obtain⟨cH,cI⟩:=nK c9;rcases iT H with⟨aN,H⟩|⟨aN,H⟩
   ·obtain⟨bn,cf⟩:=nL aN;clear aN;obtain⟨rfl,rfl⟩:=s2 H;go_enter Tryz.func100,Tryz.ntmps100;go_wp2_with (first|(refine gB (some 22) Tryz.func96 #[.int .i64 a0] rfl ?_;(with_reducible refine(pF.calls a0 J _ A5.out).mono ?_);rintro e w' ⟨rfl,⟨nd,rfl⟩⟩;refine⟨_,rfl,?_⟩;have p8:0≤(a2:Int):=nY;have q8:a2<(a1.size:Int):=nY;have cJ:=bt_at a1 a2;replace p8:=mX p8;replace q8:=mX q8;have bo:0≤(a2:Int):=nY;have bp:a2<(a1.size:Int):=nY;have cK:=bt_at a1 a2;replace bo:=mX bo;replace bp:=mX bp));go_ret2;exact rq
   ·obtain⟨bn,cf⟩:=nK aN;have bq:=bm H;clear H;go_enter Tryz.func100,Tryz.ntmps100;go_upto_region 8 with(first|(refine gB (some 22) Tryz.func96 #[.int .i64 a0] rfl ?_;(with_reducible refine(pF.calls a0 J _ A5.out).mono ?_);rintro e w' ⟨rfl,⟨nd,rfl⟩⟩;refine⟨_,rfl,?_⟩;have p8:0≤(a2:Int):=nY;have q8:a2<(a1.size:Int):=nY;have cJ:=bt_at a1 a2;replace p8:=mX p8;replace q8:=mX q8;have bo:0≤(a2:Int):=nY;have bp:a2<(a1.size:Int):=nY;have cK:=bt_at a1 a2;replace bo:=mX bo;replace bp:=mX bp))
    (try simp only[Act.put,qA,qB,qC]);go_cut [38] (fun dE wc=>∃(kq:Nat) (aq:Bool),dE= .bool aq∧kn (jX.j0 kq a0 a1 a2 J aq=some (r1,r2))∧kn (kq≤k)∧Drawn0 w wc)
    case first=>
     have H:=bq.out;clear bq;rcases nA H with⟨ar,H⟩|⟨ar,H⟩
     ·(first|rw[ar]|(simp only[i64_w,i32_w];rw[ar])|skip);have H':=bm H;clear H;have bs:0≤(a2:Int):=nY;have bu:a2<(a1.size:Int):=nY;have cL:=bt_at a1 a2;replace bs:=mX bs;replace bu:=mX bu;have cM:0≤(a2:Int):=nY;have cN:a2<(a1.size:Int):=nY;have eb:=bt_at a1 a2;replace cM:=mX cM;replace cN:=mX cN;go_wp2;go_meet
      case rel=>exact⟨_,(decide ((((bt a1 a2) - 97)%256)<a0)),(by first|rfl|(simp;done)|(simp[*];done)),H',⟨by first|omega|exact Nat.le_refl _⟩,by repeat(first|exact Drawn0.refl _|apply Drawn0.step)⟩
     ·(first|rw[ar]|(simp only[i64_w,i32_w];rw[ar])|skip);have H':=bm H;clear H;have bs:0≤(a2:Int):=nY;have bu:a2<(a1.size:Int):=nY;have cL:=bt_at a1 a2;replace bs:=mX bs;replace bu:=mX bu;go_wp2;go_meet
      case rel=>exact⟨_,(false),(by first|rfl|(simp;done)|(simp[*];done)),H',⟨by first|omega|exact Nat.le_refl _⟩,by repeat(first|exact Drawn0.refl _|apply Drawn0.step)⟩
    case rest=>
     clear bq;obtain⟨kq,aq,rfl,HA,af,⟨ec,rfl⟩⟩:=hcut;cases kq with
     |zero=>exact absurd HA.out (by simp[jX.j0])
     |succ yN=>
      have H:=HA.out;clear HA;simp only[jX.j0]at H;by_cases b6:aq=true
      ·subst b6;rw[if_pos rfl]at H;have H':=bm H;clear H;go_wp2;go_loopg [9,10] yN (fun kq v9 v10 w'=>∃(aY:Int) (I:Int),v9= .int .i64 aY∧v10= .int .i64 I∧kn (jX.l0 kq a0 a1 a2 aY I=some (r1,r2))∧kn (kq≤yN)∧Drawn0 w w')
       case atStart=>exact⟨(0),(0),(by first|rfl|(simp;done)|(simp[*];done)),(by first|rfl|(simp;done)|(simp[*];done)),H',⟨Nat.le_refl _⟩,by repeat(first|exact Drawn0.refl _|apply Drawn0.step)⟩
       case round=>
        clear H';obtain⟨aY,I,rfl,rfl,HA,aO,⟨m2,rfl⟩⟩:=hrel;cases gk with
        |zero=>exact absurd HA.out (by simp[jX.l0])
        |succ k2=>
         have H:=HA.out;clear HA;simp only[jX.l0]at H;obtain⟨dF,dG,H⟩:=mZ H;obtain⟨aI,au⟩:∃j_:Int,(shl .i64 1 a0)=j_:=⟨_,rfl⟩;first|rw[au]at H|simp only[au]at H
         have aZ:(IntKind.i64.wrap (1*2^min a0.toNat 64))=aI:=au;have a6:a0≤64→(IntKind.i64.wrap (1*2^a0.toNat))=aI:=shl_small au;have ds:(IntKind.i64.wrap (2^min a0.toNat 64))=aI:=by have h_:=aZ;rw[Int.one_mul]at h_;exact h_
         have dt:a0≤64→(IntKind.i64.wrap (2^a0.toNat))=aI:=fun bw=>by have h_:=a6 bw;rw[Int.one_mul]at h_;exact h_
         have du:(wrap64 (1*2^min a0.toNat 64))=aI:=(i64_w _).symm.trans aZ;have dv:a0≤64→(wrap64 (1*2^a0.toNat))=aI:=fun h_=>(i64_w _).symm.trans (a6 h_)
         rcases nA H with⟨ch,H⟩|⟨ch,H⟩
         ·obtain⟨dH,H⟩:=mY H;obtain⟨dI,H⟩:=mY H;obtain⟨av,aP⟩:∃j_:Int,(shr .i64 I (((bt a1 a2) - 97)%256))=j_:=⟨_,rfl⟩;first|rw[aP]at H|simp only[aP]at H
          have dw:(I/2^min (((bt a1 a2) - 97)%256).toNat 64)=av:=aP;have cQ:=mX (show(0:Int)≤(((bt a1 a2) - 97)%256) by omega);have cR:decide ((0:Int)≤(((bt a1 a2) - 97)%256))=true:=mV (by omega);have cS:decide ((((bt a1 a2) - 97)%256)<0)=false:=mP (by omega);have dx:(((bt a1 a2) - 97)%256)≤64→(I/2^(((bt a1 a2) - 97)%256).toNat)=av:=shr_small aP;obtain⟨dJ,dK,H⟩:=mZ H;obtain⟨aR,aw⟩:∃j_:Int,(shl .i64 (Int.tmod (av) 2) I)=j_:=⟨_,rfl⟩;first|rw[aw]at H|simp only[aw]at H
          have b7:(IntKind.i64.wrap ((Int.tmod (av) 2)*2^min I.toNat 64))=aR:=aw;have b8:I≤64→(IntKind.i64.wrap ((Int.tmod (av) 2)*2^I.toNat))=aR:=shl_small aw;have dy:(wrap64 ((Int.tmod (av) 2)*2^min I.toNat 64))=aR:=(i64_w _).symm.trans b7;have dz:I≤64→(wrap64 ((Int.tmod (av) 2)*2^I.toNat))=aR:=fun h_=>(i64_w _).symm.trans (b8 h_)
          have H':=bm H;clear H;have cT:0≤(a2:Int):=nY;have cU:a2<(a1.size:Int):=nY;have ed:=bt_at a1 a2;replace cT:=mX cT;replace cU:=mX cU;go_wp2;go_roundg k2
          case measure=>have:=af.out;have:=aO.out;omega
          case rel=>exact⟨(wrap64 (aY+(aR))),(wrap64 (I+1)),(by first|rfl|(simp;done)|(simp only[←aw]<;>(first|rfl|simp))|(simp[*];done)),(by first|rfl|(simp;done)|(simp[*];done)),H',⟨by have:=af.out;have:=aO.out;omega⟩,by repeat(first|exact Drawn0.refl _|apply Drawn0.step)⟩
         ·obtain⟨rfl,rfl⟩:=s2 H;go_wp2;go_ret2;exact⟨by first|rfl|(simp;done)|(simp only[←au]<;>(first|rfl|simp))|(simp[*];done),by repeat(first|exact Drawn0.refl _|apply Drawn0.step)⟩
      ·replace b6:=mN b6;subst b6;rw[if_neg nz]at H;obtain⟨dL,H⟩:=mY H;obtain⟨dM,H⟩:=mY H;rcases iT H with⟨bb,H⟩|⟨bb,H⟩
       ·obtain⟨ck,cl⟩:=nL bb;clear bb;obtain⟨⟨cb,cc⟩,cX,H⟩:=bE H;try dsimp only at H
        rcases nA H with⟨cm,H⟩|⟨cm,H⟩
        ·obtain⟨rfl,rfl⟩:=s2 H;have ax:0≤(a2:Int):=nY;have ay:a2<(a1.size:Int):=nY;have bA:=bt_at a1 a2;replace ax:=mX ax;replace ay:=mX ay;go_wp2_with (first|(refine gB (some 82) Tryz.func100 #[.int .i64 a0,.string a1,.int .i64 (wrap64 (a2+1))] rfl ?_;(with_reducible refine(ih yN (by have:=af.out;omega) a0 a1 (wrap64 (a2+1)) cb cc _ cX.out).mono ?_);rintro e w' ⟨rfl,⟨nd,rfl⟩⟩;refine⟨_,rfl,?_⟩));go_ret2;exact rq
        ·obtain⟨rfl,rfl⟩:=s2 H;have ax:0≤(a2:Int):=nY;have ay:a2<(a1.size:Int):=nY;have bA:=bt_at a1 a2;replace ax:=mX ax;replace ay:=mX ay;go_wp2_with (first|(refine gB (some 82) Tryz.func100 #[.int .i64 a0,.string a1,.int .i64 (wrap64 (a2+1))] rfl ?_;(with_reducible refine(ih yN (by have:=af.out;omega) a0 a1 (wrap64 (a2+1)) cb cc _ cX.out).mono ?_);rintro e w' ⟨rfl,⟨nd,rfl⟩⟩;refine⟨_,rfl,?_⟩));go_ret2;exact rq
       ·obtain⟨ck,cl⟩:=nK bb;rcases iT H with⟨bc,H⟩|⟨bc,H⟩
        ·obtain⟨cn,cp⟩:=nL bc;clear bc;obtain⟨⟨ag,o⟩,dN,H⟩:=bE H;try dsimp only at H
         have bB:=bm H;clear H;have ax:0≤(a2:Int):=nY;have ay:a2<(a1.size:Int):=nY;have bA:=bt_at a1 a2;replace ax:=mX ax;replace ay:=mX ay;have bD:0≤(a2:Int):=nY;have bF:a2<(a1.size:Int):=nY;have c1:=bt_at a1 a2;replace bD:=mX bD;replace bF:=mX bF;go_upto_region 22 with(first|(refine gB (some 101) Tryz.func100 #[.int .i64 a0,.string a1,.int .i64 (wrap64 (a2+1))] rfl ?_;(with_reducible refine(ih yN (by have:=af.out;omega) a0 a1 (wrap64 (a2+1)) ag o _ dN.out).mono ?_);rintro e w' ⟨rfl,⟨nd,rfl⟩⟩;refine⟨_,rfl,?_⟩))
         (try simp only[Act.put,qA,qB,qC]);go_cut [111] (fun da wc=>∃(kq:Nat) (ah:Bool),da= .bool ah∧kn (jX.j2 kq a0 a1 J ag o ah=some (r1,r2))∧kn (kq≤yN)∧Drawn0 w wc)
         case first=>
          have H:=bB.out;clear bB;rcases nA H with⟨az,H⟩|⟨az,H⟩
          ·(first|rw[az]|(simp only[i64_w,i32_w];rw[az])|skip);have H':=bm H;clear H;go_wp2;go_meet
           case rel=>exact⟨_,(true),(by first|rfl|(simp;done)|(simp[*];done)),H',⟨by have:=af.out;first|omega|exact Nat.le_refl _⟩,by repeat(first|exact Drawn0.refl _|apply Drawn0.step)⟩
          ·(first|rw[az]|(simp only[i64_w,i32_w];rw[az])|skip);have H':=bm H;clear H;go_wp2;go_meet
           case rel=>exact⟨_,(decide (o≥(a1.size:Int))),(by first|rfl|(simp;done)|(simp[*];done)),H',⟨by have:=af.out;first|omega|exact Nat.le_refl _⟩,by repeat(first|exact Drawn0.refl _|apply Drawn0.step)⟩
         case rest=>
          clear bB;obtain⟨kq,ah,rfl,HA,a7,⟨ee,rfl⟩⟩:=hcut;cases kq with
          |zero=>exact absurd HA.out (by simp[jX.j2])
          |succ Cw=>
           have H:=HA.out;clear HA;simp only[jX.j2]at H;by_cases b9:ah=true
           ·subst b9;rw[if_pos rfl]at H;obtain⟨rfl,rfl⟩:=s2 H;go_wp2;go_ret2;exact rq
           ·replace b9:=mN b9;subst b9;rw[if_neg nz]at H;obtain⟨⟨an,aJ⟩,dO,H⟩:=bE H;try dsimp only at H
            have bJ:=bm H;clear H;go_upto_region 25 with(first|(refine gB (some 117) Tryz.func100 #[.int .i64 a0,.string a1,.int .i64 (wrap64 (o+1))] rfl ?_;(with_reducible refine(ih Cw (by have:=af.out;have:=a7.out;omega) a0 a1 (wrap64 (o+1)) an aJ _ dO.out).mono ?_);rintro e w' ⟨rfl,⟨nd,rfl⟩⟩;refine⟨_,rfl,?_⟩))
            (try simp only[Act.put,qA,qB,qC]);go_cut [133] (fun db wc=>∃(kq:Nat) (ai:Bool),db= .bool ai∧kn (jX.j3 kq a1 J ag o an aJ ai=some (r1,r2))∧kn (kq≤Cw)∧Drawn0 w wc)
            case first=>
             have H:=bJ.out;clear bJ;rcases nA H with⟨aA,H⟩|⟨aA,H⟩
             ·(first|rw[aA]|(simp only[i64_w,i32_w];rw[aA])|skip);have H':=bm H;clear H;go_wp2;go_meet
              case rel=>exact⟨_,(true),(by first|rfl|(simp;done)|(simp[*];done)),H',⟨by have:=af.out;have:=a7.out;first|omega|exact Nat.le_refl _⟩,by repeat(first|exact Drawn0.refl _|apply Drawn0.step)⟩
             ·(first|rw[aA]|(simp only[i64_w,i32_w];rw[aA])|skip);rcases nA H with⟨cq,H⟩|⟨cq,H⟩
              ·have H':=bm H;clear H;go_wp2;go_meet
               case rel=>exact⟨_,(true),(by first|rfl|(simp;done)|(simp[*];done)),H',⟨by have:=af.out;have:=a7.out;first|omega|exact Nat.le_refl _⟩,by repeat(first|exact Drawn0.refl _|apply Drawn0.step)⟩
              ·obtain⟨dP,H⟩:=mY H;obtain⟨dQ,H⟩:=mY H;have H':=bm H;clear H;have de:0≤(aJ:Int):=nY;have df:aJ<(a1.size:Int):=nY;have ef:=bt_at a1 aJ;replace de:=mX de;replace df:=mX df;go_wp2;go_meet
               case rel=>exact⟨_,(((bt a1 aJ) !=41)),(by first|rfl|(simp;done)|(simp[*];done)),H',⟨by have:=af.out;have:=a7.out;first|omega|exact Nat.le_refl _⟩,by repeat(first|exact Drawn0.refl _|apply Drawn0.step)⟩
            case rest=>
             clear bJ;obtain⟨kq,ai,rfl,HA,eg,⟨eh,rfl⟩⟩:=hcut;cases kq with
             |zero=>exact absurd HA.out (by simp[jX.j3])
             |succ Bh=>
              have H:=HA.out;clear HA;simp only[jX.j3]at H;by_cases ca:ai=true
              ·subst ca;rw[if_pos rfl]at H;obtain⟨rfl,rfl⟩:=s2 H;go_wp2;go_ret2;exact rq
              ·replace ca:=mN ca;subst ca;rw[if_neg nz]at H;obtain⟨dR,H⟩:=mY H;obtain⟨dS,H⟩:=mY H;rcases iT H with⟨bd,H⟩|⟨bd,H⟩
               ·obtain⟨cr,ct⟩:=nL bd;clear bd;obtain⟨bj,dT,H⟩:=bE H;try dsimp only at H
                obtain⟨rfl,rfl⟩:=s2 H;have aB:0≤(o:Int):=nY;have aC:o<(a1.size:Int):=nY;have bV:=bt_at a1 o;replace aB:=mX aB;replace aC:=mX aC;go_wp2_with (first|(refine gB (some 141) Tryz.func62 #[.int .i64 ag,.int .i64 an] rfl ?_;(with_reducible refine(oa.calls Bh ag an bj _ dT.out).mono ?_);rintro e w' ⟨rfl,⟨nd,rfl⟩⟩;refine⟨_,rfl,?_⟩));go_ret2;exact rq
               ·obtain⟨cr,ct⟩:=nK bd;rcases iT H with⟨bf,H⟩|⟨bf,H⟩
                ·obtain⟨cu,cv⟩:=nL bf;clear bf;obtain⟨bk,dU,H⟩:=bE H;try dsimp only at H
                 obtain⟨rfl,rfl⟩:=s2 H;have aB:0≤(o:Int):=nY;have aC:o<(a1.size:Int):=nY;have bV:=bt_at a1 o;replace aB:=mX aB;replace aC:=mX aC;go_wp2_with (first|(refine gB (some 148) Tryz.func102 #[.int .i64 ag,.int .i64 an] rfl ?_;(with_reducible refine(oV.calls Bh ag an bk _ dU.out).mono ?_);rintro e w' ⟨rfl,⟨nd,rfl⟩⟩;refine⟨_,rfl,?_⟩));go_ret2;exact rq
                ·obtain⟨cu,cv⟩:=nK bf;rcases iT H with⟨bg,H⟩|⟨bg,H⟩
                 ·obtain⟨cw,cx⟩:=nL bg;clear bg;obtain⟨bl,dV,H⟩:=bE H;try dsimp only at H
                  obtain⟨rfl,rfl⟩:=s2 H;have aB:0≤(o:Int):=nY;have aC:o<(a1.size:Int):=nY;have bV:=bt_at a1 o;replace aB:=mX aB;replace aC:=mX aC;go_wp2_with (first|(refine gB (some 157) Tryz.func102 #[.int .i64 (wrap64 (J - ag)),.int .i64 an] rfl ?_;(with_reducible refine(oV.calls Bh (wrap64 (J - ag)) an bl _ dV.out).mono ?_);rintro e w' ⟨rfl,⟨nd,rfl⟩⟩;refine⟨_,rfl,?_⟩));go_ret2;exact rq
                 ·obtain⟨cw,cx⟩:=nK bg;obtain⟨rfl,rfl⟩:=s2 H;have aB:0≤(o:Int):=nY;have aC:o<(a1.size:Int):=nY;have bV:=bt_at a1 o;replace aB:=mX aB;replace aC:=mX aC;go_wp2;go_ret2;exact rq
        ·obtain⟨cn,cp⟩:=nK bc;obtain⟨rfl,rfl⟩:=s2 H;have ax:0≤(a2:Int):=nY;have ay:a2<(a1.size:Int):=nY;have bA:=bt_at a1 a2;replace ax:=mX ax;replace ay:=mX ay;have bD:0≤(a2:Int):=nY;have bF:a2<(a1.size:Int):=nY;have c1:=bt_at a1 a2;replace bD:=mX bD;replace bF:=mX bF;go_wp2;go_ret2;exact rq
def nZ.j0:Nat→Int→ByteArray→Bool→Option (Int×Bool)
 |0,_,_,_=>none
 |k+1,x0,x1,x15=>if x15=true then(some ((-1),false))else((jX.f k x0 x1 0).bind fun bZ=>(if bZ.2=(x1.size:Int)then(some (bZ.1,true))else(some ((-1),false))))
def nZ.f (k:Nat) (a0:Int) (a1:ByteArray):Option (Int×Bool):=(ov.f a0 1 3).bind fun aS=>(if aS=true then(nZ.j0 k a0 a1 (decide ((a1.size:Int)>120)))else(nZ.j0 k a0 a1 true))
theorem nZ.kU:∀k,(∀y0 y1 y2,ph (nZ.j0 k y0 y1 y2) (nZ.j0 (k+1) y0 y1 y2))
 |0=>fun _ _ _=> .z (by simp only[nZ.j0])
 |k+1=>by
  have i0:=nZ.kU k;exact fun _ _ _=>by unfold nZ.j0;infer_instance
instance nZ.mo {k a0 a1}:ph (nZ.f k a0 a1) (nZ.f (k+1) a0 a1):=by have i0:=nZ.kU k;unfold nZ.f;infer_instance
theorem nZ.calls (k:Nat) (a0:Int) (a1:ByteArray) (r1:Int) (r2:Bool) (w:World) (h:nZ.f k a0 a1=some (r1,r2)):
  Calls Tryz.prog 59 #[.int .i64 a0,.string a1] w fun e w'=>e= .returned (.tuple #[.int .i64 r1,.bool r2])∧Drawn0 w w':=by
 have H:=h;clear h;unfold nZ.f at H;have cy:=bm H;clear H;go_enter Tryz.func59,Tryz.ntmps59;go_upto_region 1 with(fail)
 go_cut [15] (fun dW wc=>∃(kq:Nat) (aQ:Bool),dW= .bool aQ∧kn (nZ.j0 kq a0 a1 aQ=some (r1,r2))∧kn (kq≤k)∧Drawn0 w wc)
 case first=>
  have H:=cy.out;clear cy;obtain⟨aS,A4,H⟩:=bE H;try dsimp only at H
  by_cases c5:aS=true
  ·subst c5;rw[if_pos rfl]at H;have H':=bm H;clear H;go_wp2_with (first|(refine gB (some 9) Tryz.func77 #[.int .i64 a0,.int .i64 1,.int .i64 3] rfl ?_;(with_reducible refine(ov.calls a0 1 3 true _ A4.out).mono ?_);rintro e w' ⟨rfl,⟨nd,rfl⟩⟩;refine⟨_,rfl,?_⟩));go_meet
   case rel=>exact⟨_,(decide ((a1.size:Int)>120)),(by first|rfl|(simp;done)|(simp[*];done)),H',⟨by first|omega|exact Nat.le_refl _⟩,by repeat(first|exact Drawn0.refl _|apply Drawn0.step)⟩
  ·replace c5:=mN c5;subst c5;rw[if_neg nz]at H;have H':=bm H;clear H;go_wp2_with (first|(refine gB (some 9) Tryz.func77 #[.int .i64 a0,.int .i64 1,.int .i64 3] rfl ?_;(with_reducible refine(ov.calls a0 1 3 false _ A4.out).mono ?_);rintro e w' ⟨rfl,⟨nd,rfl⟩⟩;refine⟨_,rfl,?_⟩));go_meet
   case rel=>exact⟨_,(true),(by first|rfl|(simp;done)|(simp[*];done)),H',⟨by first|omega|exact Nat.le_refl _⟩,by repeat(first|exact Drawn0.refl _|apply Drawn0.step)⟩
 case rest=>
  clear cy;obtain⟨kq,aQ,rfl,HA,ei,⟨ej,rfl⟩⟩:=hcut;cases kq with
  |zero=>exact absurd HA.out (by simp[nZ.j0])
  |succ zl=>
   have H:=HA.out;clear HA;simp only[nZ.j0]at H;by_cases c6:aQ=true
   ·subst c6;rw[if_pos rfl]at H;obtain⟨rfl,rfl⟩:=s2 H;go_wp2;go_ret2;exact rq
   ·replace c6:=mN c6;subst c6;rw[if_neg nz]at H;obtain⟨⟨cd,aK⟩,A7,H⟩:=bE H;try dsimp only at H
    rcases iT H with⟨c8,H⟩|⟨c8,H⟩
    ·obtain⟨b0,di⟩:=nL c8;clear c8;obtain⟨rfl,rfl⟩:=s2 H;go_wp2_with (first|(refine gB (some 19) Tryz.func100 #[.int .i64 a0,.string a1,.int .i64 0] rfl ?_;(with_reducible refine(jX.calls zl a0 a1 0 cd aK _ A7.out).mono ?_);rintro e w' ⟨rfl,⟨nd,rfl⟩⟩;refine⟨_,rfl,?_⟩));go_ret2;exact rq
    ·obtain⟨b0,di⟩:=nK c8;obtain⟨rfl,rfl⟩:=s2 H;go_wp2_with (first|(refine gB (some 19) Tryz.func100 #[.int .i64 a0,.string a1,.int .i64 0] rfl ?_;(with_reducible refine(jX.calls zl a0 a1 0 cd aK _ A7.out).mono ?_);rintro e w' ⟨rfl,⟨nd,rfl⟩⟩;refine⟨_,rfl,?_⟩));go_ret2;exact rq
mutual
def nq.l0:Nat→List Int→Int→Int→Int→Option (Int)
 |0,_,_,_,_=>none
 |k+1,x0,x1,x5,x6=>if x6<(x0.length:Int)then((pf.f x1 x6).bind fun ao=>(if ao=1 then(if 0≤x6 then(nq.l0 k x0 x1 (mn x5 (rd x0 x6)) (wrap64 (x6+1)))else(none))else(nq.l0 k x0 x1 x5 (wrap64 (x6+1)))))else(nq.l1 k x0 x1 x5 0 0)
def nq.l1:Nat→List Int→Int→Int→Int→Int→Option (Int)
 |0,_,_,_,_,_=>none
 |k+1,x0,x1,x5,x7,x8=>if x8<(x0.length:Int)then((pf.f x1 x8).bind fun aj=>(if aj=1 then(if 0≤x8 then(if(rd x0 x8)=x5 then(nq.l1 k x0 x1 x5 (wrap64 (x7+(shl .i64 1 x8))) (wrap64 (x8+1)))else(nq.l1 k x0 x1 x5 x7 (wrap64 (x8+1))))else(none))else(nq.l1 k x0 x1 x5 x7 (wrap64 (x8+1)))))else(some x7)
end
def nq.f (k:Nat) (l0:List Int) (a1:Int):Option (Int):=nq.l0 k l0 a1 10 0
theorem nq.kU:∀k,(∀y0 y1 y2 y3,ph (nq.l0 k y0 y1 y2 y3) (nq.l0 (k+1) y0 y1 y2 y3))∧(∀y0 y1 y2 y3 y4,ph (nq.l1 k y0 y1 y2 y3 y4) (nq.l1 (k+1) y0 y1 y2 y3 y4))
 |0=>⟨fun _ _ _ _=> .z (by simp only[nq.l0]),fun _ _ _ _ _=> .z (by simp only[nq.l1])⟩
 |k+1=>by
  have⟨i0,i1⟩:=nq.kU k;exact⟨fun _ _ _ _=>by unfold nq.l0;infer_instance,fun _ _ _ _ _=>by unfold nq.l1;infer_instance⟩
instance nq.mo {k a0 a1}:ph (nq.f k a0 a1) (nq.f (k+1) a0 a1):=by have⟨i0,i1⟩:=nq.kU k;unfold nq.f;infer_instance
theorem nq.calls (k:Nat) (A0:Option Addr) (c0:Nat) (l0:List Int) (a1:Int) (r:Int) (w:World) (dj:Kd.C (Kd.int .i64) w A0 l0.length l0) (dk:l0.length≤c0) (h:nq.f k l0 a1=some r):
  Calls Tryz.prog 95 #[.slice A0 l0.length c0,.int .i64 a1] w fun e w'=>e= .returned (.int .i64 r)∧Below w.heap.size w w':=by
 have cz:=bm dj;have ek:=bm dk;clear dj dk;have HB:=bm (Below.refl w.heap.size w);have H:=h;clear h;unfold nq.f at H;have H':=bm H;clear H;go_enter Tryz.func95,Tryz.ntmps95;go_wp2;go_loopg [5,6] k (fun kq v5 v6 w'=>∃(ae:Int) (ab:Int),v5= .int .i64 ae∧v6= .int .i64 ab∧kn (nq.l0 kq l0 a1 ae ab=some r)∧kn (kq≤k)∧kn (Below w.heap.size w w'))
 case atStart=>exact⟨(10),(0),(by first|rfl|(simp;done)|(simp[*];done)),(by first|rfl|(simp;done)|(simp[*];done)),H',⟨Nat.le_refl _⟩,⟨wZ HB⟩⟩
 case round=>
  clear H';obtain⟨ae,ab,rfl,rfl,HA,aH,HB⟩:=hrel;cases gk with
  |zero=>exact absurd HA.out (by simp[nq.l0])
  |succ k1=>
   have H:=HA.out;clear HA;simp only[nq.l0]at H;rcases nA H with⟨dm,H⟩|⟨dm,H⟩
   ·obtain⟨ao,A4,H⟩:=bE H;try dsimp only at H
    rcases iT H with⟨c5,H⟩|⟨c5,H⟩
    ·obtain⟨dn,dp⟩:=nL c5;clear c5;obtain⟨cG,H⟩:=mY H;obtain⟨dq,aT⟩:∃j_:Int,(mn ae (rd l0 ab))=j_:=⟨_,rfl⟩;first|rw[aT]at H|simp only[aT]at H
     (try rw[aT]at A4);have dX:(if(rd l0 ab)<ae then(rd l0 ab)else ae)=dq:=aT;have H':=bm H;clear H;go_wp2_with (first|(refine gB (some 17) Tryz.func98 #[.int .i64 a1,.int .i64 ab] rfl ?_;(with_reducible refine(pf.calls a1 ab ao _ A4.out).mono ?_);rintro e w' ⟨rfl,⟨nd,rfl⟩⟩;refine⟨_,rfl,?_⟩;have b1:0≤(ab:Int):=nY;have b4:ab<(l0.length:Int):=nY;obtain⟨dY,dr,aD⟩:=Kd.at_int cz.out ab b1 b4;cases dr;replace aD:=mO HB aD;replace b1:=mX b1;replace b4:=mX b4));go_roundg k1
     case measure=>have:=aH.out;omega
     case rel=>exact⟨(dq),(wrap64 (ab+1)),(by first|rfl|(simp;done)|(simp only[←aT]<;>(first|rfl|simp))|(simp[*];done)),(by first|rfl|(simp;done)|(simp[*];done)),H',⟨by have:=aH.out;omega⟩,⟨wZ HB⟩⟩
    ·obtain⟨dn,dp⟩:=nK c5;have H':=bm H;clear H;go_wp2_with (first|(refine gB (some 17) Tryz.func98 #[.int .i64 a1,.int .i64 ab] rfl ?_;(with_reducible refine(pf.calls a1 ab ao _ A4.out).mono ?_);rintro e w' ⟨rfl,⟨nd,rfl⟩⟩;refine⟨_,rfl,?_⟩));go_roundg k1
     case measure=>have:=aH.out;omega
     case rel=>exact⟨(ae),(wrap64 (ab+1)),(by first|rfl|(simp;done)|(simp[*];done)),(by first|rfl|(simp;done)|(simp[*];done)),H',⟨by have:=aH.out;omega⟩,⟨wZ HB⟩⟩
   ·have H':=bm H;clear H;go_wp2;go_loopg [7,8] k1 (fun kq v7 v8 w'=>∃(aL:Int) (j:Int),v7= .int .i64 aL∧v8= .int .i64 j∧kn (nq.l1 kq l0 a1 ae aL j=some r)∧kn (kq≤k1)∧kn (Below w.heap.size w w'))
    case atStart=>exact⟨(0),(0),(by first|rfl|(simp;done)|(simp[*];done)),(by first|rfl|(simp;done)|(simp[*];done)),H',⟨Nat.le_refl _⟩,⟨wZ HB⟩⟩
    case round=>
     clear H';obtain⟨aL,j,rfl,rfl,HA,aO,HB⟩:=hrel;cases gk with
     |zero=>exact absurd HA.out (by simp[nq.l1])
     |succ k2=>
      have H:=HA.out;clear HA;simp only[nq.l1]at H;rcases nA H with⟨b0,H⟩|⟨b0,H⟩
      ·obtain⟨aj,A9,H⟩:=bE H;try dsimp only at H
       rcases iT H with⟨c10,H⟩|⟨c10,H⟩
       ·obtain⟨cA,cB⟩:=nL c10;clear c10;obtain⟨bn,H⟩:=mY H;rcases iT H with⟨bh,H⟩|⟨bh,H⟩
        ·obtain⟨cC,cD⟩:=nL bh;clear bh;have dZ:=mX (nY:0≤j);obtain⟨aE,al⟩:∃j_:Int,(shl .i64 1 j)=j_:=⟨_,rfl⟩;first|rw[al]at H|simp only[al]at H
         (try rw[al]at A9);have a8:(IntKind.i64.wrap (1*2^min j.toNat 64))=aE:=al;have ba:j≤64→(IntKind.i64.wrap (1*2^j.toNat))=aE:=shl_small al;have dA:(IntKind.i64.wrap (2^min j.toNat 64))=aE:=by have h_:=a8;rw[Int.one_mul]at h_;exact h_
         have dB:j≤64→(IntKind.i64.wrap (2^j.toNat))=aE:=fun bw=>by have h_:=ba bw;rw[Int.one_mul]at h_;exact h_
         have dC:(wrap64 (1*2^min j.toNat 64))=aE:=(i64_w _).symm.trans a8;have dD:j≤64→(wrap64 (1*2^j.toNat))=aE:=fun h_=>(i64_w _).symm.trans (ba h_)
         have H':=bm H;clear H;go_wp2_with (first|(refine gB (some 33) Tryz.func98 #[.int .i64 a1,.int .i64 j] rfl ?_;(with_reducible refine(pf.calls a1 j aj _ A9.out).mono ?_);rintro e w' ⟨rfl,⟨nd,rfl⟩⟩;refine⟨_,rfl,?_⟩;have aF:0≤(j:Int):=nY;have aG:j<(l0.length:Int):=nY;obtain⟨cE,b5,ad⟩:=Kd.at_int cz.out j aF aG;cases b5;replace ad:=mO HB ad;replace aF:=mX aF;replace aG:=mX aG));go_roundg k2
         case measure=>have:=aH.out;have:=aO.out;omega
         case rel=>exact⟨(wrap64 (aL+(aE))),(wrap64 (j+1)),(by first|rfl|(simp;done)|(simp only[←al]<;>(first|rfl|simp))|(simp[*];done)),(by first|rfl|(simp;done)|(simp[*];done)),H',⟨by have:=aH.out;have:=aO.out;omega⟩,⟨wZ HB⟩⟩
        ·obtain⟨cC,cD⟩:=nK bh;have H':=bm H;clear H;go_wp2_with (first|(refine gB (some 33) Tryz.func98 #[.int .i64 a1,.int .i64 j] rfl ?_;(with_reducible refine(pf.calls a1 j aj _ A9.out).mono ?_);rintro e w' ⟨rfl,⟨nd,rfl⟩⟩;refine⟨_,rfl,?_⟩;have aF:0≤(j:Int):=nY;have aG:j<(l0.length:Int):=nY;obtain⟨cE,b5,ad⟩:=Kd.at_int cz.out j aF aG;cases b5;replace ad:=mO HB ad;replace aF:=mX aF;replace aG:=mX aG));go_roundg k2
         case measure=>have:=aH.out;have:=aO.out;omega
         case rel=>exact⟨(aL),(wrap64 (j+1)),(by first|rfl|(simp;done)|(simp[*];done)),(by first|rfl|(simp;done)|(simp[*];done)),H',⟨by have:=aH.out;have:=aO.out;omega⟩,⟨wZ HB⟩⟩
       ·obtain⟨cA,cB⟩:=nK c10;have H':=bm H;clear H;go_wp2_with (first|(refine gB (some 33) Tryz.func98 #[.int .i64 a1,.int .i64 j] rfl ?_;(with_reducible refine(pf.calls a1 j aj _ A9.out).mono ?_);rintro e w' ⟨rfl,⟨nd,rfl⟩⟩;refine⟨_,rfl,?_⟩));go_roundg k2
        case measure=>have:=aH.out;have:=aO.out;omega
        case rel=>exact⟨(aL),(wrap64 (j+1)),(by first|rfl|(simp;done)|(simp[*];done)),(by first|rfl|(simp;done)|(simp[*];done)),H',⟨by have:=aH.out;have:=aO.out;omega⟩,⟨wZ HB⟩⟩
      ·obtain rfl:=oJ H;go_wp2;go_ret;exact rz HB
def qi.f (a0:Int) (a1:Int):Option (Bool):=(ov.f a0 1 3).bind fun aU=>(if aU=true then((pF.f a0).bind fun aM=>((ov.f a1 0 aM).bind fun aV=>(some aV)))else(some false))
theorem qi.calls (a0:Int) (a1:Int) (r:Bool) (w:World) (h:qi.f a0 a1=some r):
  Calls Tryz.prog 97 #[.int .i64 a0,.int .i64 a1] w fun e w'=>e= .returned (.bool r)∧Drawn0 w w':=by
 have H:=h;clear h;unfold qi.f at H;obtain⟨aU,A3,H⟩:=bE H;try dsimp only at H
 by_cases c4:aU=true
 ·subst c4;rw[if_pos rfl]at H;obtain⟨aM,A5,H⟩:=bE H;try dsimp only at H
  obtain⟨aV,A6,H⟩:=bE H;try dsimp only at H
  obtain rfl:=oJ H;go_enter Tryz.func97,Tryz.ntmps97;go_wp2_with (first|(refine gB (some 6) Tryz.func77 #[.int .i64 a0,.int .i64 1,.int .i64 3] rfl ?_;(with_reducible refine(ov.calls a0 1 3 true _ A3.out).mono ?_);rintro e w' ⟨rfl,⟨nd,rfl⟩⟩;refine⟨_,rfl,?_⟩)|(go_at_call 96;(with_reducible refine(pF.calls a0 aM _ A5.out).mono ?_);rintro e w' ⟨rfl,⟨nd,rfl⟩⟩)|(go_at_call 77;(with_reducible refine(ov.calls a1 0 aM aV _ A6.out).mono ?_);rintro e w' ⟨rfl,⟨nd,rfl⟩⟩));go_ret;exact rq
 ·replace c4:=mN c4;subst c4;rw[if_neg nz]at H;obtain rfl:=oJ H;go_enter Tryz.func97,Tryz.ntmps97;go_wp2_with (first|(refine gB (some 6) Tryz.func77 #[.int .i64 a0,.int .i64 1,.int .i64 3] rfl ?_;(with_reducible refine(ov.calls a0 1 3 false _ A3.out).mono ?_);rintro e w' ⟨rfl,⟨nd,rfl⟩⟩;refine⟨_,rfl,?_⟩));go_ret;exact rq
end Go.Proofs.YtigeaokfhnlkcaaGreatDoor.P
