import Derived.Test.YtihgpkohglcijaaGreatDoorPx0
import Derived.Test.YtihgpkohglcijaaGreatDoorPx2
import Derived.Test.YtihgpkohglcijaaGreatDoorPx3
namespace Go.Proofs.YtihgpkohglcijaaGreatDoor.P
open Go.RowKit YtihgpkohglcijaaGreatDoorW PrintWords PrintLast PrintMore
attribute [local go_sem] max2_int min2_int max_two min_two max_three min_three max_four min_four
set_option linter.unusedVariables false
set_option linter.unusedSimpArgs false
set_option maxHeartbeats 8000000
set_option maxRecDepth 100000
mutual
def gl.j0:Nat→Int→ByteArray→Int→Int→Bool→Option (Int×Int)
 |0,_,_,_,_,_=>none
 |k+1,x0,x1,x2,x8,x38=>if x38=true then(gl.l0 k x0 x1 x2 0 0)else(if 0≤x2 then(if x2<(x1.size:Int)then(if(bt x1 x2)=33 then((gl.f k x0 x1 (wrap64 (x2+1))).bind fun aK=>(if aK.2<0 then(some ((-1),(-1)))else(some (wrap64 (x8 - aK.1),aK.2))))else(if(bt x1 x2)=40 then((gl.f k x0 x1 (wrap64 (x2+1))).bind fun ag=>(if ag.2<0 then(gl.j2 k x0 x1 x8 ag.1 ag.2 true)else(gl.j2 k x0 x1 x8 ag.1 ag.2 (decide (ag.2≥(x1.size:Int))))))else(some ((-1),(-1)))))else(none))else(none))
def gl.l0:Nat→Int→ByteArray→Int→Int→Int→Option (Int×Int)
 |0,_,_,_,_,_=>none
 |k+1,x0,x1,x2,x9,x10=>if 0≤x0 then(if x10<(shl .i64 1 x0)then(if 0≤x2 then(if x2<(x1.size:Int)then(if 0≤x10 then(gl.l0 k x0 x1 x2 (wrap64 (x9+(shl .i64 (Int.tmod (shr .i64 x10 (((bt x1 x2) - 97)%256)) 2) x10))) (wrap64 (x10+1)))else(none))else(none))else(none))else(some (x9,wrap64 (x2+1))))else(none)
def gl.j2:Nat→Int→ByteArray→Int→Int→Int→Bool→Option (Int×Int)
 |0,_,_,_,_,_,_=>none
 |k+1,x0,x1,x8,tU,x14,Eh=>if Eh=true then(some ((-1),(-1)))else((gl.f k x0 x1 (wrap64 (x14+1))).bind fun I=>(if I.2<0 then(gl.j3 k x1 x8 tU x14 I.1 I.2 true)else(if I.2≥(x1.size:Int)then(gl.j3 k x1 x8 tU x14 I.1 I.2 true)else(if 0≤I.2 then(if I.2<(x1.size:Int)then(gl.j3 k x1 x8 tU x14 I.1 I.2 ((bt x1 I.2) !=41))else(none))else(none)))))
def gl.j3:Nat→ByteArray→Int→Int→Int→Int→Int→Bool→Option (Int×Int)
 |0,_,_,_,_,_,_,_=>none
 |k+1,x1,x8,tU,x14,x15,x16,Ei=>if Ei=true then(some ((-1),(-1)))else(if 0≤x14 then(if x14<(x1.size:Int)then(if(bt x1 x14)=38 then((jB.f k tU x15).bind fun t156=>(some (t156,wrap64 (x16+1))))else(if(bt x1 x14)=124 then((kt.f k tU x15).bind fun t157=>(some (t157,wrap64 (x16+1))))else(if(bt x1 x14)=62 then((kt.f k (wrap64 (x8 - tU)) x15).bind fun t158=>(some (t158,wrap64 (x16+1))))else(some ((-1),(-1))))))else(none))else(none))
def gl.f:Nat→Int→ByteArray→Int→Option (Int×Int)
 |0,_,_,_=>none
 |k+1,a0,a1,a2=>if a2≥(a1.size:Int)then(some ((-1),(-1)))else((kG.f a0).bind fun t149=>(if 0≤a2 then(if a2<(a1.size:Int)then(if(bt a1 a2)=49 then(some (t149,wrap64 (a2+1)))else(if(bt a1 a2)=48 then(some (0,wrap64 (a2+1)))else(if(bt a1 a2)≥97 then(gl.j0 k a0 a1 a2 t149 (decide ((((bt a1 a2) - 97)%256)<a0)))else(gl.j0 k a0 a1 a2 t149 false))))else(none))else(none)))
end
theorem gl.gF:∀k,(∀y0 y1 y2,ku (gl.f k y0 y1 y2) (gl.f (k+1) y0 y1 y2))∧(∀y0 y1 y2 y3 y4,ku (gl.j0 k y0 y1 y2 y3 y4) (gl.j0 (k+1) y0 y1 y2 y3 y4))∧(∀y0 y1 y2 y3 y4,ku (gl.l0 k y0 y1 y2 y3 y4) (gl.l0 (k+1) y0 y1 y2 y3 y4))∧(∀y0 y1 y2 y3 y4 y5,ku (gl.j2 k y0 y1 y2 y3 y4 y5) (gl.j2 (k+1) y0 y1 y2 y3 y4 y5))∧(∀y0 y1 y2 y3 y4 y5 y6,ku (gl.j3 k y0 y1 y2 y3 y4 y5 y6) (gl.j3 (k+1) y0 y1 y2 y3 y4 y5 y6))
 |0=>⟨fun _ _ _=> .z (by simp only[gl.f]),fun _ _ _ _ _=> .z (by simp only[gl.j0]),fun _ _ _ _ _=> .z (by simp only[gl.l0]),fun _ _ _ _ _ _=> .z (by simp only[gl.j2]),fun _ _ _ _ _ _ _=> .z (by simp only[gl.j3])⟩
 |k+1=>by
  have⟨i0,i1,i2,i3,i4⟩:=gl.gF k;exact⟨fun _ _ _=>by unfold gl.f;infer_instance,fun _ _ _ _ _=>by unfold gl.j0;infer_instance,fun _ _ _ _ _=>by unfold gl.l0;infer_instance,fun _ _ _ _ _ _=>by unfold gl.j2;infer_instance,fun _ _ _ _ _ _ _=>by unfold gl.j3;infer_instance⟩
instance gl.mo {k a0 a1 a2}:ku (gl.f k a0 a1 a2) (gl.f (k+1) a0 a1 a2):=(gl.gF k).1 a0 a1 a2
theorem gl.calls (k:Nat):∀(a0:Int) (a1:ByteArray) (a2:Int) (r1:Int) (r2:Int) (w:World) (h:gl.f k a0 a1 a2=some (r1,r2)),
  Calls Tryz.prog 109 #[.int .i64 a0,.string a1,.int .i64 a2] w fun e w'=>e= .returned (.tuple #[.int .i64 r1,.int .i64 r2])∧Drawn0 w w':=by
 induction k using Nat.strongRecOn with
 | _ k ih=>
 intro a0 a1 a2 r1 r2 w h;cases k with
 |zero=>exact absurd h (by simp[gl.f])
 |succ k=>
 simp only[gl.f]at h;have H:(if a2≥(a1.size:Int)then(some ((-1),(-1)))else((kG.f a0).bind fun t149=>(if 0≤a2 then(if a2<(a1.size:Int)then(if(bt a1 a2)=49 then(some (t149,wrap64 (a2+1)))else(if(bt a1 a2)=48 then(some (0,wrap64 (a2+1)))else(if(bt a1 a2)≥97 then(gl.j0 k a0 a1 a2 t149 (decide ((((bt a1 a2) - 97)%256)<a0)))else(gl.j0 k a0 a1 a2 t149 false))))else(none))else(none))))=some (r1,r2):=h;clear h;rcases vL H with⟨cl,H⟩|⟨cl,H⟩
 ·obtain⟨rfl,rfl⟩:=s2 H;go_enter Tryz.func109,Tryz.ntmps109;go_wp2;go_ret2;exact vn
 ·obtain⟨t149,A5,H⟩:=bE H;try dsimp only at H
  obtain⟨cm,H⟩:=vJ H;obtain⟨dJ,H⟩:=vJ H;rcases iT H with⟨c9,H⟩|⟨c9,H⟩
  ·obtain⟨cn,cp⟩:=vl c9;clear c9;obtain⟨rfl,rfl⟩:=s2 H;go_enter Tryz.func109,Tryz.ntmps109;go_wp2_with (first|(refine gB (some 22) Tryz.func105 #[.int .i64 a0] rfl ?_;(with_reducible refine(kG.calls a0 t149 _ A5.out).mono ?_);rintro e w' ⟨rfl,⟨nd,rfl⟩⟩;refine⟨_,rfl,?_⟩;have p8:0≤(a2:Int):=jK;have q8:a2<(a1.size:Int):=jK;have cq:=bt_at a1 a2;replace p8:=vI p8;replace q8:=vI q8));go_ret2;exact vn
  ·obtain⟨cn,cp⟩:=vk c9;rcases iT H with⟨aE,H⟩|⟨aE,H⟩
   ·obtain⟨aY,bH⟩:=vl aE;clear aE;obtain⟨rfl,rfl⟩:=s2 H;go_enter Tryz.func109,Tryz.ntmps109;go_wp2_with (first|(refine gB (some 22) Tryz.func105 #[.int .i64 a0] rfl ?_;(with_reducible refine(kG.calls a0 t149 _ A5.out).mono ?_);rintro e w' ⟨rfl,⟨nd,rfl⟩⟩;refine⟨_,rfl,?_⟩;have p8:0≤(a2:Int):=jK;have q8:a2<(a1.size:Int):=jK;have cq:=bt_at a1 a2;replace p8:=vI p8;replace q8:=vI q8;have aZ:0≤(a2:Int):=jK;have a6:a2<(a1.size:Int):=jK;have cr:=bt_at a1 a2;replace aZ:=vI aZ;replace a6:=vI a6));go_ret2;exact vn
   ·obtain⟨aY,bH⟩:=vk aE;have a7:=bm H;clear H;go_enter Tryz.func109,Tryz.ntmps109;go_upto_region 8 with(first|(refine gB (some 22) Tryz.func105 #[.int .i64 a0] rfl ?_;(with_reducible refine(kG.calls a0 t149 _ A5.out).mono ?_);rintro e w' ⟨rfl,⟨nd,rfl⟩⟩;refine⟨_,rfl,?_⟩;have p8:0≤(a2:Int):=jK;have q8:a2<(a1.size:Int):=jK;have cq:=bt_at a1 a2;replace p8:=vI p8;replace q8:=vI q8;have aZ:0≤(a2:Int):=jK;have a6:a2<(a1.size:Int):=jK;have cr:=bt_at a1 a2;replace aZ:=vI aZ;replace a6:=vI a6))
    (try simp only[Act.put,qA,qB,qC]);go_cut [38] (fun dm wc=>∃(kq:Nat) (ai:Bool),dm= .bool ai∧gm (gl.j0 kq a0 a1 a2 t149 ai=some (r1,r2))∧gm (kq≤k)∧Drawn0 w wc)
    case first=>
     have H:=a7.out;clear a7;rcases vL H with⟨aj,H⟩|⟨aj,H⟩
     ·(first|rw[aj]|(simp only[i64_w,i32_w];rw[aj])|skip);have H':=bm H;clear H;have ba:0≤(a2:Int):=jK;have bb:a2<(a1.size:Int):=jK;have ct:=bt_at a1 a2;replace ba:=vI ba;replace bb:=vI bb;have cu:0≤(a2:Int):=jK;have cv:a2<(a1.size:Int):=jK;have dK:=bt_at a1 a2;replace cu:=vI cu;replace cv:=vI cv;go_wp2;go_meet
      case rel=>exact⟨_,(decide ((((bt a1 a2) - 97)%256)<a0)),(by first|rfl|(simp;done)|(simp[*];done)),H',⟨by first|omega|exact Nat.le_refl _⟩,by repeat(first|exact Drawn0.refl _|apply Drawn0.step)⟩
     ·(first|rw[aj]|(simp only[i64_w,i32_w];rw[aj])|skip);have H':=bm H;clear H;have ba:0≤(a2:Int):=jK;have bb:a2<(a1.size:Int):=jK;have ct:=bt_at a1 a2;replace ba:=vI ba;replace bb:=vI bb;go_wp2;go_meet
      case rel=>exact⟨_,(false),(by first|rfl|(simp;done)|(simp[*];done)),H',⟨by first|omega|exact Nat.le_refl _⟩,by repeat(first|exact Drawn0.refl _|apply Drawn0.step)⟩
    case rest=>
     clear a7;obtain⟨kq,ai,rfl,HA,ad,⟨dL,rfl⟩⟩:=hcut;cases kq with
     |zero=>exact absurd HA.out (by simp[gl.j0])
     |succ yp=>
      have H:=HA.out;clear HA;simp only[gl.j0]at H;by_cases bz:ai=true
      ·subst bz;rw[if_pos rfl]at H;have H':=bm H;clear H;go_wp2;go_loopg [9,10] yp (fun kq v9 v10 w'=>∃(aL:Int) (o:Int),v9= .int .i64 aL∧v10= .int .i64 o∧gm (gl.l0 kq a0 a1 a2 aL o=some (r1,r2))∧gm (kq≤yp)∧Drawn0 w w')
       case atStart=>exact⟨(0),(0),(by first|rfl|(simp;done)|(simp[*];done)),(by first|rfl|(simp;done)|(simp[*];done)),H',⟨Nat.le_refl _⟩,by repeat(first|exact Drawn0.refl _|apply Drawn0.step)⟩
       case round=>
        clear H';obtain⟨aL,o,rfl,rfl,HA,aF,⟨m2,rfl⟩⟩:=hrel;cases gk with
        |zero=>exact absurd HA.out (by simp[gl.l0])
        |succ k2=>
         have H:=HA.out;clear HA;simp only[gl.l0]at H;obtain⟨dn,dp,H⟩:=vK H;obtain⟨aC,ak⟩:∃j_:Int,(shl .i64 1 a0)=j_:=⟨_,rfl⟩;first|rw[ak]at H|simp only[ak]at H
         have aM:(IntKind.i64.wrap (1*2^min a0.toNat 64))=aC:=ak;have aN:a0≤64→(IntKind.i64.wrap (1*2^a0.toNat))=aC:=shl_small ak;have cX:(IntKind.i64.wrap (2^min a0.toNat 64))=aC:=by have h_:=aM;rw[Int.one_mul]at h_;exact h_
         have c1:a0≤64→(IntKind.i64.wrap (2^a0.toNat))=aC:=fun bc=>by have h_:=aN bc;rw[Int.one_mul]at h_;exact h_
         have da:(wrap64 (1*2^min a0.toNat 64))=aC:=(i64_w _).symm.trans aM;have db:a0≤64→(wrap64 (1*2^a0.toNat))=aC:=fun h_=>(i64_w _).symm.trans (aN h_)
         rcases vL H with⟨bO,H⟩|⟨bO,H⟩
         ·obtain⟨dq,H⟩:=vJ H;obtain⟨dr,H⟩:=vJ H;obtain⟨al,aG⟩:∃j_:Int,(shr .i64 o (((bt a1 a2) - 97)%256))=j_:=⟨_,rfl⟩;first|rw[aG]at H|simp only[aG]at H
          have dc:(o/2^min (((bt a1 a2) - 97)%256).toNat 64)=al:=aG;have cy:=vI (show(0:Int)≤(((bt a1 a2) - 97)%256) by omega);have cz:decide ((0:Int)≤(((bt a1 a2) - 97)%256))=true:=vG (by omega);have cA:decide ((((bt a1 a2) - 97)%256)<0)=false:=vB (by omega);have dd:(((bt a1 a2) - 97)%256)≤64→(o/2^(((bt a1 a2) - 97)%256).toNat)=al:=shr_small aG;obtain⟨ds,dt,H⟩:=vK H;obtain⟨aI,an⟩:∃j_:Int,(shl .i64 (Int.tmod (al) 2) o)=j_:=⟨_,rfl⟩;first|rw[an]at H|simp only[an]at H
          have bA:(IntKind.i64.wrap ((Int.tmod (al) 2)*2^min o.toNat 64))=aI:=an;have bB:o≤64→(IntKind.i64.wrap ((Int.tmod (al) 2)*2^o.toNat))=aI:=shl_small an;have de:(wrap64 ((Int.tmod (al) 2)*2^min o.toNat 64))=aI:=(i64_w _).symm.trans bA;have df:o≤64→(wrap64 ((Int.tmod (al) 2)*2^o.toNat))=aI:=fun h_=>(i64_w _).symm.trans (bB h_)
          have H':=bm H;clear H;have cB:0≤(a2:Int):=jK;have cC:a2<(a1.size:Int):=jK;have dM:=bt_at a1 a2;replace cB:=vI cB;replace cC:=vI cC;go_wp2;go_roundg k2
          case measure=>have:=ad.out;have:=aF.out;omega
          case rel=>exact⟨(wrap64 (aL+(aI))),(wrap64 (o+1)),(by first|rfl|(simp;done)|(simp only[←an]<;>(first|rfl|simp))|(simp[*];done)),(by first|rfl|(simp;done)|(simp[*];done)),H',⟨by have:=ad.out;have:=aF.out;omega⟩,by repeat(first|exact Drawn0.refl _|apply Drawn0.step)⟩
         ·obtain⟨rfl,rfl⟩:=s2 H;go_wp2;go_ret2;exact⟨by first|rfl|(simp;done)|(simp only[←ak]<;>(first|rfl|simp))|(simp[*];done),by repeat(first|exact Drawn0.refl _|apply Drawn0.step)⟩
      ·replace bz:=uZ bz;subst bz;rw[if_neg vR]at H;obtain⟨du,H⟩:=vJ H;obtain⟨dv,H⟩:=vJ H;rcases iT H with⟨aR,H⟩|⟨aR,H⟩
       ·obtain⟨bV,bZ⟩:=vl aR;clear aR;obtain⟨⟨t150,t151⟩,cF,H⟩:=bE H;try dsimp only at H
        rcases vL H with⟨b0,H⟩|⟨b0,H⟩
        ·obtain⟨rfl,rfl⟩:=s2 H;have ao:0≤(a2:Int):=jK;have aq:a2<(a1.size:Int):=jK;have bg:=bt_at a1 a2;replace ao:=vI ao;replace aq:=vI aq;go_wp2_with (first|(refine gB (some 82) Tryz.func109 #[.int .i64 a0,.string a1,.int .i64 (wrap64 (a2+1))] rfl ?_;(with_reducible refine(ih yp (by have:=ad.out;omega) a0 a1 (wrap64 (a2+1)) t150 t151 _ cF.out).mono ?_);rintro e w' ⟨rfl,⟨nd,rfl⟩⟩;refine⟨_,rfl,?_⟩));go_ret2;exact vn
        ·obtain⟨rfl,rfl⟩:=s2 H;have ao:0≤(a2:Int):=jK;have aq:a2<(a1.size:Int):=jK;have bg:=bt_at a1 a2;replace ao:=vI ao;replace aq:=vI aq;go_wp2_with (first|(refine gB (some 82) Tryz.func109 #[.int .i64 a0,.string a1,.int .i64 (wrap64 (a2+1))] rfl ?_;(with_reducible refine(ih yp (by have:=ad.out;omega) a0 a1 (wrap64 (a2+1)) t150 t151 _ cF.out).mono ?_);rintro e w' ⟨rfl,⟨nd,rfl⟩⟩;refine⟨_,rfl,?_⟩));go_ret2;exact vn
       ·obtain⟨bV,bZ⟩:=vk aR;rcases iT H with⟨aS,H⟩|⟨aS,H⟩
        ·obtain⟨b1,b4⟩:=vl aS;clear aS;obtain⟨⟨t152,t153⟩,dw,H⟩:=bE H;try dsimp only at H
         have bh:=bm H;clear H;have ao:0≤(a2:Int):=jK;have aq:a2<(a1.size:Int):=jK;have bg:=bt_at a1 a2;replace ao:=vI ao;replace aq:=vI aq;have bj:0≤(a2:Int):=jK;have bk:a2<(a1.size:Int):=jK;have cG:=bt_at a1 a2;replace bj:=vI bj;replace bk:=vI bk;go_upto_region 22 with(first|(refine gB (some 101) Tryz.func109 #[.int .i64 a0,.string a1,.int .i64 (wrap64 (a2+1))] rfl ?_;(with_reducible refine(ih yp (by have:=ad.out;omega) a0 a1 (wrap64 (a2+1)) t152 t153 _ dw.out).mono ?_);rintro e w' ⟨rfl,⟨nd,rfl⟩⟩;refine⟨_,rfl,?_⟩))
         (try simp only[Act.put,qA,qB,qC]);go_cut [111] (fun cH wc=>∃(kq:Nat) (ae:Bool),cH= .bool ae∧gm (gl.j2 kq a0 a1 t149 t152 t153 ae=some (r1,r2))∧gm (kq≤yp)∧Drawn0 w wc)
         case first=>
          have H:=bh.out;clear bh;rcases vL H with⟨ar,H⟩|⟨ar,H⟩
          ·(first|rw[ar]|(simp only[i64_w,i32_w];rw[ar])|skip);have H':=bm H;clear H;go_wp2;go_meet
           case rel=>exact⟨_,(true),(by first|rfl|(simp;done)|(simp[*];done)),H',⟨by have:=ad.out;first|omega|exact Nat.le_refl _⟩,by repeat(first|exact Drawn0.refl _|apply Drawn0.step)⟩
          ·(first|rw[ar]|(simp only[i64_w,i32_w];rw[ar])|skip);have H':=bm H;clear H;go_wp2;go_meet
           case rel=>exact⟨_,(decide (t153≥(a1.size:Int))),(by first|rfl|(simp;done)|(simp[*];done)),H',⟨by have:=ad.out;first|omega|exact Nat.le_refl _⟩,by repeat(first|exact Drawn0.refl _|apply Drawn0.step)⟩
         case rest=>
          clear bh;obtain⟨kq,ae,rfl,HA,aO,⟨dN,rfl⟩⟩:=hcut;cases kq with
          |zero=>exact absurd HA.out (by simp[gl.j2])
          |succ CW=>
           have H:=HA.out;clear HA;simp only[gl.j2]at H;by_cases bD:ae=true
           ·subst bD;rw[if_pos rfl]at H;obtain⟨rfl,rfl⟩:=s2 H;go_wp2;go_ret2;exact vn
           ·replace bD:=uZ bD;subst bD;rw[if_neg vR]at H;obtain⟨⟨t154,t155⟩,dx,H⟩:=bE H;try dsimp only at H
            have bn:=bm H;clear H;go_upto_region 25 with(first|(refine gB (some 117) Tryz.func109 #[.int .i64 a0,.string a1,.int .i64 (wrap64 (t153+1))] rfl ?_;(with_reducible refine(ih CW (by have:=ad.out;have:=aO.out;omega) a0 a1 (wrap64 (t153+1)) t154 t155 _ dx.out).mono ?_);rintro e w' ⟨rfl,⟨nd,rfl⟩⟩;refine⟨_,rfl,?_⟩))
            (try simp only[Act.put,qA,qB,qC]);go_cut [133] (fun cI wc=>∃(kq:Nat) (af:Bool),cI= .bool af∧gm (gl.j3 kq a1 t149 t152 t153 t154 t155 af=some (r1,r2))∧gm (kq≤CW)∧Drawn0 w wc)
            case first=>
             have H:=bn.out;clear bn;rcases vL H with⟨au,H⟩|⟨au,H⟩
             ·(first|rw[au]|(simp only[i64_w,i32_w];rw[au])|skip);have H':=bm H;clear H;go_wp2;go_meet
              case rel=>exact⟨_,(true),(by first|rfl|(simp;done)|(simp[*];done)),H',⟨by have:=ad.out;have:=aO.out;first|omega|exact Nat.le_refl _⟩,by repeat(first|exact Drawn0.refl _|apply Drawn0.step)⟩
             ·(first|rw[au]|(simp only[i64_w,i32_w];rw[au])|skip);rcases vL H with⟨b5,H⟩|⟨b5,H⟩
              ·have H':=bm H;clear H;go_wp2;go_meet
               case rel=>exact⟨_,(true),(by first|rfl|(simp;done)|(simp[*];done)),H',⟨by have:=ad.out;have:=aO.out;first|omega|exact Nat.le_refl _⟩,by repeat(first|exact Drawn0.refl _|apply Drawn0.step)⟩
              ·obtain⟨dy,H⟩:=vJ H;obtain⟨dz,H⟩:=vJ H;have H':=bm H;clear H;have cL:0≤(t155:Int):=jK;have cM:t155<(a1.size:Int):=jK;have dO:=bt_at a1 t155;replace cL:=vI cL;replace cM:=vI cM;go_wp2;go_meet
               case rel=>exact⟨_,(((bt a1 t155) !=41)),(by first|rfl|(simp;done)|(simp[*];done)),H',⟨by have:=ad.out;have:=aO.out;first|omega|exact Nat.le_refl _⟩,by repeat(first|exact Drawn0.refl _|apply Drawn0.step)⟩
            case rest=>
             clear bn;obtain⟨kq,af,rfl,HA,dP,⟨dQ,rfl⟩⟩:=hcut;cases kq with
             |zero=>exact absurd HA.out (by simp[gl.j3])
             |succ BC=>
              have H:=HA.out;clear HA;simp only[gl.j3]at H;by_cases bF:af=true
              ·subst bF;rw[if_pos rfl]at H;obtain⟨rfl,rfl⟩:=s2 H;go_wp2;go_ret2;exact vn
              ·replace bF:=uZ bF;subst bF;rw[if_neg vR]at H;obtain⟨dA,H⟩:=vJ H;obtain⟨dB,H⟩:=vJ H;rcases iT H with⟨aT,H⟩|⟨aT,H⟩
               ·obtain⟨b6,b7⟩:=vl aT;clear aT;obtain⟨t156,dC,H⟩:=bE H;try dsimp only at H
                obtain⟨rfl,rfl⟩:=s2 H;have av:0≤(t153:Int):=jK;have aw:t153<(a1.size:Int):=jK;have bq:=bt_at a1 t153;replace av:=vI av;replace aw:=vI aw;go_wp2_with (first|(refine gB (some 141) Tryz.func54 #[.int .i64 t152,.int .i64 t154] rfl ?_;(with_reducible refine(jB.calls BC t152 t154 t156 _ dC.out).mono ?_);rintro e w' ⟨rfl,⟨nd,rfl⟩⟩;refine⟨_,rfl,?_⟩));go_ret2;exact vn
               ·obtain⟨b6,b7⟩:=vk aT;rcases iT H with⟨aU,H⟩|⟨aU,H⟩
                ·obtain⟨b8,b9⟩:=vl aU;clear aU;obtain⟨t157,dD,H⟩:=bE H;try dsimp only at H
                 obtain⟨rfl,rfl⟩:=s2 H;have av:0≤(t153:Int):=jK;have aw:t153<(a1.size:Int):=jK;have bq:=bt_at a1 t153;replace av:=vI av;replace aw:=vI aw;go_wp2_with (first|(refine gB (some 148) Tryz.func111 #[.int .i64 t152,.int .i64 t154] rfl ?_;(with_reducible refine(kt.calls BC t152 t154 t157 _ dD.out).mono ?_);rintro e w' ⟨rfl,⟨nd,rfl⟩⟩;refine⟨_,rfl,?_⟩));go_ret2;exact vn
                ·obtain⟨b8,b9⟩:=vk aU;rcases iT H with⟨aV,H⟩|⟨aV,H⟩
                 ·obtain⟨ca,cb⟩:=vl aV;clear aV;obtain⟨t158,dE,H⟩:=bE H;try dsimp only at H
                  obtain⟨rfl,rfl⟩:=s2 H;have av:0≤(t153:Int):=jK;have aw:t153<(a1.size:Int):=jK;have bq:=bt_at a1 t153;replace av:=vI av;replace aw:=vI aw;go_wp2_with (first|(refine gB (some 157) Tryz.func111 #[.int .i64 (wrap64 (t149 - t152)),.int .i64 t154] rfl ?_;(with_reducible refine(kt.calls BC (wrap64 (t149 - t152)) t154 t158 _ dE.out).mono ?_);rintro e w' ⟨rfl,⟨nd,rfl⟩⟩;refine⟨_,rfl,?_⟩));go_ret2;exact vn
                 ·obtain⟨ca,cb⟩:=vk aV;obtain⟨rfl,rfl⟩:=s2 H;have av:0≤(t153:Int):=jK;have aw:t153<(a1.size:Int):=jK;have bq:=bt_at a1 t153;replace av:=vI av;replace aw:=vI aw;go_wp2;go_ret2;exact vn
        ·obtain⟨b1,b4⟩:=vk aS;obtain⟨rfl,rfl⟩:=s2 H;have ao:0≤(a2:Int):=jK;have aq:a2<(a1.size:Int):=jK;have bg:=bt_at a1 a2;replace ao:=vI ao;replace aq:=vI aq;have bj:0≤(a2:Int):=jK;have bk:a2<(a1.size:Int):=jK;have cG:=bt_at a1 a2;replace bj:=vI bj;replace bk:=vI bk;go_wp2;go_ret2;exact vn
def iM.j0:Nat→Int→ByteArray→Bool→Option (Int×Bool)
 |0,_,_,_=>none
 |k+1,x0,x1,x15=>if x15=true then(some ((-1),false))else((gl.f k x0 x1 0).bind fun br=>(if br.2=(x1.size:Int)then(some (br.1,true))else(some ((-1),false))))
def iM.f (k:Nat) (a0:Int) (a1:ByteArray):Option (Int×Bool):=(kj.f a0 1 3).bind fun t159=>(if t159=true then(iM.j0 k a0 a1 (decide ((a1.size:Int)>120)))else(iM.j0 k a0 a1 true))
theorem iM.gF:∀k,(∀y0 y1 y2,ku (iM.j0 k y0 y1 y2) (iM.j0 (k+1) y0 y1 y2))
 |0=>fun _ _ _=> .z (by simp only[iM.j0])
 |k+1=>by
  have i0:=iM.gF k;exact fun _ _ _=>by unfold iM.j0;infer_instance
instance iM.mo {k a0 a1}:ku (iM.f k a0 a1) (iM.f (k+1) a0 a1):=by have i0:=iM.gF k;unfold iM.f;infer_instance
theorem iM.calls (k:Nat) (a0:Int) (a1:ByteArray) (r1:Int) (r2:Bool) (w:World) (h:iM.f k a0 a1=some (r1,r2)):
  Calls Tryz.prog 51 #[.int .i64 a0,.string a1] w fun e w'=>e= .returned (.tuple #[.int .i64 r1,.bool r2])∧Drawn0 w w':=by
 have H:=h;clear h;unfold iM.f at H;have cc:=bm H;clear H;go_enter Tryz.func51,Tryz.ntmps51;go_upto_region 1 with(fail)
 go_cut [15] (fun dF wc=>∃(kq:Nat) (aH:Bool),dF= .bool aH∧gm (iM.j0 kq a0 a1 aH=some (r1,r2))∧gm (kq≤k)∧Drawn0 w wc)
 case first=>
  have H:=cc.out;clear cc;obtain⟨t159,A4,H⟩:=bE H;try dsimp only at H
  by_cases c5:t159=true
  ·subst c5;rw[if_pos rfl]at H;have H':=bm H;clear H;go_wp2_with (first|(refine gB (some 9) Tryz.func100 #[.int .i64 a0,.int .i64 1,.int .i64 3] rfl ?_;(with_reducible refine(kj.calls a0 1 3 true _ A4.out).mono ?_);rintro e w' ⟨rfl,⟨nd,rfl⟩⟩;refine⟨_,rfl,?_⟩));go_meet
   case rel=>exact⟨_,(decide ((a1.size:Int)>120)),(by first|rfl|(simp;done)|(simp[*];done)),H',⟨by first|omega|exact Nat.le_refl _⟩,by repeat(first|exact Drawn0.refl _|apply Drawn0.step)⟩
  ·replace c5:=uZ c5;subst c5;rw[if_neg vR]at H;have H':=bm H;clear H;go_wp2_with (first|(refine gB (some 9) Tryz.func100 #[.int .i64 a0,.int .i64 1,.int .i64 3] rfl ?_;(with_reducible refine(kj.calls a0 1 3 false _ A4.out).mono ?_);rintro e w' ⟨rfl,⟨nd,rfl⟩⟩;refine⟨_,rfl,?_⟩));go_meet
   case rel=>exact⟨_,(true),(by first|rfl|(simp;done)|(simp[*];done)),H',⟨by first|omega|exact Nat.le_refl _⟩,by repeat(first|exact Drawn0.refl _|apply Drawn0.step)⟩
 case rest=>
  clear cc;obtain⟨kq,aH,rfl,HA,dR,⟨dS,rfl⟩⟩:=hcut;cases kq with
  |zero=>exact absurd HA.out (by simp[iM.j0])
  |succ Aa=>
   have H:=HA.out;clear HA;simp only[iM.j0]at H;by_cases c6:aH=true
   ·subst c6;rw[if_pos rfl]at H;obtain⟨rfl,rfl⟩:=s2 H;go_wp2;go_ret2;exact vn
   ·replace c6:=uZ c6;subst c6;rw[if_neg vR]at H;obtain⟨⟨t160,t161⟩,A7,H⟩:=bE H;try dsimp only at H
    rcases iT H with⟨c8,H⟩|⟨c8,H⟩
    ·obtain⟨bs,cP⟩:=vl c8;clear c8;obtain⟨rfl,rfl⟩:=s2 H;go_wp2_with (first|(refine gB (some 19) Tryz.func109 #[.int .i64 a0,.string a1,.int .i64 0] rfl ?_;(with_reducible refine(gl.calls Aa a0 a1 0 t160 t161 _ A7.out).mono ?_);rintro e w' ⟨rfl,⟨nd,rfl⟩⟩;refine⟨_,rfl,?_⟩));go_ret2;exact vn
    ·obtain⟨bs,cP⟩:=vk c8;obtain⟨rfl,rfl⟩:=s2 H;go_wp2_with (first|(refine gB (some 19) Tryz.func109 #[.int .i64 a0,.string a1,.int .i64 0] rfl ?_;(with_reducible refine(gl.calls Aa a0 a1 0 t160 t161 _ A7.out).mono ?_);rintro e w' ⟨rfl,⟨nd,rfl⟩⟩;refine⟨_,rfl,?_⟩));go_ret2;exact vn
mutual
def iy.l0:Nat→List Int→Int→Int→Int→Option (Int)
 |0,_,_,_,_=>none
 |k+1,x0,x1,x5,x6=>if x6<(x0.length:Int)then((jM.f x1 x6).bind fun t162=>(if t162=1 then(if 0≤x6 then(iy.l0 k x0 x1 (mn x5 (rd x0 x6)) (wrap64 (x6+1)))else(none))else(iy.l0 k x0 x1 x5 (wrap64 (x6+1)))))else(iy.l1 k x0 x1 x5 0 0)
def iy.l1:Nat→List Int→Int→Int→Int→Int→Option (Int)
 |0,_,_,_,_,_=>none
 |k+1,x0,x1,x5,x7,x8=>if x8<(x0.length:Int)then((jM.f x1 x8).bind fun t164=>(if t164=1 then(if 0≤x8 then(if(rd x0 x8)=x5 then(iy.l1 k x0 x1 x5 (wrap64 (x7+(shl .i64 1 x8))) (wrap64 (x8+1)))else(iy.l1 k x0 x1 x5 x7 (wrap64 (x8+1))))else(none))else(iy.l1 k x0 x1 x5 x7 (wrap64 (x8+1)))))else(some x7)
end
def iy.f (k:Nat) (l0:List Int) (a1:Int):Option (Int):=iy.l0 k l0 a1 10 0
theorem iy.gF:∀k,(∀y0 y1 y2 y3,ku (iy.l0 k y0 y1 y2 y3) (iy.l0 (k+1) y0 y1 y2 y3))∧(∀y0 y1 y2 y3 y4,ku (iy.l1 k y0 y1 y2 y3 y4) (iy.l1 (k+1) y0 y1 y2 y3 y4))
 |0=>⟨fun _ _ _ _=> .z (by simp only[iy.l0]),fun _ _ _ _ _=> .z (by simp only[iy.l1])⟩
 |k+1=>by
  have⟨i0,i1⟩:=iy.gF k;exact⟨fun _ _ _ _=>by unfold iy.l0;infer_instance,fun _ _ _ _ _=>by unfold iy.l1;infer_instance⟩
instance iy.mo {k a0 a1}:ku (iy.f k a0 a1) (iy.f (k+1) a0 a1):=by have⟨i0,i1⟩:=iy.gF k;unfold iy.f;infer_instance
theorem iy.calls (k:Nat) (A0:Option Addr) (c0:Nat) (l0:List Int) (a1:Int) (r:Int) (w:World) (cQ:Kd.C (Kd.int .i64) w A0 l0.length l0) (cR:l0.length≤c0) (h:iy.f k l0 a1=some r):
  Calls Tryz.prog 104 #[.slice A0 l0.length c0,.int .i64 a1] w fun e w'=>e= .returned (.int .i64 r)∧Below w.heap.size w w':=by
 have cd:=bm cQ;have dT:=bm cR;clear cQ cR;have HB:=bm (Below.refl w.heap.size w);have H:=h;clear h;unfold iy.f at H;have H':=bm H;clear H;go_enter Tryz.func104,Tryz.ntmps104;go_wp2;go_loopg [5,6] k (fun kq v5 v6 w'=>∃(ab:Int) (J:Int),v5= .int .i64 ab∧v6= .int .i64 J∧gm (iy.l0 kq l0 a1 ab J=some r)∧gm (kq≤k)∧gm (Below w.heap.size w w'))
 case atStart=>exact⟨(10),(0),(by first|rfl|(simp;done)|(simp[*];done)),(by first|rfl|(simp;done)|(simp[*];done)),H',⟨Nat.le_refl _⟩,⟨wZ HB⟩⟩
 case round=>
  clear H';obtain⟨ab,J,rfl,rfl,HA,aB,HB⟩:=hrel;cases gk with
  |zero=>exact absurd HA.out (by simp[iy.l0])
  |succ k1=>
   have H:=HA.out;clear HA;simp only[iy.l0]at H;rcases vL H with⟨cS,H⟩|⟨cS,H⟩
   ·obtain⟨t162,A4,H⟩:=bE H;try dsimp only at H
    rcases iT H with⟨c5,H⟩|⟨c5,H⟩
    ·obtain⟨cT,cU⟩:=vl c5;clear c5;obtain⟨cm,H⟩:=vJ H;obtain⟨cV,aJ⟩:∃j_:Int,(mn ab (rd l0 J))=j_:=⟨_,rfl⟩;first|rw[aJ]at H|simp only[aJ]at H
     (try rw[aJ]at A4);have dG:(if(rd l0 J)<ab then(rd l0 J)else ab)=cV:=aJ;have H':=bm H;clear H;go_wp2_with (first|(refine gB (some 17) Tryz.func107 #[.int .i64 a1,.int .i64 J] rfl ?_;(with_reducible refine(jM.calls a1 J t162 _ A4.out).mono ?_);rintro e w' ⟨rfl,⟨nd,rfl⟩⟩;refine⟨_,rfl,?_⟩;have bu:0≤(J:Int):=jK;have bw:J<(l0.length:Int):=jK;obtain⟨dH,cW,ax⟩:=Kd.at_int cd.out J bu bw;cases cW;replace ax:=vA HB ax;replace bu:=vI bu;replace bw:=vI bw));go_roundg k1
     case measure=>have:=aB.out;omega
     case rel=>exact⟨(cV),(wrap64 (J+1)),(by first|rfl|(simp;done)|(simp only[←aJ]<;>(first|rfl|simp))|(simp[*];done)),(by first|rfl|(simp;done)|(simp[*];done)),H',⟨by have:=aB.out;omega⟩,⟨wZ HB⟩⟩
    ·obtain⟨cT,cU⟩:=vk c5;have H':=bm H;clear H;go_wp2_with (first|(refine gB (some 17) Tryz.func107 #[.int .i64 a1,.int .i64 J] rfl ?_;(with_reducible refine(jM.calls a1 J t162 _ A4.out).mono ?_);rintro e w' ⟨rfl,⟨nd,rfl⟩⟩;refine⟨_,rfl,?_⟩));go_roundg k1
     case measure=>have:=aB.out;omega
     case rel=>exact⟨(ab),(wrap64 (J+1)),(by first|rfl|(simp;done)|(simp[*];done)),(by first|rfl|(simp;done)|(simp[*];done)),H',⟨by have:=aB.out;omega⟩,⟨wZ HB⟩⟩
   ·have H':=bm H;clear H;go_wp2;go_loopg [7,8] k1 (fun kq v7 v8 w'=>∃(aD:Int) (j:Int),v7= .int .i64 aD∧v8= .int .i64 j∧gm (iy.l1 kq l0 a1 ab aD j=some r)∧gm (kq≤k1)∧gm (Below w.heap.size w w'))
    case atStart=>exact⟨(0),(0),(by first|rfl|(simp;done)|(simp[*];done)),(by first|rfl|(simp;done)|(simp[*];done)),H',⟨Nat.le_refl _⟩,⟨wZ HB⟩⟩
    case round=>
     clear H';obtain⟨aD,j,rfl,rfl,HA,aF,HB⟩:=hrel;cases gk with
     |zero=>exact absurd HA.out (by simp[iy.l1])
     |succ k2=>
      have H:=HA.out;clear HA;simp only[iy.l1]at H;rcases vL H with⟨bs,H⟩|⟨bs,H⟩
      ·obtain⟨t164,A9,H⟩:=bE H;try dsimp only at H
       rcases iT H with⟨c10,H⟩|⟨c10,H⟩
       ·obtain⟨cf,cg⟩:=vl c10;clear c10;obtain⟨aY,H⟩:=vJ H;rcases iT H with⟨aW,H⟩|⟨aW,H⟩
        ·obtain⟨ch,cj⟩:=vl aW;clear aW;have dI:=vI (jK:0≤j);obtain⟨ay,ah⟩:∃j_:Int,(shl .i64 1 j)=j_:=⟨_,rfl⟩;first|rw[ah]at H|simp only[ah]at H
         (try rw[ah]at A9);have aP:(IntKind.i64.wrap (1*2^min j.toNat 64))=ay:=ah;have aQ:j≤64→(IntKind.i64.wrap (1*2^j.toNat))=ay:=shl_small ah;have dh:(IntKind.i64.wrap (2^min j.toNat 64))=ay:=by have h_:=aP;rw[Int.one_mul]at h_;exact h_
         have di:j≤64→(IntKind.i64.wrap (2^j.toNat))=ay:=fun bc=>by have h_:=aQ bc;rw[Int.one_mul]at h_;exact h_
         have dj:(wrap64 (1*2^min j.toNat 64))=ay:=(i64_w _).symm.trans aP;have dk:j≤64→(wrap64 (1*2^j.toNat))=ay:=fun h_=>(i64_w _).symm.trans (aQ h_)
         have H':=bm H;clear H;go_wp2_with (first|(refine gB (some 33) Tryz.func107 #[.int .i64 a1,.int .i64 j] rfl ?_;(with_reducible refine(jM.calls a1 j t164 _ A9.out).mono ?_);rintro e w' ⟨rfl,⟨nd,rfl⟩⟩;refine⟨_,rfl,?_⟩;have az:0≤(j:Int):=jK;have aA:j<(l0.length:Int):=jK;obtain⟨ck,bx,aa⟩:=Kd.at_int cd.out j az aA;cases bx;replace aa:=vA HB aa;replace az:=vI az;replace aA:=vI aA));go_roundg k2
         case measure=>have:=aB.out;have:=aF.out;omega
         case rel=>exact⟨(wrap64 (aD+(ay))),(wrap64 (j+1)),(by first|rfl|(simp;done)|(simp only[←ah]<;>(first|rfl|simp))|(simp[*];done)),(by first|rfl|(simp;done)|(simp[*];done)),H',⟨by have:=aB.out;have:=aF.out;omega⟩,⟨wZ HB⟩⟩
        ·obtain⟨ch,cj⟩:=vk aW;have H':=bm H;clear H;go_wp2_with (first|(refine gB (some 33) Tryz.func107 #[.int .i64 a1,.int .i64 j] rfl ?_;(with_reducible refine(jM.calls a1 j t164 _ A9.out).mono ?_);rintro e w' ⟨rfl,⟨nd,rfl⟩⟩;refine⟨_,rfl,?_⟩;have az:0≤(j:Int):=jK;have aA:j<(l0.length:Int):=jK;obtain⟨ck,bx,aa⟩:=Kd.at_int cd.out j az aA;cases bx;replace aa:=vA HB aa;replace az:=vI az;replace aA:=vI aA));go_roundg k2
         case measure=>have:=aB.out;have:=aF.out;omega
         case rel=>exact⟨(aD),(wrap64 (j+1)),(by first|rfl|(simp;done)|(simp[*];done)),(by first|rfl|(simp;done)|(simp[*];done)),H',⟨by have:=aB.out;have:=aF.out;omega⟩,⟨wZ HB⟩⟩
       ·obtain⟨cf,cg⟩:=vk c10;have H':=bm H;clear H;go_wp2_with (first|(refine gB (some 33) Tryz.func107 #[.int .i64 a1,.int .i64 j] rfl ?_;(with_reducible refine(jM.calls a1 j t164 _ A9.out).mono ?_);rintro e w' ⟨rfl,⟨nd,rfl⟩⟩;refine⟨_,rfl,?_⟩));go_roundg k2
        case measure=>have:=aB.out;have:=aF.out;omega
        case rel=>exact⟨(aD),(wrap64 (j+1)),(by first|rfl|(simp;done)|(simp[*];done)),(by first|rfl|(simp;done)|(simp[*];done)),H',⟨by have:=aB.out;have:=aF.out;omega⟩,⟨wZ HB⟩⟩
      ·obtain rfl:=vZ H;go_wp2;go_ret;exact vo HB
def js.f (a0:Int) (a1:Int):Option (Bool):=(kj.f a0 1 3).bind fun t166=>(if t166=true then((kG.f a0).bind fun t167=>((kj.f a1 0 t167).bind fun t168=>(some t168)))else(some false))
theorem js.calls (a0:Int) (a1:Int) (r:Bool) (w:World) (h:js.f a0 a1=some r):
  Calls Tryz.prog 106 #[.int .i64 a0,.int .i64 a1] w fun e w'=>e= .returned (.bool r)∧Drawn0 w w':=by
 have H:=h;clear h;unfold js.f at H;obtain⟨t166,A3,H⟩:=bE H;try dsimp only at H
 by_cases c4:t166=true
 ·subst c4;rw[if_pos rfl]at H;obtain⟨t167,A5,H⟩:=bE H;try dsimp only at H
  obtain⟨t168,A6,H⟩:=bE H;try dsimp only at H
  obtain rfl:=vZ H;go_enter Tryz.func106,Tryz.ntmps106;go_wp2_with (first|(refine gB (some 6) Tryz.func100 #[.int .i64 a0,.int .i64 1,.int .i64 3] rfl ?_;(with_reducible refine(kj.calls a0 1 3 true _ A3.out).mono ?_);rintro e w' ⟨rfl,⟨nd,rfl⟩⟩;refine⟨_,rfl,?_⟩)|(go_at_call 105;(with_reducible refine(kG.calls a0 t167 _ A5.out).mono ?_);rintro e w' ⟨rfl,⟨nd,rfl⟩⟩)|(go_at_call 100;(with_reducible refine(kj.calls a1 0 t167 t168 _ A6.out).mono ?_);rintro e w' ⟨rfl,⟨nd,rfl⟩⟩));go_ret;exact vn
 ·replace c4:=uZ c4;subst c4;rw[if_neg vR]at H;obtain rfl:=vZ H;go_enter Tryz.func106,Tryz.ntmps106;go_wp2_with (first|(refine gB (some 6) Tryz.func100 #[.int .i64 a0,.int .i64 1,.int .i64 3] rfl ?_;(with_reducible refine(kj.calls a0 1 3 false _ A3.out).mono ?_);rintro e w' ⟨rfl,⟨nd,rfl⟩⟩;refine⟨_,rfl,?_⟩));go_ret;exact vn
end Go.Proofs.YtihgpkohglcijaaGreatDoor.P
