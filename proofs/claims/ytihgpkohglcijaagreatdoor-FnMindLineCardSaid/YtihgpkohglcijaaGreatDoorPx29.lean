import Derived.Test.YtihgpkohglcijaaGreatDoorPx0
import Derived.Test.YtihgpkohglcijaaGreatDoorPx2
import Derived.Test.YtihgpkohglcijaaGreatDoorPx3
import Derived.Test.YtihgpkohglcijaaGreatDoorPx4
namespace Go.Proofs.YtihgpkohglcijaaGreatDoor.P
open Go.RowKit YtihgpkohglcijaaGreatDoorW PrintWords PrintLast PrintMore
attribute [local go_sem] max2_int min2_int max_two min_two max_three min_three max_four min_four
set_option linter.unusedVariables false
set_option linter.unusedSimpArgs false
set_option maxHeartbeats 8000000
set_option maxRecDepth 100000
def jY.l0:Nat→Int→Int→Int→Int→Option (Int)
 |0,_,_,_,_=>none
 |k+1,x0,x1,x5,x6=>if x6<3 then(if 0≤x6 then(if(Int.tmod (shr .i64 x0 x6) 2)=(Int.tmod (shr .i64 x1 x6) 2)then(jY.l0 k x0 x1 x5 (wrap64 (x6+1)))else(jY.l0 k x0 x1 (wrap64 (x5+1)) (wrap64 (x6+1))))else(none))else(some x5)
def jY.f (k:Nat) (a0:Int) (a1:Int):Option (Int):=jY.l0 k a0 a1 0 0
theorem jY.gF:∀k,(∀y0 y1 y2 y3,ku (jY.l0 k y0 y1 y2 y3) (jY.l0 (k+1) y0 y1 y2 y3))
 |0=>fun _ _ _ _=> .z (by simp only[jY.l0])
 |k+1=>by
  have i0:=jY.gF k;exact fun _ _ _ _=>by unfold jY.l0;infer_instance
instance jY.mo {k a0 a1}:ku (jY.f k a0 a1) (jY.f (k+1) a0 a1):=by have i0:=jY.gF k;unfold jY.f;infer_instance
theorem jY.calls (k:Nat) (a0:Int) (a1:Int) (r:Int) (w:World) (h:jY.f k a0 a1=some r):
  Calls Tryz.prog 139 #[.int .i64 a0,.int .i64 a1] w fun e w'=>e= .returned (.int .i64 r)∧Drawn0 w w':=by
 have H:=h;clear h;unfold jY.f at H;have H':=bm H;clear H;go_enter Tryz.func139,Tryz.ntmps139;go_wp2;repeat(go_quiet (fail);try go_wp2)
 go_loopg [5,6] k (fun kq v5 v6 w'=>∃(aZ:Int) (ad:Int),v5= .int .i64 aZ∧v6= .int .i64 ad∧gm (jY.l0 kq a0 a1 aZ ad=some r)∧gm (kq≤k)∧Drawn0 w w')
 case atStart=>exact⟨(0),(0),(by first|rfl|(simp;done)|(simp[*];done)),(by first|rfl|(simp;done)|(simp[*];done)),H',⟨Nat.le_refl _⟩,by repeat(first|exact Drawn0.refl _|apply Drawn0.step)⟩
 case round=>
  clear H';obtain⟨aZ,ad,rfl,rfl,HA,cb,⟨m1,rfl⟩⟩:=hrel;cases gk with
  |zero=>exact absurd HA.out (by simp[jY.l0])
  |succ k1=>
   have H:=HA.out;clear HA;simp only[jY.l0]at H;rcases vL H with⟨cy,H⟩|⟨cy,H⟩
   ·obtain⟨dG,dH,H⟩:=vK H;obtain⟨bx,bj⟩:∃j_:Int,(shr .i64 a0 ad)=j_:=⟨_,rfl⟩;first|rw[bj]at H|simp only[bj]at H
    have dn:(a0/2^min ad.toNat 64)=bx:=bj;have dp:ad≤64→(a0/2^ad.toNat)=bx:=shr_small bj;have dI:=vI (jK:0≤ad);obtain⟨bz,bk⟩:∃j_:Int,(shr .i64 a1 ad)=j_:=⟨_,rfl⟩;first|rw[bk]at H|simp only[bk]at H
    have dq:(a1/2^min ad.toNat 64)=bz:=bk;have dr:ad≤64→(a1/2^ad.toNat)=bz:=shr_small bk;rcases iT H with⟨c8,H⟩|⟨c8,H⟩
    ·obtain⟨cz,cA⟩:=vl c8;clear c8;have H':=bm H;clear H;go_wp2;repeat(go_quiet (fail);try go_wp2)
     go_roundg k1
     case measure=>have:=cb.out;omega
     case rel=>exact⟨(aZ),(wrap64 (ad+1)),(by first|rfl|(simp;done)|(simp[*];done)),(by first|rfl|(simp;done)|(simp[*];done)),H',⟨by have:=cb.out;omega⟩,by repeat(first|exact Drawn0.refl _|apply Drawn0.step)⟩
    ·obtain⟨cz,cA⟩:=vk c8;have H':=bm H;clear H;go_wp2;repeat(go_quiet (fail);try go_wp2)
     go_roundg k1
     case measure=>have:=cb.out;omega
     case rel=>exact⟨(wrap64 (aZ+1)),(wrap64 (ad+1)),(by first|rfl|(simp;done)|(simp[*];done)),(by first|rfl|(simp;done)|(simp[*];done)),H',⟨by have:=cb.out;omega⟩,by repeat(first|exact Drawn0.refl _|apply Drawn0.step)⟩
   ·obtain rfl:=vZ H;go_wp2;repeat(go_quiet (fail);try go_wp2)
    go_ret;exact vn
mutual
def ik.j0:Nat→Int→Int→List Int→Bool→Option (List Int)
 |0,_,_,_,_=>none
 |k+1,x0,x1,x5,x17=>if x17=true then(some x5)else(ik.l0 k x0 x1 x5 0)
def ik.l0:Nat→Int→Int→List Int→Int→Option (List Int)
 |0,_,_,_,_=>none
 |k+1,x0,x1,x5,x6=>if 0≤x0 then(if x6<(shl .i64 1 x0)then(ik.l1 k x0 x1 x5 x6 4 0)else(some x5))else(none)
def ik.l1:Nat→Int→Int→List Int→Int→Int→Int→Option (List Int)
 |0,_,_,_,_,_,_=>none
 |k+1,x0,x1,x5,x6,x7,x8=>if 0≤x0 then(if x8<(shl .i64 1 x0)then((jM.f x1 x8).bind fun aq=>(if aq=1 then((jY.f k x8 x6).bind fun aH=>(ik.l1 k x0 x1 x5 x6 (mn x7 aH) (wrap64 (x8+1))))else(ik.l1 k x0 x1 x5 x6 x7 (wrap64 (x8+1)))))else(if x5.length<17592186044416 then(ik.l0 k x0 x1 (x5++ [x7]) (wrap64 (x6+1)))else(none)))else(none)
end
def ik.f (k:Nat) (a0:Int) (a1:Int):Option (List Int):=(some (([]:List Int):List Int)).bind fun af=>((js.f a0 a1).bind fun aw=>(if aw=true then(ik.j0 k a0 a1 af (a1==0))else(ik.j0 k a0 a1 af true)))
theorem ik.gF:∀k,(∀y0 y1 y2 y3,ku (ik.j0 k y0 y1 y2 y3) (ik.j0 (k+1) y0 y1 y2 y3))∧(∀y0 y1 y2 y3,ku (ik.l0 k y0 y1 y2 y3) (ik.l0 (k+1) y0 y1 y2 y3))∧(∀y0 y1 y2 y3 y4 y5,ku (ik.l1 k y0 y1 y2 y3 y4 y5) (ik.l1 (k+1) y0 y1 y2 y3 y4 y5))
 |0=>⟨fun _ _ _ _=> .z (by simp only[ik.j0]),fun _ _ _ _=> .z (by simp only[ik.l0]),fun _ _ _ _ _ _=> .z (by simp only[ik.l1])⟩
 |k+1=>by
  have⟨i0,i1,i2⟩:=ik.gF k;exact⟨fun _ _ _ _=>by unfold ik.j0;infer_instance,fun _ _ _ _=>by unfold ik.l0;infer_instance,fun _ _ _ _ _ _=>by unfold ik.l1;infer_instance⟩
instance ik.mo {k a0 a1}:ku (ik.f k a0 a1) (ik.f (k+1) a0 a1):=by have⟨i0,i1,i2⟩:=ik.gF k;unfold ik.f;infer_instance
theorem ik.mono:∀a0 a1 k,LeO (ik.f k a0 a1) (ik.f (k+1) a0 a1):=fun _ _ _=>ik.mo.h
theorem ik.calls (k:Nat) (a0:Int) (a1:Int) (r:List Int) (w:World) (h:ik.f k a0 a1=some r):
  Calls Tryz.prog 112 #[.int .i64 a0,.int .i64 a1] w fun e w'=>∃cB:Value,e= .returned (cB)∧Kd.R (Kd.int .i64) 3 w' w.heap.size (fun _=>True) cB r∧Below w.heap.size w w':=by
 have HB:=bm (Below.refl w.heap.size w);have H:=h;clear h;unfold ik.f at H;obtain⟨af,bf⟩:∃y_:List Int,y_=(([]:List Int)):=⟨_,rfl⟩;replace H:((js.f a0 a1).bind fun aw=>(if aw=true then(ik.j0 k a0 a1 af (a1==0))else(ik.j0 k a0 a1 af true)))=some r:=by first|(rw[bf];exact H)|exact H
 have bH:=bm bf;clear bf;have cg:=bm H;clear H;go_enter Tryz.func112,Tryz.ntmps112;go_upto_region 2 with(first|((with_reducible refine gate_dst (N:=9) rfl ?_);refine Kd.R_lit (Kd.int .i64) _ 3 ?hg (N:=9) ?hd (xs:=([]:List Int)) (inner:=[]) (ok:=fun _=>True) (okp:=fun _=>True) ?hr ?hp (fun _ hk=>hk) trivial (Below.refl _ _) (Nat.le_refl _) (by simp) ?_;(case hd=>rfl);(case hg=>rfl);(case hr=>first|(go_simp;done)|(go_simp;rfl));(case hp=>exact(Reps.none _ _));intro cC _ bJ hb ds ch;clear ds ch;(first|rw[←bH.out]at bJ|(simp only[Int.reduceToNat]at bJ;rw[←bH.out]at bJ));have bO:=vm bJ HB;replace HB:=bW HB hb;clear hb bJ))
 (try simp only[Act.put,qA,qB,qC]);go_cut [17] (fun cj wc=>∃(kq:Nat) (aR:Bool),cj= .bool aR∧gm (ik.j0 kq a0 a1 af aR=some r)∧gm (kq≤k)∧gm (Kd.R (Kd.int .i64) 3 wc w.heap.size (fun _=>True) cC af)∧gm (Below w.heap.size w wc))
 case first=>
  have H:=cg.out;clear cg;obtain⟨aw,A6,H⟩:=bE H;try dsimp only at H
  by_cases c7:aw=true
  ·subst c7;rw[if_pos rfl]at H;have H':=bm H;clear H;go_wp2_with (first|(refine gB (some 12) Tryz.func106 #[.int .i64 a0,.int .i64 a1] rfl ?_;(with_reducible refine(js.calls a0 a1 true _ A6.out).mono ?_);rintro e w' ⟨rfl,⟨nd,rfl⟩⟩;refine⟨_,rfl,?_⟩));go_meet
   case rel=>exact⟨_,((a1==0)),(by first|rfl|(simp;done)|(simp[*];done)),H',⟨by first|omega|exact Nat.le_refl _⟩,⟨by(repeat apply Kd.RS);exact bO.out⟩,⟨wZ HB⟩⟩
  ·replace c7:=uZ c7;subst c7;rw[if_neg vR]at H;have H':=bm H;clear H;go_wp2_with (first|(refine gB (some 12) Tryz.func106 #[.int .i64 a0,.int .i64 a1] rfl ?_;(with_reducible refine(js.calls a0 a1 false _ A6.out).mono ?_);rintro e w' ⟨rfl,⟨nd,rfl⟩⟩;refine⟨_,rfl,?_⟩));go_meet
   case rel=>exact⟨_,(true),(by first|rfl|(simp;done)|(simp[*];done)),H',⟨by first|omega|exact Nat.le_refl _⟩,⟨by(repeat apply Kd.RS);exact bO.out⟩,⟨wZ HB⟩⟩
 case rest=>
  clear cg;obtain⟨kq,aR,rfl,HA,bA,lp,HB⟩:=hcut;cases kq with
  |zero=>exact absurd HA.out (by simp[ik.j0])
  |succ Aa=>
   have H:=HA.out;clear HA;simp only[ik.j0]at H;by_cases c8:aR=true
   ·subst c8;rw[if_pos rfl]at H;obtain rfl:=vZ H;go_wp2;go_ret;exact⟨_,by first|rfl|(simp[*,fM,fN]<;>rfl),by(repeat apply Kd.RS);exact lp.out,wZ HB⟩
   ·replace c8:=uZ c8;subst c8;rw[if_neg vR]at H;have H':=bm H;clear H;go_wp2;go_loopg [5,6] Aa (fun kq v5 v6 w'=>∃(ax:List Int) (ar:Int),v6= .int .i64 ar∧gm (ik.l0 kq a0 a1 ax ar=some r)∧gm (kq≤Aa)∧gm (Kd.R (Kd.int .i64) 3 w' w.heap.size (fun _=>True) v5 ax)∧gm (Below w.heap.size w w'))
    case atStart=>exact⟨(af),(0),(by first|rfl|(simp;done)|(simp[*];done)),H',⟨Nat.le_refl _⟩,⟨by(repeat apply Kd.RS);exact lp.out⟩,⟨wZ HB⟩⟩
    case round=>
     clear H';obtain⟨ax,ar,rfl,HA,ay,lp,HB⟩:=hrel;cases gk with
     |zero=>exact absurd HA.out (by simp[ik.l0])
     |succ k2=>
      have H:=HA.out;clear HA;simp only[ik.l0]at H;obtain⟨bT,bV,H⟩:=vK H;obtain⟨ae,J⟩:∃j_:Int,(shl .i64 1 a0)=j_:=⟨_,rfl⟩;first|rw[J]at H|simp only[J]at H
      have ai:(IntKind.i64.wrap (1*2^min a0.toNat 64))=ae:=J;have aj:a0≤64→(IntKind.i64.wrap (1*2^a0.toNat))=ae:=shl_small J;have bl:(IntKind.i64.wrap (2^min a0.toNat 64))=ae:=by have h_:=ai;rw[Int.one_mul]at h_;exact h_
      have bn:a0≤64→(IntKind.i64.wrap (2^a0.toNat))=ae:=fun az=>by have h_:=aj az;rw[Int.one_mul]at h_;exact h_
      have bo:(wrap64 (1*2^min a0.toNat 64))=ae:=(i64_w _).symm.trans ai;have bp:a0≤64→(wrap64 (1*2^a0.toNat))=ae:=fun h_=>(i64_w _).symm.trans (aj h_)
      rcases vL H with⟨bg,H⟩|⟨bg,H⟩
      ·have H':=bm H;clear H;go_wp2;go_loopg [7,8] k2 (fun kq v7 v8 w'=>∃(ak:Int) (ag:Int),v7= .int .i64 ak∧v8= .int .i64 ag∧gm (ik.l1 kq a0 a1 ax ar ak ag=some r)∧gm (kq≤k2)∧gm (Kd.R (Kd.int .i64) 3 w' w.heap.size (fun _=>True) u5 ax)∧gm (Below w.heap.size w w'))
       case atStart=>exact⟨(4),(0),(by first|rfl|(simp;done)|(simp[*];done)),(by first|rfl|(simp;done)|(simp[*];done)),H',⟨Nat.le_refl _⟩,⟨by(repeat apply Kd.RS);exact lp.out⟩,⟨wZ HB⟩⟩
       case round=>
        clear H';obtain⟨ak,ag,rfl,rfl,HA,bB,lp,HB⟩:=hrel;cases gk with
        |zero=>exact absurd HA.out (by simp[ik.l1])
        |succ k3=>
         have H:=HA.out;clear HA;simp only[ik.l1]at H;obtain⟨dt,du,H⟩:=vK H;obtain⟨aI,aT⟩:∃j_:Int,(shl .i64 1 a0)=j_:=⟨_,rfl⟩;(try clear ai);(try clear bl);(try clear bn);(try clear bp);(try clear bo);(try clear aj);first|rw[aT]at H|simp only[aT]at H
         have bq:(IntKind.i64.wrap (1*2^min a0.toNat 64))=aI:=aT;have br:a0≤64→(IntKind.i64.wrap (1*2^a0.toNat))=aI:=shl_small aT;have cX:(IntKind.i64.wrap (2^min a0.toNat 64))=aI:=by have h_:=bq;rw[Int.one_mul]at h_;exact h_
         have c0:a0≤64→(IntKind.i64.wrap (2^a0.toNat))=aI:=fun az=>by have h_:=br az;rw[Int.one_mul]at h_;exact h_
         have da:(wrap64 (1*2^min a0.toNat 64))=aI:=(i64_w _).symm.trans bq;have db:a0≤64→(wrap64 (1*2^a0.toNat))=aI:=fun h_=>(i64_w _).symm.trans (br h_)
         rcases vL H with⟨bZ,H⟩|⟨bZ,H⟩
         ·obtain⟨aq,b0,H⟩:=bE H;try dsimp only at H
          rcases iT H with⟨bD,H⟩|⟨bD,H⟩
          ·obtain⟨cl,cm⟩:=vl bD;clear bD;obtain⟨aH,cc,H⟩:=bE H;try dsimp only at H
           obtain⟨cd,an⟩:∃j_:Int,(mn ak aH)=j_:=⟨_,rfl⟩;first|rw[an]at H|simp only[an]at H
           (try rw[an]at b0);(try rw[an]at cc);have dc:(if aH<ak then aH else ak)=cd:=an;have H':=bm H;clear H;go_wp2_with (first|(refine gB (some 33) Tryz.func107 #[.int .i64 a1,.int .i64 ag] rfl ?_;(with_reducible refine(jM.calls a1 ag aq _ b0.out).mono ?_);rintro e w' ⟨rfl,⟨nd,rfl⟩⟩;refine⟨_,rfl,?_⟩)|(refine gB (some 38) Tryz.func139 #[.int .i64 ag,.int .i64 ar] rfl ?_;(with_reducible refine(jY.calls k3 ag ar aH _ cc.out).mono ?_);rintro e w' ⟨rfl,⟨nd,rfl⟩⟩;refine⟨_,rfl,?_⟩));go_roundg k3
           case measure=>have:=bA.out;have:=ay.out;have:=bB.out;omega
           case rel=>exact⟨(cd),(wrap64 (ag+1)),(by first|rfl|(simp;done)|(simp only[←an]<;>(first|rfl|simp))|(simp[*];done)),(by first|rfl|(simp;done)|(simp[*];done)),H',⟨by have:=bA.out;have:=ay.out;have:=bB.out;omega⟩,⟨by(repeat apply Kd.RS);exact lp.out⟩,⟨wZ HB⟩⟩
          ·obtain⟨cl,cm⟩:=vk bD;have H':=bm H;clear H;go_wp2_with (first|(refine gB (some 33) Tryz.func107 #[.int .i64 a1,.int .i64 ag] rfl ?_;(with_reducible refine(jM.calls a1 ag aq _ b0.out).mono ?_);rintro e w' ⟨rfl,⟨nd,rfl⟩⟩;refine⟨_,rfl,?_⟩));go_roundg k3
           case measure=>have:=bA.out;have:=ay.out;have:=bB.out;omega
           case rel=>exact⟨(ak),(wrap64 (ag+1)),(by first|rfl|(simp;done)|(simp[*];done)),(by first|rfl|(simp;done)|(simp[*];done)),H',⟨by have:=bA.out;have:=ay.out;have:=bB.out;omega⟩,⟨by(repeat apply Kd.RS);exact lp.out⟩,⟨wZ HB⟩⟩
         ·obtain⟨cD,H⟩:=iN H;have cn:=bm cD;clear cD;obtain⟨cf,bh⟩:∃y_:List Int,y_=(ax++ [ak]):=⟨_,rfl⟩;rw[←bh]at H
          have cp:=bm bh;clear bh;have H':=bm H;clear H;go_wp2_with (first|((with_reducible refine gate_builtin (b:=.append) (xs:= #[.tmp 40,.tmp 42]) rfl ?_);at_builtin;refine Kd.R_append (Kd.int .i64) (w0:=w) w.heap.size rfl (.tmp 40) (.tmp 42) 23 3 (.int .i64 0) 8 rfl Tryz.underlying23 info3 rfl (by decide) (by omega) u5 ax ak [.int .i64 ak] (fun _=>True) (fun _=>False) rfl rfl ?aP (fun _ hk=>hk.elim) ?aF ?aO ?aB ?aS ?aL ?_;(case aP=>exact rfl);(case aB=>exact(wZ HB));(case aF=>exact(fun _ _=>trivial));(case aO=>exact(rS lp));(case aS=>exact(below_size (wZ HB)));(case aL=>have:=cn.out;omega);intro _ _ ho hb hg dv;rw[←cp.out]at ho;replace HB:=bm (hb);have cq:=bm (ho);clear lp;clear ho hb hg dv));go_roundg k3
          case measure=>have:=bA.out;have:=ay.out;have:=bB.out;omega
          case rel=>exact⟨(cf),(wrap64 (ar+1)),(by first|rfl|(simp;done)|(simp[*];done)),H',⟨by have:=bA.out;have:=ay.out;have:=bB.out;omega⟩,⟨by(repeat apply Kd.RS);exact cq.out⟩,⟨wZ HB⟩⟩
      ·obtain rfl:=vZ H;go_wp2;go_ret;exact⟨_,by first|rfl|(simp[fM,fN]<;>rfl)|(simp only[←J];first|rfl|(simp[fM,fN]<;>rfl))|(simp[*,fM,fN]<;>rfl),by(repeat apply Kd.RS);exact lp.out,wZ HB⟩
def jr.j0:Nat→Int→Int→Int→Bool→Option (Int)
 |0,_,_,_,_=>none
 |k+1,x0,x1,x2,x16=>if x16=true then(some (-1))else(if x1=0 then(some x2)else((ik.f k x0 x1).bind fun a6=>((iy.f k a6 x2).bind fun b1=>(some b1))))
def jr.f (k:Nat) (a0:Int) (a1:Int) (a2:Int):Option (Int):=(js.f a0 a1).bind fun a7=>(if a7=true then((js.f a0 a2).bind fun aJ=>(jr.j0 k a0 a1 a2 (!aJ)))else(jr.j0 k a0 a1 a2 true))
theorem jr.gF:∀k,(∀y0 y1 y2 y3,ku (jr.j0 k y0 y1 y2 y3) (jr.j0 (k+1) y0 y1 y2 y3))
 |0=>fun _ _ _ _=> .z (by simp only[jr.j0])
 |k+1=>by
  have i0:=jr.gF k;exact fun _ _ _ _=>by unfold jr.j0;infer_instance
instance jr.mo {k a0 a1 a2}:ku (jr.f k a0 a1 a2) (jr.f (k+1) a0 a1 a2):=by have i0:=jr.gF k;unfold jr.f;infer_instance
theorem jr.calls (k:Nat) (a0:Int) (a1:Int) (a2:Int) (r:Int) (w:World) (h:jr.f k a0 a1 a2=some r):
  Calls Tryz.prog 58 #[.int .i64 a0,.int .i64 a1,.int .i64 a2] w fun e w'=>e= .returned (.int .i64 r)∧Below w.heap.size w w':=by
 have HB:=bm (Below.refl w.heap.size w);have H:=h;clear h;unfold jr.f at H;have aC:=bm H;clear H;go_enter Tryz.func58,Tryz.ntmps58;go_upto_region 1 with(fail)
 go_cut [16] (fun dw wc=>∃(kq:Nat) (aV:Bool),dw= .bool aV∧gm (jr.j0 kq a0 a1 a2 aV=some r)∧gm (kq≤k)∧gm (Below w.heap.size w wc))
 case first=>
  have H:=aC.out;clear aC;obtain⟨a7,A5,H⟩:=bE H;try dsimp only at H
  by_cases c6:a7=true
  ·subst c6;rw[if_pos rfl]at H;obtain⟨aJ,A7,H⟩:=bE H;try dsimp only at H
   have H':=bm H;clear H;go_wp2_with (first|(refine gB (some 9) Tryz.func106 #[.int .i64 a0,.int .i64 a1] rfl ?_;(with_reducible refine(js.calls a0 a1 true _ A5.out).mono ?_);rintro e w' ⟨rfl,⟨nd,rfl⟩⟩;refine⟨_,rfl,?_⟩)|(go_at_call 106;(with_reducible refine(js.calls a0 a2 aJ _ A7.out).mono ?_);rintro e w' ⟨rfl,⟨nd,rfl⟩⟩));go_meet
   case rel=>exact⟨_,(!aJ),(by first|rfl|(simp;done)|(simp[*];done)),H',⟨by first|omega|exact Nat.le_refl _⟩,⟨wZ HB⟩⟩
  ·replace c6:=uZ c6;subst c6;rw[if_neg vR]at H;have H':=bm H;clear H;go_wp2_with (first|(refine gB (some 9) Tryz.func106 #[.int .i64 a0,.int .i64 a1] rfl ?_;(with_reducible refine(js.calls a0 a1 false _ A5.out).mono ?_);rintro e w' ⟨rfl,⟨nd,rfl⟩⟩;refine⟨_,rfl,?_⟩));go_meet
   case rel=>exact⟨_,(true),(by first|rfl|(simp;done)|(simp[*];done)),H',⟨by first|omega|exact Nat.le_refl _⟩,⟨wZ HB⟩⟩
 case rest=>
  clear aC;obtain⟨kq,aV,rfl,HA,bF,HB⟩:=hcut;cases kq with
  |zero=>exact absurd HA.out (by simp[jr.j0])
  |succ oW=>
   have H:=HA.out;clear HA;simp only[jr.j0]at H;by_cases c8:aV=true
   ·subst c8;rw[if_pos rfl]at H;obtain rfl:=vZ H;go_wp2;go_ret;exact vo HB
   ·replace c8:=uZ c8;subst c8;rw[if_neg vR]at H;rcases iT H with⟨c9,H⟩|⟨c9,H⟩
    ·obtain⟨bT,bV⟩:=vl c9;clear c9;obtain rfl:=vZ H;go_wp2;go_ret;exact vo HB
    ·obtain⟨bT,bV⟩:=vk c9;obtain⟨a6,dx,H⟩:=bE H;try dsimp only at H
     obtain⟨b1,dy,H⟩:=bE H;try dsimp only at H
     obtain rfl:=vZ H;go_wp2_with (first|(refine gB (some 22) Tryz.func112 #[.int .i64 a0,.int .i64 a1] rfl ?_;(with_reducible refine(ik.calls oW a0 a1 a6 _ dx.out).mono ?_);rintro e _ ⟨_,rfl,cE,hb⟩;refine⟨_,rfl,?_⟩;have aD:=vm cE HB;replace HB:=bW HB hb;clear hb;(try clear cE);obtain⟨cF,cG,cH⟩:=Kd.R_slice aD.out;subst cH)|(refine gB (some 24) Tryz.func104 #[.slice cF a6.length cG,.int .i64 a2] rfl ?_;(with_reducible refine(iy.calls oW _ _ a6 a2 b1 _ ?_ ?_ dy.out).mono ?_);exact cZ (Kd.R_reads' aD.out).2.2;exact(Kd.R_reads' aD.out).2.1;rintro e _ ⟨rfl,hb⟩;refine⟨_,rfl,?_⟩;replace aD:=bR aD hb;replace HB:=bW HB hb;clear hb));go_ret;exact vo HB
mutual
def iH.j0:Nat→Int→Int→Int→Bool→Option (Int)
 |0,_,_,_,_=>none
 |k+1,x0,x1,x2,x18=>if x18=true then(some (-1))else(iH.l0 k x0 x1 x2 0 0)
def iH.l0:Nat→Int→Int→Int→Int→Int→Option (Int)
 |0,_,_,_,_,_=>none
 |k+1,x0,x1,x2,x7,x8=>if 0≤x0 then(if x8<(shl .i64 1 x0)then((jM.f x1 x8).bind fun au=>(if au=1 then(if 0≤x8 then((jr.f k x0 (shl .i64 1 x8) x2).bind fun a8=>((kt.f k x7 a8).bind fun bs=>(iH.l0 k x0 x1 x2 bs (wrap64 (x8+1)))))else(none))else(iH.l0 k x0 x1 x2 x7 (wrap64 (x8+1)))))else(some x7))else(none)
end
def iH.f (k:Nat) (a0:Int) (a1:Int) (a2:Int):Option (Int):=(js.f a0 a1).bind fun ba=>(if ba=true then((js.f a0 a2).bind fun aK=>(iH.j0 k a0 a1 a2 (!aK)))else(iH.j0 k a0 a1 a2 true))
theorem iH.gF:∀k,(∀y0 y1 y2 y3,ku (iH.j0 k y0 y1 y2 y3) (iH.j0 (k+1) y0 y1 y2 y3))∧(∀y0 y1 y2 y3 y4,ku (iH.l0 k y0 y1 y2 y3 y4) (iH.l0 (k+1) y0 y1 y2 y3 y4))
 |0=>⟨fun _ _ _ _=> .z (by simp only[iH.j0]),fun _ _ _ _ _=> .z (by simp only[iH.l0])⟩
 |k+1=>by
  have⟨i0,i1⟩:=iH.gF k;exact⟨fun _ _ _ _=>by unfold iH.j0;infer_instance,fun _ _ _ _ _=>by unfold iH.l0;infer_instance⟩
instance iH.mo {k a0 a1 a2}:ku (iH.f k a0 a1 a2) (iH.f (k+1) a0 a1 a2):=by have⟨i0,i1⟩:=iH.gF k;unfold iH.f;infer_instance
theorem iH.calls (k:Nat) (a0:Int) (a1:Int) (a2:Int) (r:Int) (w:World) (h:iH.f k a0 a1 a2=some r):
  Calls Tryz.prog 57 #[.int .i64 a0,.int .i64 a1,.int .i64 a2] w fun e w'=>e= .returned (.int .i64 r)∧Below w.heap.size w w':=by
 have HB:=bm (Below.refl w.heap.size w);have H:=h;clear h;unfold iH.f at H;have aC:=bm H;clear H;go_enter Tryz.func57,Tryz.ntmps57;go_upto_region 1 with(fail)
 go_cut [18] (fun dA wc=>∃(kq:Nat) (aW:Bool),dA= .bool aW∧gm (iH.j0 kq a0 a1 a2 aW=some r)∧gm (kq≤k)∧gm (Below w.heap.size w wc))
 case first=>
  have H:=aC.out;clear aC;obtain⟨ba,A5,H⟩:=bE H;try dsimp only at H
  by_cases c6:ba=true
  ·subst c6;rw[if_pos rfl]at H;obtain⟨aK,A7,H⟩:=bE H;try dsimp only at H
   have H':=bm H;clear H;go_wp2_with (first|(refine gB (some 11) Tryz.func106 #[.int .i64 a0,.int .i64 a1] rfl ?_;(with_reducible refine(js.calls a0 a1 true _ A5.out).mono ?_);rintro e w' ⟨rfl,⟨nd,rfl⟩⟩;refine⟨_,rfl,?_⟩)|(go_at_call 106;(with_reducible refine(js.calls a0 a2 aK _ A7.out).mono ?_);rintro e w' ⟨rfl,⟨nd,rfl⟩⟩));go_meet
   case rel=>exact⟨_,(!aK),(by first|rfl|(simp;done)|(simp[*];done)),H',⟨by first|omega|exact Nat.le_refl _⟩,⟨wZ HB⟩⟩
  ·replace c6:=uZ c6;subst c6;rw[if_neg vR]at H;have H':=bm H;clear H;go_wp2_with (first|(refine gB (some 11) Tryz.func106 #[.int .i64 a0,.int .i64 a1] rfl ?_;(with_reducible refine(js.calls a0 a1 false _ A5.out).mono ?_);rintro e w' ⟨rfl,⟨nd,rfl⟩⟩;refine⟨_,rfl,?_⟩));go_meet
   case rel=>exact⟨_,(true),(by first|rfl|(simp;done)|(simp[*];done)),H',⟨by first|omega|exact Nat.le_refl _⟩,⟨wZ HB⟩⟩
 case rest=>
  clear aC;obtain⟨kq,aW,rfl,HA,bF,HB⟩:=hcut;cases kq with
  |zero=>exact absurd HA.out (by simp[iH.j0])
  |succ oW=>
   have H:=HA.out;clear HA;simp only[iH.j0]at H;by_cases c8:aW=true
   ·subst c8;rw[if_pos rfl]at H;obtain rfl:=vZ H;go_wp2;go_ret;exact vo HB
   ·replace c8:=uZ c8;subst c8;rw[if_neg vR]at H;have H':=bm H;clear H;go_wp2;go_loopg [7,8] oW (fun kq v7 v8 w'=>∃(aM:Int) (j:Int),v7= .int .i64 aM∧v8= .int .i64 j∧gm (iH.l0 kq a0 a1 a2 aM j=some r)∧gm (kq≤oW)∧gm (Below w.heap.size w w'))
    case atStart=>exact⟨(0),(0),(by first|rfl|(simp;done)|(simp[*];done)),(by first|rfl|(simp;done)|(simp[*];done)),H',⟨Nat.le_refl _⟩,⟨wZ HB⟩⟩
    case round=>
     clear H';obtain⟨aM,j,rfl,rfl,HA,ay,HB⟩:=hrel;cases gk with
     |zero=>exact absurd HA.out (by simp[iH.l0])
     |succ k2=>
      have H:=HA.out;clear HA;simp only[iH.l0]at H;obtain⟨bT,bV,H⟩:=vK H;obtain⟨ae,J⟩:∃j_:Int,(shl .i64 1 a0)=j_:=⟨_,rfl⟩;first|rw[J]at H|simp only[J]at H
      have ai:(IntKind.i64.wrap (1*2^min a0.toNat 64))=ae:=J;have aj:a0≤64→(IntKind.i64.wrap (1*2^a0.toNat))=ae:=shl_small J;have bl:(IntKind.i64.wrap (2^min a0.toNat 64))=ae:=by have h_:=ai;rw[Int.one_mul]at h_;exact h_
      have bn:a0≤64→(IntKind.i64.wrap (2^a0.toNat))=ae:=fun az=>by have h_:=aj az;rw[Int.one_mul]at h_;exact h_
      have bo:(wrap64 (1*2^min a0.toNat 64))=ae:=(i64_w _).symm.trans ai;have bp:a0≤64→(wrap64 (1*2^a0.toNat))=ae:=fun h_=>(i64_w _).symm.trans (aj h_)
      rcases vL H with⟨bg,H⟩|⟨bg,H⟩
      ·obtain⟨au,cr,H⟩:=bE H;try dsimp only at H
       rcases iT H with⟨aE,H⟩|⟨aE,H⟩
       ·obtain⟨ct,cu⟩:=vl aE;clear aE;obtain⟨bZ,dB,H⟩:=vK H;obtain⟨av,ao⟩:∃j_:Int,(shl .i64 1 j)=j_:=⟨_,rfl⟩;first|rw[ao]at H|simp only[ao]at H
        (try rw[ao]at cr);have bu:(IntKind.i64.wrap (1*2^min j.toNat 64))=av:=ao;have bw:j≤64→(IntKind.i64.wrap (1*2^j.toNat))=av:=shl_small ao;have dd:(IntKind.i64.wrap (2^min j.toNat 64))=av:=by have h_:=bu;rw[Int.one_mul]at h_;exact h_
        have de:j≤64→(IntKind.i64.wrap (2^j.toNat))=av:=fun az=>by have h_:=bw az;rw[Int.one_mul]at h_;exact h_
        have df:(wrap64 (1*2^min j.toNat 64))=av:=(i64_w _).symm.trans bu;have dh:j≤64→(wrap64 (1*2^j.toNat))=av:=fun h_=>(i64_w _).symm.trans (bw h_)
        obtain⟨a8,dC,H⟩:=bE H;try dsimp only at H
        obtain⟨bs,cc,H⟩:=bE H;try dsimp only at H
        have H':=bm H;clear H;go_wp2_with (first|(refine gB (some 27) Tryz.func107 #[.int .i64 a1,.int .i64 j] rfl ?_;(with_reducible refine(jM.calls a1 j au _ cr.out).mono ?_);rintro e w' ⟨rfl,⟨nd,rfl⟩⟩;refine⟨_,rfl,?_⟩)|((with_reducible refine gate_callee (f:=58) rfl ?_);refine yI (some 34) rfl rfl Tryz.func58 (by kernel_rfl) rfl #[.int .i64 a0,.int .i64 av,.int .i64 a2] rfl (by(try simp only[List.map_toArray,List.map_cons,List.map_nil]);first|done|(simp only[ao];rfl)|rfl|(simp only[List.length_drop,List.length_take];rfl)) ?_;(with_reducible refine(jr.calls k2 a0 av a2 a8 _ dC.out).mono ?_);rintro e _ ⟨rfl,hb⟩;refine⟨_,rfl,?_⟩;replace HB:=bW HB hb;clear hb)|(refine gB (some 35) Tryz.func111 #[.int .i64 aM,.int .i64 a8] rfl ?_;(with_reducible refine(kt.calls k2 aM a8 bs _ cc.out).mono ?_);rintro e w' ⟨rfl,⟨nd,rfl⟩⟩;refine⟨_,rfl,?_⟩));go_roundg k2
        case measure=>have:=bF.out;have:=ay.out;omega
        case rel=>exact⟨(bs),(wrap64 (j+1)),(by first|rfl|(simp;done)|(simp[*];done)),(by first|rfl|(simp;done)|(simp[*];done)),H',⟨by have:=bF.out;have:=ay.out;omega⟩,⟨wZ HB⟩⟩
       ·obtain⟨ct,cu⟩:=vk aE;have H':=bm H;clear H;go_wp2_with (first|(refine gB (some 27) Tryz.func107 #[.int .i64 a1,.int .i64 j] rfl ?_;(with_reducible refine(jM.calls a1 j au _ cr.out).mono ?_);rintro e w' ⟨rfl,⟨nd,rfl⟩⟩;refine⟨_,rfl,?_⟩));go_roundg k2
        case measure=>have:=bF.out;have:=ay.out;omega
        case rel=>exact⟨(aM),(wrap64 (j+1)),(by first|rfl|(simp;done)|(simp[*];done)),(by first|rfl|(simp;done)|(simp[*];done)),H',⟨by have:=bF.out;have:=ay.out;omega⟩,⟨wZ HB⟩⟩
      ·obtain rfl:=vZ H;go_wp2;go_ret;exact⟨by first|rfl|(simp[fM,fN]<;>rfl)|(simp only[←J];first|rfl|(simp[fM,fN]<;>rfl))|(simp[*,fM,fN]<;>rfl),wZ HB⟩
def nh.f (a0:Int) (I:Int) (al:Int):Option (Bool):=(js.f a0 I).bind fun bb=>(if bb=true then((js.f a0 al).bind fun bc=>(if bc=true then(some (I !=0))else(some false)))else(some false))
theorem nh.calls (a0:Int) (I:Int) (al:Int) (r:Bool) (w:World) (h:nh.f a0 I al=some r):
  Calls Tryz.prog 113 #[.int .i64 a0,.agg #[.int .i64 I,.int .i64 al]] w fun e w'=>e= .returned (.bool r)∧Below w.heap.size w w':=by
 have cI:=Tryz.underlying76;have HB:=bm (Below.refl w.heap.size w);have H:=h;clear h;unfold nh.f at H;obtain⟨bb,A3,H⟩:=bE H;try dsimp only at H
 by_cases c4:bb=true
 subst c4;rw[if_pos rfl]at H;obtain⟨bc,A5,H⟩:=bE H;try dsimp only at H
 by_cases c6:bc=true
 subst c6;rw[if_pos rfl]at H;obtain rfl:=vZ H
 rotate_left
 replace c6:=uZ c6;subst c6;rw[if_neg vR]at H;obtain rfl:=vZ H
 rotate_left
 replace c4:=uZ c4;subst c4;rw[if_neg vR]at H;obtain rfl:=vZ H
 rotate_left
 all_goals(go_enter Tryz.func113,Tryz.ntmps113;go_wp2_with (first|(refine mK 3 #[.int .i64 I,.int .i64 al] 76 ?_;intro _ hg _ ah hb;have aG:=bm (ah);have b5:=bG HB hg;replace HB:=bW HB hb;clear hb ah hg;obtain⟨_,_,_,_⟩:=b2 aG)|(refine gB (some 8) Tryz.func106 #[.int .i64 a0,.int .i64 I] rfl ?_;(with_reducible refine(js.calls a0 I true _ A3.out).mono ?_);rintro e w' ⟨rfl,⟨nd,rfl⟩⟩;refine⟨_,rfl,?_⟩)|(go_at_call 106;(with_reducible refine(js.calls a0 al true _ A5.out).mono ?_);rintro e w' ⟨rfl,⟨nd,rfl⟩⟩)|(go_at_call 106;(with_reducible refine(js.calls a0 al false _ A5.out).mono ?_);rintro e w' ⟨rfl,⟨nd,rfl⟩⟩)|(refine gB (some 8) Tryz.func106 #[.int .i64 a0,.int .i64 I] rfl ?_;(with_reducible refine(js.calls a0 I false _ A3.out).mono ?_);rintro e w' ⟨rfl,⟨nd,rfl⟩⟩;refine⟨_,rfl,?_⟩)))
 iterate 3(go_ret;exact vo HB)
def jR.j0:Nat→List Int→Bool→Int→Int→Option (Bool)
 |0,_,_,_,_=>none
 |k+1,x1,x17,Ar,As=>if x17=true then(some false)else((iy.f k x1 Ar).bind fun aN=>((jB.f k aN As).bind fun ca=>(some (ca==aN))))
def jR.f (k:Nat) (a0:Int) (l1:List Int) (aa:Int) (ab:Int):Option (Bool):=(gY.f k a0 l1).bind fun bd=>(if bd=true then((nh.f a0 aa ab).bind fun aQ=>(jR.j0 k l1 (!aQ) aa ab))else(jR.j0 k l1 true aa ab))
theorem jR.gF:∀k,(∀y0 y1 y2 y3,ku (jR.j0 k y0 y1 y2 y3) (jR.j0 (k+1) y0 y1 y2 y3))
 |0=>fun _ _ _ _=> .z (by simp only[jR.j0])
 |k+1=>by
  have i0:=jR.gF k;exact fun _ _ _ _=>by unfold jR.j0;infer_instance
instance jR.mo {k a0 a1 a2 a3}:ku (jR.f k a0 a1 a2 a3) (jR.f (k+1) a0 a1 a2 a3):=by have i0:=jR.gF k;unfold jR.f;infer_instance
theorem jR.calls (k:Nat) (a0:Int) (A1:Option Addr) (c1:Nat) (l1:List Int) (aa:Int) (ab:Int) (r:Bool) (w:World) (cN:Kd.C (Kd.int .i64) w A1 l1.length l1) (cO:l1.length≤c1) (h:jR.f k a0 l1 aa ab=some r):
  Calls Tryz.prog 59 #[.int .i64 a0,.slice A1 l1.length c1,.agg #[.int .i64 aa,.int .i64 ab]] w fun e w'=>e= .returned (.bool r)∧Below w.heap.size w w':=by
 have cI:=Tryz.underlying76;have cv:=bm cN;have cw:=bm cO;clear cN cO;have HB:=bm (Below.refl w.heap.size w);have H:=h;clear h;unfold jR.f at H;have aC:=bm H;clear H;go_enter Tryz.func59,Tryz.ntmps59;go_upto_region 1 with(first|(refine mK 5 #[.int .i64 aa,.int .i64 ab] 76 ?_;intro cx hg _ ah hb;have o:=bm (ah);have dE:=bG HB hg;replace HB:=bW HB hb;clear hb ah hg))
 (try simp only[Act.put,qA,qB,qC]);go_cut [17] (fun cj wc=>∃(kq:Nat) (aY:Bool),cj= .bool aY∧gm (jR.j0 kq l1 aY aa ab=some r)∧gm (kq≤k)∧lE wc cx #[.int .i64 aa,.int .i64 ab] 76∧gm (Below w.heap.size w wc))
 case first=>
  have H:=aC.out;clear aC;obtain⟨bd,A6,H⟩:=bE H;try dsimp only at H
  by_cases c7:bd=true
  ·subst c7;rw[if_pos rfl]at H;obtain⟨aQ,A8,H⟩:=bE H;try dsimp only at H
   have H':=bm H;clear H;go_wp2_with (first|(refine gB (some 10) Tryz.func103 #[.int .i64 a0,.slice A1 l1.length c1] rfl ?_;(with_reducible refine(gY.calls k a0 _ _ l1 true _ ?_ ?_ A6.out).mono ?_);exact cY cv HB;exact cw.out;rintro e _ ⟨rfl,hb⟩;refine⟨_,rfl,?_⟩;replace o:=bU o hb;replace HB:=bW HB hb;clear hb;obtain⟨_,_,_,_⟩:=b2 o)|(go_at_call 113;(with_reducible refine(nh.calls a0 aa ab aQ _ A8.out).mono ?_);rintro e _ ⟨rfl,hb⟩;replace o:=bU o hb;replace HB:=bW HB hb;clear hb));go_meet
   case rel=>exact⟨_,(!aQ),(by first|rfl|(simp;done)|(simp[*];done)),H',⟨by first|omega|exact Nat.le_refl _⟩,⟨kS o⟩,⟨wZ HB⟩⟩
  ·replace c7:=uZ c7;subst c7;rw[if_neg vR]at H;have H':=bm H;clear H;go_wp2_with (first|(refine gB (some 10) Tryz.func103 #[.int .i64 a0,.slice A1 l1.length c1] rfl ?_;(with_reducible refine(gY.calls k a0 _ _ l1 false _ ?_ ?_ A6.out).mono ?_);exact cY cv HB;exact cw.out;rintro e _ ⟨rfl,hb⟩;refine⟨_,rfl,?_⟩;replace o:=bU o hb;replace HB:=bW HB hb;clear hb));go_meet
   case rel=>exact⟨_,(true),(by first|rfl|(simp;done)|(simp[*];done)),H',⟨by first|omega|exact Nat.le_refl _⟩,⟨kS o⟩,⟨wZ HB⟩⟩
 case rest=>
  clear aC;obtain⟨kq,aY,rfl,HA,bF,o,HB⟩:=hcut;cases kq with
  |zero=>exact absurd HA.out (by simp[jR.j0])
  |succ oW=>
   have H:=HA.out;clear HA;simp only[jR.j0]at H;by_cases aE:aY=true
   ·subst aE;rw[if_pos rfl]at H;obtain rfl:=vZ H;go_wp2;go_ret;exact vo HB
   ·replace aE:=uZ aE;subst aE;rw[if_neg vR]at H;obtain⟨aN,dF,H⟩:=bE H;try dsimp only at H
    obtain⟨ca,b0,H⟩:=bE H;try dsimp only at H
    obtain rfl:=vZ H;obtain⟨_,_,_,_⟩:=b2 o;go_wp2_with (first|(refine gB (some 21) Tryz.func104 #[.slice A1 l1.length c1,.int .i64 aa] rfl ?_;(with_reducible refine(iy.calls oW _ _ l1 aa aN _ ?_ ?_ dF.out).mono ?_);exact cY cv HB;exact cw.out;rintro e _ ⟨rfl,hb⟩;refine⟨_,rfl,?_⟩;replace o:=bU o hb;replace HB:=bW HB hb;clear hb;obtain⟨_,_,_,_⟩:=b2 o)|(refine gB (some 25) Tryz.func54 #[.int .i64 aN,.int .i64 ab] rfl ?_;(with_reducible refine(jB.calls oW aN ab ca _ b0.out).mono ?_);rintro e w' ⟨rfl,⟨nd,rfl⟩⟩;refine⟨_,rfl,?_⟩));go_ret;exact vo HB
end Go.Proofs.YtihgpkohglcijaaGreatDoor.P
