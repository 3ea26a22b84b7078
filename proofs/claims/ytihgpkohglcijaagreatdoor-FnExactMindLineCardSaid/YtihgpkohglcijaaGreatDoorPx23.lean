import Derived.Test.YtihgpkohglcijaaGreatDoorPx0
import Derived.Test.YtihgpkohglcijaaGreatDoorPx14
import Derived.Test.YtihgpkohglcijaaGreatDoorPx17
import Derived.Test.YtihgpkohglcijaaGreatDoorPx18
import Derived.Test.YtihgpkohglcijaaGreatDoorPx22
namespace Go.Proofs.YtihgpkohglcijaaGreatDoor.P
open Go.RowKit Go.Proofs.YtihgpkohglcijaaGreatDoorW.PrintWords Go.Proofs.YtihgpkohglcijaaGreatDoorW.PrintLast Go.Proofs.YtihgpkohglcijaaGreatDoorW.PrintMore
attribute [local go_sem] max2_int min2_int max_two min_two max_three min_three max_four min_four   -- for this text's walks alone
set_option linter.unusedVariables false
set_option linter.unusedSimpArgs false
set_option maxHeartbeats 8000000
set_option maxRecDepth 100000
mutual
def spec_FarFrom.j0:Nat→Int→Int→List Int→Bool→Option (List Int)
 |0,_,_,_,_=>none
 |k+1,x0,x1,x5,x17=>if x17=true then(some x5)else(spec_FarFrom.l0 k x0 x1 x5 0)
def spec_FarFrom.l0:Nat→Int→Int→List Int→Int→Option (List Int)
 |0,_,_,_,_=>none
 |k+1,x0,x1,x5,x6=>if 0≤x0 then(if x6<(shl .i64 1 x0)then(spec_FarFrom.l1 k x0 x1 x5 x6 4 0)else(some x5))else(none)
def spec_FarFrom.l1:Nat→Int→Int→List Int→Int→Int→Int→Option (List Int)
 |0,_,_,_,_,_,_=>none
 |k+1,x0,x1,x5,x6,x7,x8=>if 0≤x0 then(if x8<(shl .i64 1 x0)then((spec_l1Bit.f x1 x8).bind fun ao=>(if ao=1 then((spec_l5Apart.f k x8 x6).bind fun aG=>(spec_FarFrom.l1 k x0 x1 x5 x6 (mn x7 aG) (wrap64 (x8+1))))else(spec_FarFrom.l1 k x0 x1 x5 x6 x7 (wrap64 (x8+1)))))else(if x5.length<17592186044416 then(spec_FarFrom.l0 k x0 x1 (x5++ [x7]) (wrap64 (x6+1)))else(none)))else(none)
end
def spec_FarFrom.f (k:Nat) (a0:Int) (a1:Int):Option (List Int):=(some (([]:List Int):List Int)).bind fun ae=>((spec_SetOk.f a0 a1).bind fun av=>(if av=true then(spec_FarFrom.j0 k a0 a1 ae (a1==0))else(spec_FarFrom.j0 k a0 a1 ae true)))
theorem spec_FarFrom.mono_l:∀k,(∀y0 y1 y2 y3,MoR (spec_FarFrom.j0 k y0 y1 y2 y3) (spec_FarFrom.j0 (k+1) y0 y1 y2 y3))∧(∀y0 y1 y2 y3,MoR (spec_FarFrom.l0 k y0 y1 y2 y3) (spec_FarFrom.l0 (k+1) y0 y1 y2 y3))∧(∀y0 y1 y2 y3 y4 y5,MoR (spec_FarFrom.l1 k y0 y1 y2 y3 y4 y5) (spec_FarFrom.l1 (k+1) y0 y1 y2 y3 y4 y5))
 |0=>⟨fun _ _ _ _=> .z (by simp only[spec_FarFrom.j0]),fun _ _ _ _=> .z (by simp only[spec_FarFrom.l0]),fun _ _ _ _ _ _=> .z (by simp only[spec_FarFrom.l1])⟩
 |k+1=>by
  have⟨i0,i1,i2⟩:=spec_FarFrom.mono_l k;exact⟨fun _ _ _ _=>by unfold spec_FarFrom.j0;infer_instance,fun _ _ _ _=>by unfold spec_FarFrom.l0;infer_instance,fun _ _ _ _ _ _=>by unfold spec_FarFrom.l1;infer_instance⟩
instance spec_FarFrom.mo {k a0 a1}:MoR (spec_FarFrom.f k a0 a1) (spec_FarFrom.f (k+1) a0 a1):=by have⟨i0,i1,i2⟩:=spec_FarFrom.mono_l k;unfold spec_FarFrom.f;infer_instance
theorem spec_FarFrom.mono:∀a0 a1 k,LeO (spec_FarFrom.f k a0 a1) (spec_FarFrom.f (k+1) a0 a1):=fun _ _ _=>spec_FarFrom.mo.h
theorem spec_FarFrom.calls (k:Nat) (a0:Int) (a1:Int) (r:List Int) (w:World) (h:spec_FarFrom.f k a0 a1=some r):
  Calls Tryz.prog 112 #[.int .i64 a0,.int .i64 a1] w fun e w'=>∃cq:Value,e= .returned (cq)∧Kd.R (Kd.int .i64) 3 w' w.heap.size (fun _=>True) cq r∧Below w.heap.size w w':=by
 have HB:=Asd.mk (Below.refl w.heap.size w);have H:((some (([]:List Int):List Int)).bind fun ae=>((spec_SetOk.f a0 a1).bind fun av=>(if av=true then(spec_FarFrom.j0 k a0 a1 ae (a1==0))else(spec_FarFrom.j0 k a0 a1 ae true))))=some r:=h;clear h;obtain⟨ae,bc⟩:∃y_:List Int,y_=(([]:List Int)):=⟨_,rfl⟩;replace H:((spec_SetOk.f a0 a1).bind fun av=>(if av=true then(spec_FarFrom.j0 k a0 a1 ae (a1==0))else(spec_FarFrom.j0 k a0 a1 ae true)))=some r:=by first|(rw[bc];exact H)|exact H
 have bx:=Asd.mk bc;clear bc;have b8:=Asd.mk H;clear H;go_enter Tryz.func112,Tryz.ntmps112;go_upto_region 2 with(first|((with_reducible refine gate_dst (N:=9) rfl ?_);refine Kd.R_lit (Kd.int .i64) _ 3 ?hg (N:=9) ?hd (xs:=([]:List Int)) (inner:=[]) (ok:=fun _=>True) (okp:=fun _=>True) ?hr ?hp (fun _ hk=>hk) trivial (Below.refl _ _) (Nat.le_refl _) (by simp) ?_;(case hd=>rfl);(case hg=>rfl);(case hr=>first|(go_simp;done)|(go_simp;rfl));(case hp=>exact(Reps.none _ _));intro cr w4 bz hb db b9;clear db b9;(first|rw[←bx.out]at bz|(simp only[Int.reduceToNat]at bz;rw[←bx.out]at bz));have bA:=Asd.mk (Kd.R_lower bz (below_size (wZ HB)));replace HB:=bW HB hb;clear hb bz))
 (try simp only[Act.put,qA,qB,qC]);go_cut [17] (fun ca wc=>∃(kq:Nat) (aQ:Bool),ca= .bool aQ∧Asd (spec_FarFrom.j0 kq a0 a1 ae aQ=some r)∧Asd (kq≤k)∧Asd (Kd.R (Kd.int .i64) 3 wc w.heap.size (fun _=>True) cr ae)∧Asd (Below w.heap.size w wc))
 case first=>
  have H:=b8.out;clear b8;obtain⟨av,A6,H⟩:=bE H;try dsimp only at H
  by_cases c7:av=true
  ·subst c7;rw[if_pos rfl]at H;have H':=Asd.mk H;clear H;go_wp2_with (first|(refine gB (some 12) Tryz.func106 #[.int .i64 a0,.int .i64 a1] rfl ?_;(with_reducible refine(spec_SetOk.calls a0 a1 true _ A6.out).mono ?_);rintro e w' ⟨rfl,⟨nd,rfl⟩⟩;refine⟨_,rfl,?_⟩));go_meet
   case rel=>exact⟨_,((a1==0)),(by first|rfl|(simp;done)|(simp[*];done)),H',⟨by first|omega|exact Nat.le_refl _⟩,⟨by(repeat apply Kd.RS);exact bA.out⟩,⟨wZ HB⟩⟩
  ·replace c7:=Bool.eq_false_iff.mpr c7;subst c7;rw[if_neg (show¬(false=true) by decide)]at H;have H':=Asd.mk H;clear H;go_wp2_with (first|(refine gB (some 12) Tryz.func106 #[.int .i64 a0,.int .i64 a1] rfl ?_;(with_reducible refine(spec_SetOk.calls a0 a1 false _ A6.out).mono ?_);rintro e w' ⟨rfl,⟨nd,rfl⟩⟩;refine⟨_,rfl,?_⟩));go_meet
   case rel=>exact⟨_,(true),(by first|rfl|(simp;done)|(simp[*];done)),H',⟨by first|omega|exact Nat.le_refl _⟩,⟨by(repeat apply Kd.RS);exact bA.out⟩,⟨wZ HB⟩⟩
 case rest=>
  clear b8;obtain⟨kq,aQ,rfl,HA,br,HO_5,HB⟩:=hcut;cases kq with
  |zero=>exact absurd HA.out (by simp[spec_FarFrom.j0])
  |succ kj2=>
   have H:=HA.out;clear HA;simp only[spec_FarFrom.j0]at H;by_cases c8:aQ=true
   ·subst c8;rw[if_pos rfl]at H;obtain rfl:=Option.some.inj H;go_wp2;go_ret;exact⟨_,by first|rfl|(simp[*,errW_none,errW_some]<;>rfl),by(repeat apply Kd.RS);exact HO_5.out,wZ HB⟩
   ·replace c8:=Bool.eq_false_iff.mpr c8;subst c8;rw[if_neg (show¬(false=true) by decide)]at H;have H':=Asd.mk H;clear H;go_wp2;go_loopg [5,6] kj2 (fun kq v5 v6 w'=>∃(aw:List Int) (aq:Int),v6= .int .i64 aq∧Asd (spec_FarFrom.l0 kq a0 a1 aw aq=some r)∧Asd (kq≤kj2)∧Asd (Kd.R (Kd.int .i64) 3 w' w.heap.size (fun _=>True) v5 aw)∧Asd (Below w.heap.size w w'))
    case atStart=>exact⟨(ae),(0),(by first|rfl|(simp;done)|(simp[*];done)),H',⟨Nat.le_refl _⟩,⟨by(repeat apply Kd.RS);exact HO_5.out⟩,⟨wZ HB⟩⟩
    case round=>
     clear H';obtain⟨aw,aq,rfl,HA,ax,HO_5,HB⟩:=hrel;cases gk with
     |zero=>exact absurd HA.out (by simp[spec_FarFrom.l0])
     |succ k2=>
      have H:=HA.out;clear HA;simp only[spec_FarFrom.l0]at H;obtain⟨c9,H⟩:=iN H;have bB:=eq_true c9;have bD:=decide_eq_true c9;clear c9;obtain⟨ad,J⟩:∃j_:Int,(shl .i64 1 a0)=j_:=⟨_,rfl⟩;first|rw[J]at H|simp only[J]at H
      have ah:(IntKind.i64.wrap (1*2^min a0.toNat 64))=ad:=J;have ai:a0≤64→(IntKind.i64.wrap (1*2^a0.toNat))=ad:=shl_small J;have bg:(IntKind.i64.wrap (2^min a0.toNat 64))=ad:=by have h_:=ah;rw[Int.one_mul]at h_;exact h_
      have bh:a0≤64→(IntKind.i64.wrap (2^a0.toNat))=ad:=fun ay=>by have h_:=ai ay;rw[Int.one_mul]at h_;exact h_
      have bj:(wrap64 (1*2^min a0.toNat 64))=ad:=(i64_w _).symm.trans ah;have bk:a0≤64→(wrap64 (1*2^a0.toNat))=ad:=fun h_=>(i64_w _).symm.trans (ai h_)
      rcases iT H with⟨az,H⟩|⟨az,H⟩
      ·have bd:=decide_eq_true az;clear az;have H':=Asd.mk H;clear H;go_wp2;go_loopg [7,8] k2 (fun kq v7 v8 w'=>∃(aj:Int) (af:Int),v7= .int .i64 aj∧v8= .int .i64 af∧Asd (spec_FarFrom.l1 kq a0 a1 aw aq aj af=some r)∧Asd (kq≤k2)∧Asd (Kd.R (Kd.int .i64) 3 w' w.heap.size (fun _=>True) u5 aw)∧Asd (Below w.heap.size w w'))
       case atStart=>exact⟨(4),(0),(by first|rfl|(simp;done)|(simp[*];done)),(by first|rfl|(simp;done)|(simp[*];done)),H',⟨Nat.le_refl _⟩,⟨by(repeat apply Kd.RS);exact HO_5.out⟩,⟨wZ HB⟩⟩
       case round=>
        clear H';obtain⟨aj,af,rfl,rfl,HA,bs,HO_5,HB⟩:=hrel;cases gk with
        |zero=>exact absurd HA.out (by simp[spec_FarFrom.l1])
        |succ k3=>
         have H:=HA.out;clear HA;simp only[spec_FarFrom.l1]at H;obtain⟨cb,H⟩:=iN H;have dc:=eq_true cb;have dd:=decide_eq_true cb;clear cb;obtain⟨aH,aR⟩:∃j_:Int,(shl .i64 1 a0)=j_:=⟨_,rfl⟩;(try clear ah);(try clear bg);(try clear bh);(try clear bk);(try clear bj);(try clear ai);first|rw[aR]at H|simp only[aR]at H
         have bl:(IntKind.i64.wrap (1*2^min a0.toNat 64))=aH:=aR;have bn:a0≤64→(IntKind.i64.wrap (1*2^a0.toNat))=aH:=shl_small aR;have cN:(IntKind.i64.wrap (2^min a0.toNat 64))=aH:=by have h_:=bl;rw[Int.one_mul]at h_;exact h_
         have cO:a0≤64→(IntKind.i64.wrap (2^a0.toNat))=aH:=fun ay=>by have h_:=bn ay;rw[Int.one_mul]at h_;exact h_
         have cP:(wrap64 (1*2^min a0.toNat 64))=aH:=(i64_w _).symm.trans bl;have cQ:a0≤64→(wrap64 (1*2^a0.toNat))=aH:=fun h_=>(i64_w _).symm.trans (bn h_)
         rcases iT H with⟨aT,H⟩|⟨aT,H⟩
         ·have bF:=decide_eq_true aT;clear aT;obtain⟨ao,bH,H⟩:=bE H;try dsimp only at H
          rcases iT H with⟨bu,H⟩|⟨bu,H⟩
          ·have cc:(ao==1)=true:=beq_iff_eq.mpr bu;have cd:(ao !=1)=false:=bne_eq_false_iff_eq.mpr bu;clear bu;obtain⟨aG,b5,H⟩:=bE H;try dsimp only at H
           obtain⟨b6,al⟩:∃j_:Int,(mn aj aG)=j_:=⟨_,rfl⟩;first|rw[al]at H|simp only[al]at H
           (try rw[al]at bH);(try rw[al]at b5);have cR:(if aG<aj then aG else aj)=b6:=al;have H':=Asd.mk H;clear H;go_wp2_with (first|(refine gB (some 33) Tryz.func107 #[.int .i64 a1,.int .i64 af] rfl ?_;(with_reducible refine(spec_l1Bit.calls a1 af ao _ bH.out).mono ?_);rintro e w' ⟨rfl,⟨nd,rfl⟩⟩;refine⟨_,rfl,?_⟩)|(refine gB (some 38) Tryz.func139 #[.int .i64 af,.int .i64 aq] rfl ?_;(with_reducible refine(spec_l5Apart.calls k3 af aq aG _ b5.out).mono ?_);rintro e w' ⟨rfl,⟨nd,rfl⟩⟩;refine⟨_,rfl,?_⟩));go_roundg k3
           case measure=>have:=br.out;have:=ax.out;have:=bs.out;omega
           case rel=>exact⟨(b6),(wrap64 (af+1)),(by first|rfl|(simp;done)|(simp only[←al]<;>(first|rfl|simp))|(simp[*];done)),(by first|rfl|(simp;done)|(simp[*];done)),H',⟨by have:=br.out;have:=ax.out;have:=bs.out;omega⟩,⟨by(repeat apply Kd.RS);exact HO_5.out⟩,⟨wZ HB⟩⟩
          ·have cc:(ao==1)=false:=beq_eq_false_iff_ne.mpr bu;have cd:(ao !=1)=true:=bne_iff_ne.mpr bu;have H':=Asd.mk H;clear H;go_wp2_with (first|(refine gB (some 33) Tryz.func107 #[.int .i64 a1,.int .i64 af] rfl ?_;(with_reducible refine(spec_l1Bit.calls a1 af ao _ bH.out).mono ?_);rintro e w' ⟨rfl,⟨nd,rfl⟩⟩;refine⟨_,rfl,?_⟩));go_roundg k3
           case measure=>have:=br.out;have:=ax.out;have:=bs.out;omega
           case rel=>exact⟨(aj),(wrap64 (af+1)),(by first|rfl|(simp;done)|(simp[*];done)),(by first|rfl|(simp;done)|(simp[*];done)),H',⟨by have:=br.out;have:=ax.out;have:=bs.out;omega⟩,⟨by(repeat apply Kd.RS);exact HO_5.out⟩,⟨wZ HB⟩⟩
         ·have bF:=decide_eq_false aT;clear aT;obtain⟨ct,H⟩:=iN H;have cf:=Asd.mk ct;clear ct;obtain⟨b7,bf⟩:∃y_:List Int,y_=(aw++ [aj]):=⟨_,rfl⟩;replace H:(spec_FarFrom.l0 k3 a0 a1 b7 (wrap64 (aq+1)))=some r:=by first|(rw[bf];exact H)|exact H
          have cg:=Asd.mk bf;clear bf;have H':=Asd.mk H;clear H;go_wp2_with (first|((with_reducible refine gate_builtin (b:=.append) (xs:= #[.tmp 40,.tmp 42]) rfl ?_);at_builtin;refine Kd.R_append (Kd.int .i64) (w0:=w) w.heap.size rfl (.tmp 40) (.tmp 42) 23 3 (.int .i64 0) 8 rfl Tryz.underlying23 info3 rfl (by decide) (by omega) u5 aw aj [.int .i64 aj] (fun _=>True) (fun _=>False) rfl rfl ?aP (fun _ hk=>hk.elim) ?aF ?aO ?aB ?aS ?aL ?_;(case aP=>exact rfl);(case aB=>exact(wZ HB));(case aF=>exact(fun _ _=>trivial));(case aO=>exact(rS HO_5));(case aS=>exact(below_size (wZ HB)));(case aL=>have:=cf.out;omega);intro ds du ho hb hg de;rw[←cg.out]at ho;replace HB:=Asd.mk (hb);have ch:=Asd.mk (ho);clear HO_5;clear ho hb hg de));go_roundg k3
          case measure=>have:=br.out;have:=ax.out;have:=bs.out;omega
          case rel=>exact⟨(b7),(wrap64 (aq+1)),(by first|rfl|(simp;done)|(simp[*];done)),H',⟨by have:=br.out;have:=ax.out;have:=bs.out;omega⟩,⟨by(repeat apply Kd.RS);exact ch.out⟩,⟨wZ HB⟩⟩
      ·have bd:=decide_eq_false az;clear az;obtain rfl:=Option.some.inj H;go_wp2;go_ret;exact⟨_,by first|rfl|(simp[errW_none,errW_some]<;>rfl)|(simp only[←J];first|rfl|(simp[errW_none,errW_some]<;>rfl))|(simp[*,errW_none,errW_some]<;>rfl),by(repeat apply Kd.RS);exact HO_5.out,wZ HB⟩
def spec_NearestOf.j0:Nat→Int→Int→Int→Bool→Option (Int)
 |0,_,_,_,_=>none
 |k+1,x0,x1,x2,x16=>if x16=true then(some (-1))else(if x1=0 then(some x2)else((spec_FarFrom.f k x0 x1).bind fun aY=>((spec_l2Least.f k aY x2).bind fun bJ=>(some bJ))))
def spec_NearestOf.f (k:Nat) (a0:Int) (a1:Int) (a2:Int):Option (Int):=(spec_SetOk.f a0 a1).bind fun aZ=>(if aZ=true then((spec_SetOk.f a0 a2).bind fun aI=>(spec_NearestOf.j0 k a0 a1 a2 (!aI)))else(spec_NearestOf.j0 k a0 a1 a2 true))
theorem spec_NearestOf.mono_l:∀k,(∀y0 y1 y2 y3,MoR (spec_NearestOf.j0 k y0 y1 y2 y3) (spec_NearestOf.j0 (k+1) y0 y1 y2 y3))
 |0=>fun _ _ _ _=> .z (by simp only[spec_NearestOf.j0])
 |k+1=>by
  have i0:=spec_NearestOf.mono_l k;exact fun _ _ _ _=>by unfold spec_NearestOf.j0;infer_instance
instance spec_NearestOf.mo {k a0 a1 a2}:MoR (spec_NearestOf.f k a0 a1 a2) (spec_NearestOf.f (k+1) a0 a1 a2):=by have i0:=spec_NearestOf.mono_l k;unfold spec_NearestOf.f;infer_instance
theorem spec_NearestOf.calls (k:Nat) (a0:Int) (a1:Int) (a2:Int) (r:Int) (w:World) (h:spec_NearestOf.f k a0 a1 a2=some r):
  Calls Tryz.prog 58 #[.int .i64 a0,.int .i64 a1,.int .i64 a2] w fun e w'=>e= .returned (.int .i64 r)∧Below w.heap.size w w':=by
 have HB:=Asd.mk (Below.refl w.heap.size w);have H:((spec_SetOk.f a0 a1).bind fun aZ=>(if aZ=true then((spec_SetOk.f a0 a2).bind fun aI=>(spec_NearestOf.j0 k a0 a1 a2 (!aI)))else(spec_NearestOf.j0 k a0 a1 a2 true)))=some r:=h;clear h;have aA:=Asd.mk H;clear H;go_enter Tryz.func58,Tryz.ntmps58;go_upto_region 1 with(fail)
 go_cut [16] (fun df wc=>∃(kq:Nat) (aU:Bool),df= .bool aU∧Asd (spec_NearestOf.j0 kq a0 a1 a2 aU=some r)∧Asd (kq≤k)∧Asd (Below w.heap.size w wc))
 case first=>
  have H:=aA.out;clear aA;obtain⟨aZ,A5,H⟩:=bE H;try dsimp only at H
  by_cases c6:aZ=true
  ·subst c6;rw[if_pos rfl]at H;obtain⟨aI,A7,H⟩:=bE H;try dsimp only at H
   have H':=Asd.mk H;clear H;go_wp2_with (first|(refine gB (some 9) Tryz.func106 #[.int .i64 a0,.int .i64 a1] rfl ?_;(with_reducible refine(spec_SetOk.calls a0 a1 true _ A5.out).mono ?_);rintro e w' ⟨rfl,⟨nd,rfl⟩⟩;refine⟨_,rfl,?_⟩)|(go_at_call 106;(with_reducible refine(spec_SetOk.calls a0 a2 aI _ A7.out).mono ?_);rintro e w' ⟨rfl,⟨nd,rfl⟩⟩));go_meet
   case rel=>exact⟨_,(!aI),(by first|rfl|(simp;done)|(simp[*];done)),H',⟨by first|omega|exact Nat.le_refl _⟩,⟨wZ HB⟩⟩
  ·replace c6:=Bool.eq_false_iff.mpr c6;subst c6;rw[if_neg (show¬(false=true) by decide)]at H;have H':=Asd.mk H;clear H;go_wp2_with (first|(refine gB (some 9) Tryz.func106 #[.int .i64 a0,.int .i64 a1] rfl ?_;(with_reducible refine(spec_SetOk.calls a0 a1 false _ A5.out).mono ?_);rintro e w' ⟨rfl,⟨nd,rfl⟩⟩;refine⟨_,rfl,?_⟩));go_meet
   case rel=>exact⟨_,(true),(by first|rfl|(simp;done)|(simp[*];done)),H',⟨by first|omega|exact Nat.le_refl _⟩,⟨wZ HB⟩⟩
 case rest=>
  clear aA;obtain⟨kq,aU,rfl,HA,bw,HB⟩:=hcut;cases kq with
  |zero=>exact absurd HA.out (by simp[spec_NearestOf.j0])
  |succ kj3=>
   have H:=HA.out;clear HA;simp only[spec_NearestOf.j0]at H;by_cases c8:aU=true
   ·subst c8;rw[if_pos rfl]at H;obtain rfl:=Option.some.inj H;go_wp2;go_ret;exact⟨by first|rfl|(simp[*,errW_none,errW_some]<;>rfl),wZ HB⟩
   ·replace c8:=Bool.eq_false_iff.mpr c8;subst c8;rw[if_neg (show¬(false=true) by decide)]at H;rcases iT H with⟨c9,H⟩|⟨c9,H⟩
    ·have bB:(a1==0)=true:=beq_iff_eq.mpr c9;have bD:(a1 !=0)=false:=bne_eq_false_iff_eq.mpr c9;clear c9;obtain rfl:=Option.some.inj H;go_wp2;go_ret;exact⟨by first|rfl|(simp[*,errW_none,errW_some]<;>rfl),wZ HB⟩
    ·have bB:(a1==0)=false:=beq_eq_false_iff_ne.mpr c9;have bD:(a1 !=0)=true:=bne_iff_ne.mpr c9;obtain⟨aY,dh,H⟩:=bE H;try dsimp only at H
     obtain⟨bJ,di,H⟩:=bE H;try dsimp only at H
     obtain rfl:=Option.some.inj H;go_wp2_with (first|(refine gB (some 22) Tryz.func112 #[.int .i64 a0,.int .i64 a1] rfl ?_;(with_reducible refine(spec_FarFrom.calls kj3 a0 a1 aY _ dh.out).mono ?_);rintro e dj ⟨dt,rfl,cu,hb⟩;refine⟨_,rfl,?_⟩;have aC:=Asd.mk (Kd.R_lower cu (below_size (wZ HB)));replace HB:=bW HB hb;clear hb;(try clear cu);obtain⟨cv,cw,cx⟩:=Kd.R_slice aC.out;subst cx)|(refine gB (some 24) Tryz.func104 #[.slice cv aY.length cw,.int .i64 a2] rfl ?_;(with_reducible refine(spec_l2Least.calls kj3 _ _ aY a2 bJ _ ?side1 ?side2 di.out).mono ?_);(case side1=>exact cZ (Kd.R_reads' aC.out).2.2);(case side2=>exact(Kd.R_reads' aC.out).2.1);rintro e dv ⟨rfl,hb⟩;refine⟨_,rfl,?_⟩;replace aC:=bR aC hb;replace HB:=bW HB hb;clear hb));go_ret;exact⟨by first|rfl|(simp[*,errW_none,errW_some]<;>rfl),wZ HB⟩
mutual
def spec_UpdatedBy.j0:Nat→Int→Int→Int→Bool→Option (Int)
 |0,_,_,_,_=>none
 |k+1,x0,x1,x2,x18=>if x18=true then(some (-1))else(spec_UpdatedBy.l0 k x0 x1 x2 0 0)
def spec_UpdatedBy.l0:Nat→Int→Int→Int→Int→Int→Option (Int)
 |0,_,_,_,_,_=>none
 |k+1,x0,x1,x2,x7,x8=>if 0≤x0 then(if x8<(shl .i64 1 x0)then((spec_l1Bit.f x1 x8).bind fun ar=>(if ar=1 then(if 0≤x8 then((spec_NearestOf.f k x0 (shl .i64 1 x8) x2).bind fun a6=>((spec_l1Either.f k x7 a6).bind fun bo=>(spec_UpdatedBy.l0 k x0 x1 x2 bo (wrap64 (x8+1)))))else(none))else(spec_UpdatedBy.l0 k x0 x1 x2 x7 (wrap64 (x8+1)))))else(some x7))else(none)
end
def spec_UpdatedBy.f (k:Nat) (a0:Int) (a1:Int) (a2:Int):Option (Int):=(spec_SetOk.f a0 a1).bind fun a7=>(if a7=true then((spec_SetOk.f a0 a2).bind fun aJ=>(spec_UpdatedBy.j0 k a0 a1 a2 (!aJ)))else(spec_UpdatedBy.j0 k a0 a1 a2 true))
theorem spec_UpdatedBy.mono_l:∀k,(∀y0 y1 y2 y3,MoR (spec_UpdatedBy.j0 k y0 y1 y2 y3) (spec_UpdatedBy.j0 (k+1) y0 y1 y2 y3))∧(∀y0 y1 y2 y3 y4,MoR (spec_UpdatedBy.l0 k y0 y1 y2 y3 y4) (spec_UpdatedBy.l0 (k+1) y0 y1 y2 y3 y4))
 |0=>⟨fun _ _ _ _=> .z (by simp only[spec_UpdatedBy.j0]),fun _ _ _ _ _=> .z (by simp only[spec_UpdatedBy.l0])⟩
 |k+1=>by
  have⟨i0,i1⟩:=spec_UpdatedBy.mono_l k;exact⟨fun _ _ _ _=>by unfold spec_UpdatedBy.j0;infer_instance,fun _ _ _ _ _=>by unfold spec_UpdatedBy.l0;infer_instance⟩
instance spec_UpdatedBy.mo {k a0 a1 a2}:MoR (spec_UpdatedBy.f k a0 a1 a2) (spec_UpdatedBy.f (k+1) a0 a1 a2):=by have⟨i0,i1⟩:=spec_UpdatedBy.mono_l k;unfold spec_UpdatedBy.f;infer_instance
theorem spec_UpdatedBy.calls (k:Nat) (a0:Int) (a1:Int) (a2:Int) (r:Int) (w:World) (h:spec_UpdatedBy.f k a0 a1 a2=some r):
  Calls Tryz.prog 57 #[.int .i64 a0,.int .i64 a1,.int .i64 a2] w fun e w'=>e= .returned (.int .i64 r)∧Below w.heap.size w w':=by
 have HB:=Asd.mk (Below.refl w.heap.size w);have H:((spec_SetOk.f a0 a1).bind fun a7=>(if a7=true then((spec_SetOk.f a0 a2).bind fun aJ=>(spec_UpdatedBy.j0 k a0 a1 a2 (!aJ)))else(spec_UpdatedBy.j0 k a0 a1 a2 true)))=some r:=h;clear h;have aA:=Asd.mk H;clear H;go_enter Tryz.func57,Tryz.ntmps57;go_upto_region 1 with(fail)
 go_cut [18] (fun dk wc=>∃(kq:Nat) (aV:Bool),dk= .bool aV∧Asd (spec_UpdatedBy.j0 kq a0 a1 a2 aV=some r)∧Asd (kq≤k)∧Asd (Below w.heap.size w wc))
 case first=>
  have H:=aA.out;clear aA;obtain⟨a7,A5,H⟩:=bE H;try dsimp only at H
  by_cases c6:a7=true
  ·subst c6;rw[if_pos rfl]at H;obtain⟨aJ,A7,H⟩:=bE H;try dsimp only at H
   have H':=Asd.mk H;clear H;go_wp2_with (first|(refine gB (some 11) Tryz.func106 #[.int .i64 a0,.int .i64 a1] rfl ?_;(with_reducible refine(spec_SetOk.calls a0 a1 true _ A5.out).mono ?_);rintro e w' ⟨rfl,⟨nd,rfl⟩⟩;refine⟨_,rfl,?_⟩)|(go_at_call 106;(with_reducible refine(spec_SetOk.calls a0 a2 aJ _ A7.out).mono ?_);rintro e w' ⟨rfl,⟨nd,rfl⟩⟩));go_meet
   case rel=>exact⟨_,(!aJ),(by first|rfl|(simp;done)|(simp[*];done)),H',⟨by first|omega|exact Nat.le_refl _⟩,⟨wZ HB⟩⟩
  ·replace c6:=Bool.eq_false_iff.mpr c6;subst c6;rw[if_neg (show¬(false=true) by decide)]at H;have H':=Asd.mk H;clear H;go_wp2_with (first|(refine gB (some 11) Tryz.func106 #[.int .i64 a0,.int .i64 a1] rfl ?_;(with_reducible refine(spec_SetOk.calls a0 a1 false _ A5.out).mono ?_);rintro e w' ⟨rfl,⟨nd,rfl⟩⟩;refine⟨_,rfl,?_⟩));go_meet
   case rel=>exact⟨_,(true),(by first|rfl|(simp;done)|(simp[*];done)),H',⟨by first|omega|exact Nat.le_refl _⟩,⟨wZ HB⟩⟩
 case rest=>
  clear aA;obtain⟨kq,aV,rfl,HA,bw,HB⟩:=hcut;cases kq with
  |zero=>exact absurd HA.out (by simp[spec_UpdatedBy.j0])
  |succ kj3=>
   have H:=HA.out;clear HA;simp only[spec_UpdatedBy.j0]at H;by_cases c8:aV=true
   ·subst c8;rw[if_pos rfl]at H;obtain rfl:=Option.some.inj H;go_wp2;go_ret;exact⟨by first|rfl|(simp[*,errW_none,errW_some]<;>rfl),wZ HB⟩
   ·replace c8:=Bool.eq_false_iff.mpr c8;subst c8;rw[if_neg (show¬(false=true) by decide)]at H;have H':=Asd.mk H;clear H;go_wp2;go_loopg [7,8] kj3 (fun kq v7 v8 w'=>∃(aK:Int) (j:Int),v7= .int .i64 aK∧v8= .int .i64 j∧Asd (spec_UpdatedBy.l0 kq a0 a1 a2 aK j=some r)∧Asd (kq≤kj3)∧Asd (Below w.heap.size w w'))
    case atStart=>exact⟨(0),(0),(by first|rfl|(simp;done)|(simp[*];done)),(by first|rfl|(simp;done)|(simp[*];done)),H',⟨Nat.le_refl _⟩,⟨wZ HB⟩⟩
    case round=>
     clear H';obtain⟨aK,j,rfl,rfl,HA,ax,HB⟩:=hrel;cases gk with
     |zero=>exact absurd HA.out (by simp[spec_UpdatedBy.l0])
     |succ k2=>
      have H:=HA.out;clear HA;simp only[spec_UpdatedBy.l0]at H;obtain⟨c9,H⟩:=iN H;have bB:=eq_true c9;have bD:=decide_eq_true c9;clear c9;obtain⟨ad,J⟩:∃j_:Int,(shl .i64 1 a0)=j_:=⟨_,rfl⟩;first|rw[J]at H|simp only[J]at H
      have ah:(IntKind.i64.wrap (1*2^min a0.toNat 64))=ad:=J;have ai:a0≤64→(IntKind.i64.wrap (1*2^a0.toNat))=ad:=shl_small J;have bg:(IntKind.i64.wrap (2^min a0.toNat 64))=ad:=by have h_:=ah;rw[Int.one_mul]at h_;exact h_
      have bh:a0≤64→(IntKind.i64.wrap (2^a0.toNat))=ad:=fun ay=>by have h_:=ai ay;rw[Int.one_mul]at h_;exact h_
      have bj:(wrap64 (1*2^min a0.toNat 64))=ad:=(i64_w _).symm.trans ah;have bk:a0≤64→(wrap64 (1*2^a0.toNat))=ad:=fun h_=>(i64_w _).symm.trans (ai h_)
      rcases iT H with⟨az,H⟩|⟨az,H⟩
      ·have bd:=decide_eq_true az;clear az;obtain⟨ar,cj,H⟩:=bE H;try dsimp only at H
       rcases iT H with⟨aD,H⟩|⟨aD,H⟩
       ·have ck:(ar==1)=true:=beq_iff_eq.mpr aD;have cl:(ar !=1)=false:=bne_eq_false_iff_eq.mpr aD;clear aD;obtain⟨aT,H⟩:=iN H;have bF:=eq_true aT;have dm:=decide_eq_true aT;clear aT;obtain⟨au,an⟩:∃j_:Int,(shl .i64 1 j)=j_:=⟨_,rfl⟩;first|rw[an]at H|simp only[an]at H
        (try rw[an]at cj);have bp:(IntKind.i64.wrap (1*2^min j.toNat 64))=au:=an;have bq:j≤64→(IntKind.i64.wrap (1*2^j.toNat))=au:=shl_small an;have cS:(IntKind.i64.wrap (2^min j.toNat 64))=au:=by have h_:=bp;rw[Int.one_mul]at h_;exact h_
        have cT:j≤64→(IntKind.i64.wrap (2^j.toNat))=au:=fun ay=>by have h_:=bq ay;rw[Int.one_mul]at h_;exact h_
        have cU:(wrap64 (1*2^min j.toNat 64))=au:=(i64_w _).symm.trans bp;have cV:j≤64→(wrap64 (1*2^j.toNat))=au:=fun h_=>(i64_w _).symm.trans (bq h_)
        obtain⟨a6,dn,H⟩:=bE H;try dsimp only at H
        obtain⟨bo,b5,H⟩:=bE H;try dsimp only at H
        have H':=Asd.mk H;clear H;go_wp2_with (first|(refine gB (some 27) Tryz.func107 #[.int .i64 a1,.int .i64 j] rfl ?_;(with_reducible refine(spec_l1Bit.calls a1 j ar _ cj.out).mono ?_);rintro e w' ⟨rfl,⟨nd,rfl⟩⟩;refine⟨_,rfl,?_⟩)|((with_reducible refine gate_callee (f:=58) rfl ?_);refine gsL (some 34) rfl rfl Tryz.func58 (by kernel_rfl) rfl #[.int .i64 a0,.int .i64 au,.int .i64 a2] rfl (by(try simp only[List.map_toArray,List.map_cons,List.map_nil]);first|done|(simp only[an];rfl)|rfl|(simp only[List.length_drop,List.length_take];rfl)) ?_;(with_reducible refine(spec_NearestOf.calls k2 a0 au a2 a6 _ dn.out).mono ?_);rintro e dw ⟨rfl,hb⟩;refine⟨_,rfl,?_⟩;replace HB:=bW HB hb;clear hb)|(refine gB (some 35) Tryz.func111 #[.int .i64 aK,.int .i64 a6] rfl ?_;(with_reducible refine(spec_l1Either.calls k2 aK a6 bo _ b5.out).mono ?_);rintro e w' ⟨rfl,⟨nd,rfl⟩⟩;refine⟨_,rfl,?_⟩));go_roundg k2
        case measure=>have:=bw.out;have:=ax.out;omega
        case rel=>exact⟨(bo),(wrap64 (j+1)),(by first|rfl|(simp;done)|(simp[*];done)),(by first|rfl|(simp;done)|(simp[*];done)),H',⟨by have:=bw.out;have:=ax.out;omega⟩,⟨wZ HB⟩⟩
       ·have ck:(ar==1)=false:=beq_eq_false_iff_ne.mpr aD;have cl:(ar !=1)=true:=bne_iff_ne.mpr aD;have H':=Asd.mk H;clear H;go_wp2_with (first|(refine gB (some 27) Tryz.func107 #[.int .i64 a1,.int .i64 j] rfl ?_;(with_reducible refine(spec_l1Bit.calls a1 j ar _ cj.out).mono ?_);rintro e w' ⟨rfl,⟨nd,rfl⟩⟩;refine⟨_,rfl,?_⟩));go_roundg k2
        case measure=>have:=bw.out;have:=ax.out;omega
        case rel=>exact⟨(aK),(wrap64 (j+1)),(by first|rfl|(simp;done)|(simp[*];done)),(by first|rfl|(simp;done)|(simp[*];done)),H',⟨by have:=bw.out;have:=ax.out;omega⟩,⟨wZ HB⟩⟩
      ·have bd:=decide_eq_false az;clear az;obtain rfl:=Option.some.inj H;go_wp2;go_ret;exact⟨by first|rfl|(simp[errW_none,errW_some]<;>rfl)|(simp only[←J];first|rfl|(simp[errW_none,errW_some]<;>rfl))|(simp[*,errW_none,errW_some]<;>rfl),wZ HB⟩
def spec_RuleOk.f (a0:Int) (I:Int) (ak:Int):Option (Bool):=(spec_SetOk.f a0 I).bind fun a8=>(if a8=true then((spec_SetOk.f a0 ak).bind fun ba=>(if ba=true then(some (I !=0))else(some false)))else(some false))
theorem spec_RuleOk.calls (a0:Int) (I:Int) (ak:Int) (r:Bool) (w:World) (h:spec_RuleOk.f a0 I ak=some r):
  Calls Tryz.prog 113 #[.int .i64 a0,.agg #[.int .i64 I,.int .i64 ak]] w fun e w'=>e= .returned (.bool r)∧Below w.heap.size w w':=by
 have cy:=Tryz.underlying76;have HB:=Asd.mk (Below.refl w.heap.size w);have H:((spec_SetOk.f a0 I).bind fun a8=>(if a8=true then((spec_SetOk.f a0 ak).bind fun ba=>(if ba=true then(some (I !=0))else(some false)))else(some false)))=some r:=h;clear h;obtain⟨a8,A3,H⟩:=bE H;try dsimp only at H
 by_cases c4:a8=true
 ·subst c4;rw[if_pos rfl]at H;obtain⟨ba,A5,H⟩:=bE H;try dsimp only at H
  by_cases c6:ba=true
  ·subst c6;rw[if_pos rfl]at H;obtain rfl:=Option.some.inj H;go_enter Tryz.func113,Tryz.ntmps113;go_wp2_with (first|(refine bxA 3 #[.int .i64 I,.int .i64 ak] 76 ?_;intro bO hg w7 ag hb;have aE:=Asd.mk (ag);have bT:=bG HB hg;replace HB:=bW HB hb;clear hb ag hg;obtain⟨cW,cX,c0,da⟩:=b2 aE)|(refine gB (some 8) Tryz.func106 #[.int .i64 a0,.int .i64 I] rfl ?_;(with_reducible refine(spec_SetOk.calls a0 I true _ A3.out).mono ?_);rintro e w' ⟨rfl,⟨nd,rfl⟩⟩;refine⟨_,rfl,?_⟩)|(go_at_call 106;(with_reducible refine(spec_SetOk.calls a0 ak true _ A5.out).mono ?_);rintro e w' ⟨rfl,⟨nd,rfl⟩⟩));go_ret;exact⟨by first|rfl|(simp[*,errW_none,errW_some]<;>rfl),wZ HB⟩
  ·replace c6:=Bool.eq_false_iff.mpr c6;subst c6;rw[if_neg (show¬(false=true) by decide)]at H;obtain rfl:=Option.some.inj H;go_enter Tryz.func113,Tryz.ntmps113;go_wp2_with (first|(refine bxA 3 #[.int .i64 I,.int .i64 ak] 76 ?_;intro bO hg w9 ag hb;have aE:=Asd.mk (ag);have bT:=bG HB hg;replace HB:=bW HB hb;clear hb ag hg;obtain⟨bV,bZ,b0,b1⟩:=b2 aE)|(refine gB (some 8) Tryz.func106 #[.int .i64 a0,.int .i64 I] rfl ?_;(with_reducible refine(spec_SetOk.calls a0 I true _ A3.out).mono ?_);rintro e w' ⟨rfl,⟨nd,rfl⟩⟩;refine⟨_,rfl,?_⟩)|(go_at_call 106;(with_reducible refine(spec_SetOk.calls a0 ak false _ A5.out).mono ?_);rintro e w' ⟨rfl,⟨nd,rfl⟩⟩));go_ret;exact⟨by first|rfl|(simp[*,errW_none,errW_some]<;>rfl),wZ HB⟩
 ·replace c4:=Bool.eq_false_iff.mpr c4;subst c4;rw[if_neg (show¬(false=true) by decide)]at H;obtain rfl:=Option.some.inj H;go_enter Tryz.func113,Tryz.ntmps113;go_wp2_with (first|(refine bxA 3 #[.int .i64 I,.int .i64 ak] 76 ?_;intro bO hg dp ag hb;have aE:=Asd.mk (ag);have bT:=bG HB hg;replace HB:=bW HB hb;clear hb ag hg;obtain⟨cz,cA,cB,cC⟩:=b2 aE)|(refine gB (some 8) Tryz.func106 #[.int .i64 a0,.int .i64 I] rfl ?_;(with_reducible refine(spec_SetOk.calls a0 I false _ A3.out).mono ?_);rintro e w' ⟨rfl,⟨nd,rfl⟩⟩;refine⟨_,rfl,?_⟩));go_ret;exact⟨by first|rfl|(simp[*,errW_none,errW_some]<;>rfl),wZ HB⟩
def spec_Accepts.j0:Nat→List Int→Bool→Int→Int→Option (Bool)
 |0,_,_,_,_=>none
 |k+1,x1,x17,x564000,x564001=>if x17=true then(some false)else((spec_l2Least.f k x1 x564000).bind fun aM=>((spec_l1Both.f k aM x564001).bind fun b4=>(some (b4==aM))))
def spec_Accepts.f (k:Nat) (a0:Int) (l1:List Int) (aa:Int) (ab:Int):Option (Bool):=(spec_RankOk.f k a0 l1).bind fun bb=>(if bb=true then((spec_RuleOk.f a0 aa ab).bind fun aN=>(spec_Accepts.j0 k l1 (!aN) aa ab))else(spec_Accepts.j0 k l1 true aa ab))
theorem spec_Accepts.mono_l:∀k,(∀y0 y1 y2 y3,MoR (spec_Accepts.j0 k y0 y1 y2 y3) (spec_Accepts.j0 (k+1) y0 y1 y2 y3))
 |0=>fun _ _ _ _=> .z (by simp only[spec_Accepts.j0])
 |k+1=>by
  have i0:=spec_Accepts.mono_l k;exact fun _ _ _ _=>by unfold spec_Accepts.j0;infer_instance
instance spec_Accepts.mo {k a0 a1 a2 a3}:MoR (spec_Accepts.f k a0 a1 a2 a3) (spec_Accepts.f (k+1) a0 a1 a2 a3):=by have i0:=spec_Accepts.mono_l k;unfold spec_Accepts.f;infer_instance
theorem spec_Accepts.calls (k:Nat) (a0:Int) (A1:Option Addr) (c1:Nat) (l1:List Int) (aa:Int) (ab:Int) (r:Bool) (w:World) (cD:Kd.C (Kd.int .i64) w A1 l1.length l1) (cE:l1.length≤c1) (h:spec_Accepts.f k a0 l1 aa ab=some r):
  Calls Tryz.prog 59 #[.int .i64 a0,.slice A1 l1.length c1,.agg #[.int .i64 aa,.int .i64 ab]] w fun e w'=>e= .returned (.bool r)∧Below w.heap.size w w':=by
 have cy:=Tryz.underlying76;have cm:=Asd.mk cD;have cn:=Asd.mk cE;clear cD cE;have HB:=Asd.mk (Below.refl w.heap.size w);have H:((spec_RankOk.f k a0 l1).bind fun bb=>(if bb=true then((spec_RuleOk.f a0 aa ab).bind fun aN=>(spec_Accepts.j0 k l1 (!aN) aa ab))else(spec_Accepts.j0 k l1 true aa ab)))=some r:=h;clear h;have aA:=Asd.mk H;clear H;go_enter Tryz.func59,Tryz.ntmps59;go_upto_region 1 with(first|(refine bxA 5 #[.int .i64 aa,.int .i64 ab] 76 ?_;intro cp hg w5 ag hb;have o:=Asd.mk (ag);have dq:=bG HB hg;replace HB:=bW HB hb;clear hb ag hg))
 (try simp only[Act.put,qA,qB,qC]);go_cut [17] (fun ca wc=>∃(kq:Nat) (aW:Bool),ca= .bool aW∧Asd (spec_Accepts.j0 kq l1 aW aa ab=some r)∧Asd (kq≤k)∧BkA wc cp #[.int .i64 aa,.int .i64 ab] 76∧Asd (Below w.heap.size w wc))
 case first=>
  have H:=aA.out;clear aA;obtain⟨bb,A6,H⟩:=bE H;try dsimp only at H
  by_cases c7:bb=true
  ·subst c7;rw[if_pos rfl]at H;obtain⟨aN,A8,H⟩:=bE H;try dsimp only at H
   have H':=Asd.mk H;clear H;go_wp2_with (first|(refine gB (some 10) Tryz.func103 #[.int .i64 a0,.slice A1 l1.length c1] rfl ?_;(with_reducible refine(spec_RankOk.calls k a0 _ _ l1 true _ ?side1 ?side2 A6.out).mono ?_);(case side1=>exact cY cm HB);(case side2=>exact cn.out);rintro e w9 ⟨rfl,hb⟩;refine⟨_,rfl,?_⟩;replace o:=bU o hb;replace HB:=bW HB hb;clear hb;obtain⟨bV,bZ,b0,b1⟩:=b2 o)|(go_at_call 113;(with_reducible refine(spec_RuleOk.calls a0 aa ab aN _ A8.out).mono ?_);rintro e dp ⟨rfl,hb⟩;replace o:=bU o hb;replace HB:=bW HB hb;clear hb));go_meet
   case rel=>exact⟨_,(!aN),(by first|rfl|(simp;done)|(simp[*];done)),H',⟨by first|omega|exact Nat.le_refl _⟩,⟨kS o⟩,⟨wZ HB⟩⟩
  ·replace c7:=Bool.eq_false_iff.mpr c7;subst c7;rw[if_neg (show¬(false=true) by decide)]at H;have H':=Asd.mk H;clear H;go_wp2_with (first|(refine gB (some 10) Tryz.func103 #[.int .i64 a0,.slice A1 l1.length c1] rfl ?_;(with_reducible refine(spec_RankOk.calls k a0 _ _ l1 false _ ?side1 ?side2 A6.out).mono ?_);(case side1=>exact cY cm HB);(case side2=>exact cn.out);rintro e dj ⟨rfl,hb⟩;refine⟨_,rfl,?_⟩;replace o:=bU o hb;replace HB:=bW HB hb;clear hb));go_meet
   case rel=>exact⟨_,(true),(by first|rfl|(simp;done)|(simp[*];done)),H',⟨by first|omega|exact Nat.le_refl _⟩,⟨kS o⟩,⟨wZ HB⟩⟩
 case rest=>
  clear aA;obtain⟨kq,aW,rfl,HA,bw,o,HB⟩:=hcut;cases kq with
  |zero=>exact absurd HA.out (by simp[spec_Accepts.j0])
  |succ kj3=>
   have H:=HA.out;clear HA;simp only[spec_Accepts.j0]at H;by_cases aD:aW=true
   ·subst aD;rw[if_pos rfl]at H;obtain rfl:=Option.some.inj H;go_wp2;go_ret;exact⟨by first|rfl|(simp[*,errW_none,errW_some]<;>rfl),wZ HB⟩
   ·replace aD:=Bool.eq_false_iff.mpr aD;subst aD;rw[if_neg (show¬(false=true) by decide)]at H;obtain⟨aM,dr,H⟩:=bE H;try dsimp only at H
    obtain⟨b4,bH,H⟩:=bE H;try dsimp only at H
    obtain rfl:=Option.some.inj H;obtain⟨cF,cG,cH,cI⟩:=b2 o;go_wp2_with (first|(refine gB (some 21) Tryz.func104 #[.slice A1 l1.length c1,.int .i64 aa] rfl ?_;(with_reducible refine(spec_l2Least.calls kj3 _ _ l1 aa aM _ ?side1 ?side2 dr.out).mono ?_);(case side1=>exact cY cm HB);(case side2=>exact cn.out);rintro e dx ⟨rfl,hb⟩;refine⟨_,rfl,?_⟩;replace o:=bU o hb;replace HB:=bW HB hb;clear hb;obtain⟨cJ,cK,cL,cM⟩:=b2 o)|(refine gB (some 25) Tryz.func54 #[.int .i64 aM,.int .i64 ab] rfl ?_;(with_reducible refine(spec_l1Both.calls kj3 aM ab b4 _ bH.out).mono ?_);rintro e w' ⟨rfl,⟨nd,rfl⟩⟩;refine⟨_,rfl,?_⟩));go_ret;exact⟨by first|rfl|(simp[*,errW_none,errW_some]<;>rfl),wZ HB⟩
end Go.Proofs.YtihgpkohglcijaaGreatDoor.P
