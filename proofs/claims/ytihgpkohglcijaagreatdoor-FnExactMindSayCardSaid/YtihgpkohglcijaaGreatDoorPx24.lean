import Derived.Test.YtihgpkohglcijaaGreatDoorPx0
import Derived.Test.YtihgpkohglcijaaGreatDoorPx15
import Derived.Test.YtihgpkohglcijaaGreatDoorPx18
import Derived.Test.YtihgpkohglcijaaGreatDoorPx19
import Derived.Test.YtihgpkohglcijaaGreatDoorPx23
namespace Go.Proofs.YtihgpkohglcijaaGreatDoor.P
open Go.RowKit Go.Proofs.YtihgpkohglcijaaGreatDoorW.PrintWords Go.Proofs.YtihgpkohglcijaaGreatDoorW.PrintLast Go.Proofs.YtihgpkohglcijaaGreatDoorW.PrintMore
attribute [local go_sem] max2_int min2_int max_two min_two max_three min_three max_four min_four   -- for this text's walks alone
set_option linter.unusedVariables false
set_option linter.unusedSimpArgs false
set_option maxHeartbeats 8000000
set_option maxRecDepth 100000
mutual
def kp.j0:Nat→Int→Int→List Int→Bool→Option (List Int)
 |0,_,_,_,_=>none
 |k+1,x0,x1,x5,x17=>if x17=true then(some x5)else(kp.l0 k x0 x1 x5 0)
def kp.l0:Nat→Int→Int→List Int→Int→Option (List Int)
 |0,_,_,_,_=>none
 |k+1,x0,x1,x5,x6=>if 0≤x0 then(if x6<(shl .i64 1 x0)then(kp.l1 k x0 x1 x5 x6 4 0)else(some x5))else(none)
def kp.l1:Nat→Int→Int→List Int→Int→Int→Int→Option (List Int)
 |0,_,_,_,_,_,_=>none
 |k+1,x0,x1,x5,x6,x7,x8=>if 0≤x0 then(if x8<(shl .i64 1 x0)then((pV.f x1 x8).bind fun ao=>(if ao=1 then((qb.f k x8 x6).bind fun aG=>(kp.l1 k x0 x1 x5 x6 (mn x7 aG) (wrap64 (x8+1))))else(kp.l1 k x0 x1 x5 x6 x7 (wrap64 (x8+1)))))else(if x5.length<17592186044416 then(kp.l0 k x0 x1 (x5++ [x7]) (wrap64 (x6+1)))else(none)))else(none)
end
def kp.f (k:Nat) (a0:Int) (a1:Int):Option (List Int):=(some (([]:List Int):List Int)).bind fun ae=>((oD.f a0 a1).bind fun av=>(if av=true then(kp.j0 k a0 a1 ae (a1==0))else(kp.j0 k a0 a1 ae true)))
theorem kp.jQ:∀k,(∀y0 y1 y2 y3,qg (kp.j0 k y0 y1 y2 y3) (kp.j0 (k+1) y0 y1 y2 y3))∧(∀y0 y1 y2 y3,qg (kp.l0 k y0 y1 y2 y3) (kp.l0 (k+1) y0 y1 y2 y3))∧(∀y0 y1 y2 y3 y4 y5,qg (kp.l1 k y0 y1 y2 y3 y4 y5) (kp.l1 (k+1) y0 y1 y2 y3 y4 y5))
 |0=>⟨fun _ _ _ _=> .z (by simp only[kp.j0]),fun _ _ _ _=> .z (by simp only[kp.l0]),fun _ _ _ _ _ _=> .z (by simp only[kp.l1])⟩
 |k+1=>by
  have⟨i0,i1,i2⟩:=kp.jQ k;exact⟨fun _ _ _ _=>by unfold kp.j0;infer_instance,fun _ _ _ _=>by unfold kp.l0;infer_instance,fun _ _ _ _ _ _=>by unfold kp.l1;infer_instance⟩
instance kp.mo {k a0 a1}:qg (kp.f k a0 a1) (kp.f (k+1) a0 a1):=by have⟨i0,i1,i2⟩:=kp.jQ k;unfold kp.f;infer_instance
theorem kp.mono:∀a0 a1 k,LeO (kp.f k a0 a1) (kp.f (k+1) a0 a1):=fun _ _ _=>kp.mo.h
theorem kp.calls (k:Nat) (a0:Int) (a1:Int) (r:List Int) (w:World) (h:kp.f k a0 a1=some r):
  Calls Tryz.prog 112 #[.int .i64 a0,.int .i64 a1] w fun e w'=>∃cq:Value,e= .returned (cq)∧Kd.R (Kd.int .i64) 3 w' w.heap.size (fun _=>True) cq r∧Below w.heap.size w w':=by
 have HB:=bm (Below.refl w.heap.size w);have H:=h;clear h;unfold kp.f at H;obtain⟨ae,bc⟩:∃y_:List Int,y_=(([]:List Int)):=⟨_,rfl⟩;replace H:((oD.f a0 a1).bind fun av=>(if av=true then(kp.j0 k a0 a1 ae (a1==0))else(kp.j0 k a0 a1 ae true)))=some r:=by first|(rw[bc];exact H)|exact H
 have bx:=bm bc;clear bc;have b8:=bm H;clear H;go_enter Tryz.func112,Tryz.ntmps112;go_upto_region 2 with(first|((with_reducible refine gate_dst (N:=9) rfl ?_);refine Kd.R_lit (Kd.int .i64) _ 3 ?hg (N:=9) ?hd (xs:=([]:List Int)) (inner:=[]) (ok:=fun _=>True) (okp:=fun _=>True) ?hr ?hp (fun _ hk=>hk) trivial (Below.refl _ _) (Nat.le_refl _) (by simp) ?_;(case hd=>rfl);(case hg=>rfl);(case hr=>first|(go_simp;done)|(go_simp;rfl));(case hp=>exact(Reps.none _ _));intro cr w4 bz hb db b9;clear db b9;(first|rw[←bx.out]at bz|(simp only[Int.reduceToNat]at bz;rw[←bx.out]at bz));have bA:=vX bz HB;replace HB:=bW HB hb;clear hb bz))
 (try simp only[Act.put,qA,qB,qC]);go_cut [17] (fun ca wc=>∃(kq:Nat) (aQ:Bool),ca= .bool aQ∧jX (kp.j0 kq a0 a1 ae aQ=some r)∧jX (kq≤k)∧jX (Kd.R (Kd.int .i64) 3 wc w.heap.size (fun _=>True) cr ae)∧jX (Below w.heap.size w wc))
 case first=>
  have H:=b8.out;clear b8;obtain⟨av,A6,H⟩:=bE H;try dsimp only at H
  by_cases c7:av=true
  ·subst c7;rw[if_pos rfl]at H;have H':=bm H;clear H;go_wp2_with (first|(refine gB (some 12) Tryz.func106 #[.int .i64 a0,.int .i64 a1] rfl ?_;(with_reducible refine(oD.calls a0 a1 true _ A6.out).mono ?_);rintro e w' ⟨rfl,⟨nd,rfl⟩⟩;refine⟨_,rfl,?_⟩));go_meet
   case rel=>exact⟨_,((a1==0)),(by first|rfl|(simp;done)|(simp[*];done)),H',⟨by first|omega|exact Nat.le_refl _⟩,⟨by(repeat apply Kd.RS);exact bA.out⟩,⟨wZ HB⟩⟩
  ·replace c7:=uZ c7;subst c7;rw[if_neg vM]at H;have H':=bm H;clear H;go_wp2_with (first|(refine gB (some 12) Tryz.func106 #[.int .i64 a0,.int .i64 a1] rfl ?_;(with_reducible refine(oD.calls a0 a1 false _ A6.out).mono ?_);rintro e w' ⟨rfl,⟨nd,rfl⟩⟩;refine⟨_,rfl,?_⟩));go_meet
   case rel=>exact⟨_,(true),(by first|rfl|(simp;done)|(simp[*];done)),H',⟨by first|omega|exact Nat.le_refl _⟩,⟨by(repeat apply Kd.RS);exact bA.out⟩,⟨wZ HB⟩⟩
 case rest=>
  clear b8;obtain⟨kq,aQ,rfl,HA,br,qL,HB⟩:=hcut;cases kq with
  |zero=>exact absurd HA.out (by simp[kp.j0])
  |succ AE=>
   have H:=HA.out;clear HA;simp only[kp.j0]at H;by_cases c8:aQ=true
   ·subst c8;rw[if_pos rfl]at H;obtain rfl:=vU H;go_wp2;go_ret;exact⟨_,by first|rfl|(simp[*,jS,jT]<;>rfl),by(repeat apply Kd.RS);exact qL.out,wZ HB⟩
   ·replace c8:=uZ c8;subst c8;rw[if_neg vM]at H;have H':=bm H;clear H;go_wp2;go_loopg [5,6] AE (fun kq v5 v6 w'=>∃(aw:List Int) (aq:Int),v6= .int .i64 aq∧jX (kp.l0 kq a0 a1 aw aq=some r)∧jX (kq≤AE)∧jX (Kd.R (Kd.int .i64) 3 w' w.heap.size (fun _=>True) v5 aw)∧jX (Below w.heap.size w w'))
    case atStart=>exact⟨(ae),(0),(by first|rfl|(simp;done)|(simp[*];done)),H',⟨Nat.le_refl _⟩,⟨by(repeat apply Kd.RS);exact qL.out⟩,⟨wZ HB⟩⟩
    case round=>
     clear H';obtain⟨aw,aq,rfl,HA,ax,qL,HB⟩:=hrel;cases gk with
     |zero=>exact absurd HA.out (by simp[kp.l0])
     |succ k2=>
      have H:=HA.out;clear HA;simp only[kp.l0]at H;obtain⟨bB,bD,H⟩:=vF H;obtain⟨ad,J⟩:∃j_:Int,(shl .i64 1 a0)=j_:=⟨_,rfl⟩;first|rw[J]at H|simp only[J]at H
      have ah:(IntKind.i64.wrap (1*2^min a0.toNat 64))=ad:=J;have ai:a0≤64→(IntKind.i64.wrap (1*2^a0.toNat))=ad:=shl_small J;have bg:(IntKind.i64.wrap (2^min a0.toNat 64))=ad:=by have h_:=ah;rw[Int.one_mul]at h_;exact h_
      have bh:a0≤64→(IntKind.i64.wrap (2^a0.toNat))=ad:=fun ay=>by have h_:=ai ay;rw[Int.one_mul]at h_;exact h_
      have bj:(wrap64 (1*2^min a0.toNat 64))=ad:=(i64_w _).symm.trans ah;have bk:a0≤64→(wrap64 (1*2^a0.toNat))=ad:=fun h_=>(i64_w _).symm.trans (ai h_)
      rcases vG H with⟨bd,H⟩|⟨bd,H⟩
      ·have H':=bm H;clear H;go_wp2;go_loopg [7,8] k2 (fun kq v7 v8 w'=>∃(aj:Int) (af:Int),v7= .int .i64 aj∧v8= .int .i64 af∧jX (kp.l1 kq a0 a1 aw aq aj af=some r)∧jX (kq≤k2)∧jX (Kd.R (Kd.int .i64) 3 w' w.heap.size (fun _=>True) u5 aw)∧jX (Below w.heap.size w w'))
       case atStart=>exact⟨(4),(0),(by first|rfl|(simp;done)|(simp[*];done)),(by first|rfl|(simp;done)|(simp[*];done)),H',⟨Nat.le_refl _⟩,⟨by(repeat apply Kd.RS);exact qL.out⟩,⟨wZ HB⟩⟩
       case round=>
        clear H';obtain⟨aj,af,rfl,rfl,HA,bs,qL,HB⟩:=hrel;cases gk with
        |zero=>exact absurd HA.out (by simp[kp.l1])
        |succ k3=>
         have H:=HA.out;clear HA;simp only[kp.l1]at H;obtain⟨dc,dd,H⟩:=vF H;obtain⟨aH,aR⟩:∃j_:Int,(shl .i64 1 a0)=j_:=⟨_,rfl⟩;(try clear ah);(try clear bg);(try clear bh);(try clear bk);(try clear bj);(try clear ai);first|rw[aR]at H|simp only[aR]at H
         have bl:(IntKind.i64.wrap (1*2^min a0.toNat 64))=aH:=aR;have bn:a0≤64→(IntKind.i64.wrap (1*2^a0.toNat))=aH:=shl_small aR;have cN:(IntKind.i64.wrap (2^min a0.toNat 64))=aH:=by have h_:=bl;rw[Int.one_mul]at h_;exact h_
         have cO:a0≤64→(IntKind.i64.wrap (2^a0.toNat))=aH:=fun ay=>by have h_:=bn ay;rw[Int.one_mul]at h_;exact h_
         have cP:(wrap64 (1*2^min a0.toNat 64))=aH:=(i64_w _).symm.trans bl;have cQ:a0≤64→(wrap64 (1*2^a0.toNat))=aH:=fun h_=>(i64_w _).symm.trans (bn h_)
         rcases vG H with⟨bF,H⟩|⟨bF,H⟩
         ·obtain⟨ao,bH,H⟩:=bE H;try dsimp only at H
          rcases iT H with⟨bu,H⟩|⟨bu,H⟩
          ·obtain⟨cc,cd⟩:=vW bu;clear bu;obtain⟨aG,b5,H⟩:=bE H;try dsimp only at H
           obtain⟨b6,al⟩:∃j_:Int,(mn aj aG)=j_:=⟨_,rfl⟩;first|rw[al]at H|simp only[al]at H
           (try rw[al]at bH);(try rw[al]at b5);have cR:(if aG<aj then aG else aj)=b6:=al;have H':=bm H;clear H;go_wp2_with (first|(refine gB (some 33) Tryz.func107 #[.int .i64 a1,.int .i64 af] rfl ?_;(with_reducible refine(pV.calls a1 af ao _ bH.out).mono ?_);rintro e w' ⟨rfl,⟨nd,rfl⟩⟩;refine⟨_,rfl,?_⟩)|(refine gB (some 38) Tryz.func139 #[.int .i64 af,.int .i64 aq] rfl ?_;(with_reducible refine(qb.calls k3 af aq aG _ b5.out).mono ?_);rintro e w' ⟨rfl,⟨nd,rfl⟩⟩;refine⟨_,rfl,?_⟩));go_roundg k3
           case measure=>have:=br.out;have:=ax.out;have:=bs.out;omega
           case rel=>exact⟨(b6),(wrap64 (af+1)),(by first|rfl|(simp;done)|(simp only[←al]<;>(first|rfl|simp))|(simp[*];done)),(by first|rfl|(simp;done)|(simp[*];done)),H',⟨by have:=br.out;have:=ax.out;have:=bs.out;omega⟩,⟨by(repeat apply Kd.RS);exact qL.out⟩,⟨wZ HB⟩⟩
          ·obtain⟨cc,cd⟩:=vV bu;have H':=bm H;clear H;go_wp2_with (first|(refine gB (some 33) Tryz.func107 #[.int .i64 a1,.int .i64 af] rfl ?_;(with_reducible refine(pV.calls a1 af ao _ bH.out).mono ?_);rintro e w' ⟨rfl,⟨nd,rfl⟩⟩;refine⟨_,rfl,?_⟩));go_roundg k3
           case measure=>have:=br.out;have:=ax.out;have:=bs.out;omega
           case rel=>exact⟨(aj),(wrap64 (af+1)),(by first|rfl|(simp;done)|(simp[*];done)),(by first|rfl|(simp;done)|(simp[*];done)),H',⟨by have:=br.out;have:=ax.out;have:=bs.out;omega⟩,⟨by(repeat apply Kd.RS);exact qL.out⟩,⟨wZ HB⟩⟩
         ·obtain⟨ct,H⟩:=iN H;have cf:=bm ct;clear ct;obtain⟨b7,bf⟩:∃y_:List Int,y_=(aw++ [aj]):=⟨_,rfl⟩;rw[←bf]at H
          have cg:=bm bf;clear bf;have H':=bm H;clear H;go_wp2_with (first|((with_reducible refine gate_builtin (b:=.append) (xs:= #[.tmp 40,.tmp 42]) rfl ?_);at_builtin;refine Kd.R_append (Kd.int .i64) (w0:=w) w.heap.size rfl (.tmp 40) (.tmp 42) 23 3 (.int .i64 0) 8 rfl Tryz.underlying23 info3 rfl (by decide) (by omega) u5 aw aj [.int .i64 aj] (fun _=>True) (fun _=>False) rfl rfl ?aP (fun _ hk=>hk.elim) ?aF ?aO ?aB ?aS ?aL ?_;(case aP=>exact rfl);(case aB=>exact(wZ HB));(case aF=>exact(fun _ _=>trivial));(case aO=>exact(rS qL));(case aS=>exact(below_size (wZ HB)));(case aL=>have:=cf.out;omega);intro ds du ho hb hg de;rw[←cg.out]at ho;replace HB:=bm (hb);have ch:=bm (ho);clear qL;clear ho hb hg de));go_roundg k3
          case measure=>have:=br.out;have:=ax.out;have:=bs.out;omega
          case rel=>exact⟨(b7),(wrap64 (aq+1)),(by first|rfl|(simp;done)|(simp[*];done)),H',⟨by have:=br.out;have:=ax.out;have:=bs.out;omega⟩,⟨by(repeat apply Kd.RS);exact ch.out⟩,⟨wZ HB⟩⟩
      ·obtain rfl:=vU H;go_wp2;go_ret;exact⟨_,by first|rfl|(simp[jS,jT]<;>rfl)|(simp only[←J];first|rfl|(simp[jS,jT]<;>rfl))|(simp[*,jS,jT]<;>rfl),by(repeat apply Kd.RS);exact qL.out,wZ HB⟩
def oJ.j0:Nat→Int→Int→Int→Bool→Option (Int)
 |0,_,_,_,_=>none
 |k+1,x0,x1,x2,x16=>if x16=true then(some (-1))else(if x1=0 then(some x2)else((kp.f k x0 x1).bind fun aY=>((kv.f k aY x2).bind fun bJ=>(some bJ))))
def oJ.f (k:Nat) (a0:Int) (a1:Int) (a2:Int):Option (Int):=(oD.f a0 a1).bind fun aZ=>(if aZ=true then((oD.f a0 a2).bind fun aI=>(oJ.j0 k a0 a1 a2 (!aI)))else(oJ.j0 k a0 a1 a2 true))
theorem oJ.jQ:∀k,(∀y0 y1 y2 y3,qg (oJ.j0 k y0 y1 y2 y3) (oJ.j0 (k+1) y0 y1 y2 y3))
 |0=>fun _ _ _ _=> .z (by simp only[oJ.j0])
 |k+1=>by
  have i0:=oJ.jQ k;exact fun _ _ _ _=>by unfold oJ.j0;infer_instance
instance oJ.mo {k a0 a1 a2}:qg (oJ.f k a0 a1 a2) (oJ.f (k+1) a0 a1 a2):=by have i0:=oJ.jQ k;unfold oJ.f;infer_instance
theorem oJ.calls (k:Nat) (a0:Int) (a1:Int) (a2:Int) (r:Int) (w:World) (h:oJ.f k a0 a1 a2=some r):
  Calls Tryz.prog 58 #[.int .i64 a0,.int .i64 a1,.int .i64 a2] w fun e w'=>e= .returned (.int .i64 r)∧Below w.heap.size w w':=by
 have HB:=bm (Below.refl w.heap.size w);have H:=h;clear h;unfold oJ.f at H;have aA:=bm H;clear H;go_enter Tryz.func58,Tryz.ntmps58;go_upto_region 1 with(fail)
 go_cut [16] (fun df wc=>∃(kq:Nat) (aU:Bool),df= .bool aU∧jX (oJ.j0 kq a0 a1 a2 aU=some r)∧jX (kq≤k)∧jX (Below w.heap.size w wc))
 case first=>
  have H:=aA.out;clear aA;obtain⟨aZ,A5,H⟩:=bE H;try dsimp only at H
  by_cases c6:aZ=true
  ·subst c6;rw[if_pos rfl]at H;obtain⟨aI,A7,H⟩:=bE H;try dsimp only at H
   have H':=bm H;clear H;go_wp2_with (first|(refine gB (some 9) Tryz.func106 #[.int .i64 a0,.int .i64 a1] rfl ?_;(with_reducible refine(oD.calls a0 a1 true _ A5.out).mono ?_);rintro e w' ⟨rfl,⟨nd,rfl⟩⟩;refine⟨_,rfl,?_⟩)|(go_at_call 106;(with_reducible refine(oD.calls a0 a2 aI _ A7.out).mono ?_);rintro e w' ⟨rfl,⟨nd,rfl⟩⟩));go_meet
   case rel=>exact⟨_,(!aI),(by first|rfl|(simp;done)|(simp[*];done)),H',⟨by first|omega|exact Nat.le_refl _⟩,⟨wZ HB⟩⟩
  ·replace c6:=uZ c6;subst c6;rw[if_neg vM]at H;have H':=bm H;clear H;go_wp2_with (first|(refine gB (some 9) Tryz.func106 #[.int .i64 a0,.int .i64 a1] rfl ?_;(with_reducible refine(oD.calls a0 a1 false _ A5.out).mono ?_);rintro e w' ⟨rfl,⟨nd,rfl⟩⟩;refine⟨_,rfl,?_⟩));go_meet
   case rel=>exact⟨_,(true),(by first|rfl|(simp;done)|(simp[*];done)),H',⟨by first|omega|exact Nat.le_refl _⟩,⟨wZ HB⟩⟩
 case rest=>
  clear aA;obtain⟨kq,aU,rfl,HA,bw,HB⟩:=hcut;cases kq with
  |zero=>exact absurd HA.out (by simp[oJ.j0])
  |succ xQ=>
   have H:=HA.out;clear HA;simp only[oJ.j0]at H;by_cases c8:aU=true
   ·subst c8;rw[if_pos rfl]at H;obtain rfl:=vU H;go_wp2;go_ret;exact vZ HB
   ·replace c8:=uZ c8;subst c8;rw[if_neg vM]at H;rcases iT H with⟨c9,H⟩|⟨c9,H⟩
    ·obtain⟨bB,bD⟩:=vW c9;clear c9;obtain rfl:=vU H;go_wp2;go_ret;exact vZ HB
    ·obtain⟨bB,bD⟩:=vV c9;obtain⟨aY,dh,H⟩:=bE H;try dsimp only at H
     obtain⟨bJ,di,H⟩:=bE H;try dsimp only at H
     obtain rfl:=vU H;go_wp2_with (first|(refine gB (some 22) Tryz.func112 #[.int .i64 a0,.int .i64 a1] rfl ?_;(with_reducible refine(kp.calls xQ a0 a1 aY _ dh.out).mono ?_);rintro e dj ⟨dt,rfl,cu,hb⟩;refine⟨_,rfl,?_⟩;have aC:=vX cu HB;replace HB:=bW HB hb;clear hb;(try clear cu);obtain⟨cv,cw,cx⟩:=Kd.R_slice aC.out;subst cx)|(refine gB (some 24) Tryz.func104 #[.slice cv aY.length cw,.int .i64 a2] rfl ?_;(with_reducible refine(kv.calls xQ _ _ aY a2 bJ _ ?_ ?_ di.out).mono ?_);exact cZ (Kd.R_reads' aC.out).2.2;exact(Kd.R_reads' aC.out).2.1;rintro e dv ⟨rfl,hb⟩;refine⟨_,rfl,?_⟩;replace aC:=bR aC hb;replace HB:=bW HB hb;clear hb));go_ret;exact vZ HB
mutual
def kK.j0:Nat→Int→Int→Int→Bool→Option (Int)
 |0,_,_,_,_=>none
 |k+1,x0,x1,x2,x18=>if x18=true then(some (-1))else(kK.l0 k x0 x1 x2 0 0)
def kK.l0:Nat→Int→Int→Int→Int→Int→Option (Int)
 |0,_,_,_,_,_=>none
 |k+1,x0,x1,x2,x7,x8=>if 0≤x0 then(if x8<(shl .i64 1 x0)then((pV.f x1 x8).bind fun ar=>(if ar=1 then(if 0≤x8 then((oJ.f k x0 (shl .i64 1 x8) x2).bind fun a6=>((qo.f k x7 a6).bind fun bo=>(kK.l0 k x0 x1 x2 bo (wrap64 (x8+1)))))else(none))else(kK.l0 k x0 x1 x2 x7 (wrap64 (x8+1)))))else(some x7))else(none)
end
def kK.f (k:Nat) (a0:Int) (a1:Int) (a2:Int):Option (Int):=(oD.f a0 a1).bind fun a7=>(if a7=true then((oD.f a0 a2).bind fun aJ=>(kK.j0 k a0 a1 a2 (!aJ)))else(kK.j0 k a0 a1 a2 true))
theorem kK.jQ:∀k,(∀y0 y1 y2 y3,qg (kK.j0 k y0 y1 y2 y3) (kK.j0 (k+1) y0 y1 y2 y3))∧(∀y0 y1 y2 y3 y4,qg (kK.l0 k y0 y1 y2 y3 y4) (kK.l0 (k+1) y0 y1 y2 y3 y4))
 |0=>⟨fun _ _ _ _=> .z (by simp only[kK.j0]),fun _ _ _ _ _=> .z (by simp only[kK.l0])⟩
 |k+1=>by
  have⟨i0,i1⟩:=kK.jQ k;exact⟨fun _ _ _ _=>by unfold kK.j0;infer_instance,fun _ _ _ _ _=>by unfold kK.l0;infer_instance⟩
instance kK.mo {k a0 a1 a2}:qg (kK.f k a0 a1 a2) (kK.f (k+1) a0 a1 a2):=by have⟨i0,i1⟩:=kK.jQ k;unfold kK.f;infer_instance
theorem kK.calls (k:Nat) (a0:Int) (a1:Int) (a2:Int) (r:Int) (w:World) (h:kK.f k a0 a1 a2=some r):
  Calls Tryz.prog 57 #[.int .i64 a0,.int .i64 a1,.int .i64 a2] w fun e w'=>e= .returned (.int .i64 r)∧Below w.heap.size w w':=by
 have HB:=bm (Below.refl w.heap.size w);have H:=h;clear h;unfold kK.f at H;have aA:=bm H;clear H;go_enter Tryz.func57,Tryz.ntmps57;go_upto_region 1 with(fail)
 go_cut [18] (fun dk wc=>∃(kq:Nat) (aV:Bool),dk= .bool aV∧jX (kK.j0 kq a0 a1 a2 aV=some r)∧jX (kq≤k)∧jX (Below w.heap.size w wc))
 case first=>
  have H:=aA.out;clear aA;obtain⟨a7,A5,H⟩:=bE H;try dsimp only at H
  by_cases c6:a7=true
  ·subst c6;rw[if_pos rfl]at H;obtain⟨aJ,A7,H⟩:=bE H;try dsimp only at H
   have H':=bm H;clear H;go_wp2_with (first|(refine gB (some 11) Tryz.func106 #[.int .i64 a0,.int .i64 a1] rfl ?_;(with_reducible refine(oD.calls a0 a1 true _ A5.out).mono ?_);rintro e w' ⟨rfl,⟨nd,rfl⟩⟩;refine⟨_,rfl,?_⟩)|(go_at_call 106;(with_reducible refine(oD.calls a0 a2 aJ _ A7.out).mono ?_);rintro e w' ⟨rfl,⟨nd,rfl⟩⟩));go_meet
   case rel=>exact⟨_,(!aJ),(by first|rfl|(simp;done)|(simp[*];done)),H',⟨by first|omega|exact Nat.le_refl _⟩,⟨wZ HB⟩⟩
  ·replace c6:=uZ c6;subst c6;rw[if_neg vM]at H;have H':=bm H;clear H;go_wp2_with (first|(refine gB (some 11) Tryz.func106 #[.int .i64 a0,.int .i64 a1] rfl ?_;(with_reducible refine(oD.calls a0 a1 false _ A5.out).mono ?_);rintro e w' ⟨rfl,⟨nd,rfl⟩⟩;refine⟨_,rfl,?_⟩));go_meet
   case rel=>exact⟨_,(true),(by first|rfl|(simp;done)|(simp[*];done)),H',⟨by first|omega|exact Nat.le_refl _⟩,⟨wZ HB⟩⟩
 case rest=>
  clear aA;obtain⟨kq,aV,rfl,HA,bw,HB⟩:=hcut;cases kq with
  |zero=>exact absurd HA.out (by simp[kK.j0])
  |succ xQ=>
   have H:=HA.out;clear HA;simp only[kK.j0]at H;by_cases c8:aV=true
   ·subst c8;rw[if_pos rfl]at H;obtain rfl:=vU H;go_wp2;go_ret;exact vZ HB
   ·replace c8:=uZ c8;subst c8;rw[if_neg vM]at H;have H':=bm H;clear H;go_wp2;go_loopg [7,8] xQ (fun kq v7 v8 w'=>∃(aK:Int) (j:Int),v7= .int .i64 aK∧v8= .int .i64 j∧jX (kK.l0 kq a0 a1 a2 aK j=some r)∧jX (kq≤xQ)∧jX (Below w.heap.size w w'))
    case atStart=>exact⟨(0),(0),(by first|rfl|(simp;done)|(simp[*];done)),(by first|rfl|(simp;done)|(simp[*];done)),H',⟨Nat.le_refl _⟩,⟨wZ HB⟩⟩
    case round=>
     clear H';obtain⟨aK,j,rfl,rfl,HA,ax,HB⟩:=hrel;cases gk with
     |zero=>exact absurd HA.out (by simp[kK.l0])
     |succ k2=>
      have H:=HA.out;clear HA;simp only[kK.l0]at H;obtain⟨bB,bD,H⟩:=vF H;obtain⟨ad,J⟩:∃j_:Int,(shl .i64 1 a0)=j_:=⟨_,rfl⟩;first|rw[J]at H|simp only[J]at H
      have ah:(IntKind.i64.wrap (1*2^min a0.toNat 64))=ad:=J;have ai:a0≤64→(IntKind.i64.wrap (1*2^a0.toNat))=ad:=shl_small J;have bg:(IntKind.i64.wrap (2^min a0.toNat 64))=ad:=by have h_:=ah;rw[Int.one_mul]at h_;exact h_
      have bh:a0≤64→(IntKind.i64.wrap (2^a0.toNat))=ad:=fun ay=>by have h_:=ai ay;rw[Int.one_mul]at h_;exact h_
      have bj:(wrap64 (1*2^min a0.toNat 64))=ad:=(i64_w _).symm.trans ah;have bk:a0≤64→(wrap64 (1*2^a0.toNat))=ad:=fun h_=>(i64_w _).symm.trans (ai h_)
      rcases vG H with⟨bd,H⟩|⟨bd,H⟩
      ·obtain⟨ar,cj,H⟩:=bE H;try dsimp only at H
       rcases iT H with⟨aD,H⟩|⟨aD,H⟩
       ·obtain⟨ck,cl⟩:=vW aD;clear aD;obtain⟨bF,dm,H⟩:=vF H;obtain⟨au,an⟩:∃j_:Int,(shl .i64 1 j)=j_:=⟨_,rfl⟩;first|rw[an]at H|simp only[an]at H
        (try rw[an]at cj);have bp:(IntKind.i64.wrap (1*2^min j.toNat 64))=au:=an;have bq:j≤64→(IntKind.i64.wrap (1*2^j.toNat))=au:=shl_small an;have cS:(IntKind.i64.wrap (2^min j.toNat 64))=au:=by have h_:=bp;rw[Int.one_mul]at h_;exact h_
        have cT:j≤64→(IntKind.i64.wrap (2^j.toNat))=au:=fun ay=>by have h_:=bq ay;rw[Int.one_mul]at h_;exact h_
        have cU:(wrap64 (1*2^min j.toNat 64))=au:=(i64_w _).symm.trans bp;have cV:j≤64→(wrap64 (1*2^j.toNat))=au:=fun h_=>(i64_w _).symm.trans (bq h_)
        obtain⟨a6,dn,H⟩:=bE H;try dsimp only at H
        obtain⟨bo,b5,H⟩:=bE H;try dsimp only at H
        have H':=bm H;clear H;go_wp2_with (first|(refine gB (some 27) Tryz.func107 #[.int .i64 a1,.int .i64 j] rfl ?_;(with_reducible refine(pV.calls a1 j ar _ cj.out).mono ?_);rintro e w' ⟨rfl,⟨nd,rfl⟩⟩;refine⟨_,rfl,?_⟩)|((with_reducible refine gate_callee (f:=58) rfl ?_);refine Dq (some 34) rfl rfl Tryz.func58 (by kernel_rfl) rfl #[.int .i64 a0,.int .i64 au,.int .i64 a2] rfl (by(try simp only[List.map_toArray,List.map_cons,List.map_nil]);first|done|(simp only[an];rfl)|rfl|(simp only[List.length_drop,List.length_take];rfl)) ?_;(with_reducible refine(oJ.calls k2 a0 au a2 a6 _ dn.out).mono ?_);rintro e dw ⟨rfl,hb⟩;refine⟨_,rfl,?_⟩;replace HB:=bW HB hb;clear hb)|(refine gB (some 35) Tryz.func111 #[.int .i64 aK,.int .i64 a6] rfl ?_;(with_reducible refine(qo.calls k2 aK a6 bo _ b5.out).mono ?_);rintro e w' ⟨rfl,⟨nd,rfl⟩⟩;refine⟨_,rfl,?_⟩));go_roundg k2
        case measure=>have:=bw.out;have:=ax.out;omega
        case rel=>exact⟨(bo),(wrap64 (j+1)),(by first|rfl|(simp;done)|(simp[*];done)),(by first|rfl|(simp;done)|(simp[*];done)),H',⟨by have:=bw.out;have:=ax.out;omega⟩,⟨wZ HB⟩⟩
       ·obtain⟨ck,cl⟩:=vV aD;have H':=bm H;clear H;go_wp2_with (first|(refine gB (some 27) Tryz.func107 #[.int .i64 a1,.int .i64 j] rfl ?_;(with_reducible refine(pV.calls a1 j ar _ cj.out).mono ?_);rintro e w' ⟨rfl,⟨nd,rfl⟩⟩;refine⟨_,rfl,?_⟩));go_roundg k2
        case measure=>have:=bw.out;have:=ax.out;omega
        case rel=>exact⟨(aK),(wrap64 (j+1)),(by first|rfl|(simp;done)|(simp[*];done)),(by first|rfl|(simp;done)|(simp[*];done)),H',⟨by have:=bw.out;have:=ax.out;omega⟩,⟨wZ HB⟩⟩
      ·obtain rfl:=vU H;go_wp2;go_ret;exact⟨by first|rfl|(simp[jS,jT]<;>rfl)|(simp only[←J];first|rfl|(simp[jS,jT]<;>rfl))|(simp[*,jS,jT]<;>rfl),wZ HB⟩
def uY.f (a0:Int) (I:Int) (ak:Int):Option (Bool):=(oD.f a0 I).bind fun a8=>(if a8=true then((oD.f a0 ak).bind fun ba=>(if ba=true then(some (I !=0))else(some false)))else(some false))
theorem uY.calls (a0:Int) (I:Int) (ak:Int) (r:Bool) (w:World) (h:uY.f a0 I ak=some r):
  Calls Tryz.prog 113 #[.int .i64 a0,.agg #[.int .i64 I,.int .i64 ak]] w fun e w'=>e= .returned (.bool r)∧Below w.heap.size w w':=by
 have cy:=Tryz.underlying76;have HB:=bm (Below.refl w.heap.size w);have H:=h;clear h;unfold uY.f at H;obtain⟨a8,A3,H⟩:=bE H;try dsimp only at H
 by_cases c4:a8=true
 ·subst c4;rw[if_pos rfl]at H;obtain⟨ba,A5,H⟩:=bE H;try dsimp only at H
  by_cases c6:ba=true
  ·subst c6;rw[if_pos rfl]at H;obtain rfl:=vU H;go_enter Tryz.func113,Tryz.ntmps113;go_wp2_with (first|(refine rz 3 #[.int .i64 I,.int .i64 ak] 76 ?_;intro bO hg w7 ag hb;have aE:=bm (ag);have bT:=bG HB hg;replace HB:=bW HB hb;clear hb ag hg;obtain⟨cW,cX,c0,da⟩:=b2 aE)|(refine gB (some 8) Tryz.func106 #[.int .i64 a0,.int .i64 I] rfl ?_;(with_reducible refine(oD.calls a0 I true _ A3.out).mono ?_);rintro e w' ⟨rfl,⟨nd,rfl⟩⟩;refine⟨_,rfl,?_⟩)|(go_at_call 106;(with_reducible refine(oD.calls a0 ak true _ A5.out).mono ?_);rintro e w' ⟨rfl,⟨nd,rfl⟩⟩));go_ret;exact vZ HB
  ·replace c6:=uZ c6;subst c6;rw[if_neg vM]at H;obtain rfl:=vU H;go_enter Tryz.func113,Tryz.ntmps113;go_wp2_with (first|(refine rz 3 #[.int .i64 I,.int .i64 ak] 76 ?_;intro bO hg w9 ag hb;have aE:=bm (ag);have bT:=bG HB hg;replace HB:=bW HB hb;clear hb ag hg;obtain⟨bV,bZ,b0,b1⟩:=b2 aE)|(refine gB (some 8) Tryz.func106 #[.int .i64 a0,.int .i64 I] rfl ?_;(with_reducible refine(oD.calls a0 I true _ A3.out).mono ?_);rintro e w' ⟨rfl,⟨nd,rfl⟩⟩;refine⟨_,rfl,?_⟩)|(go_at_call 106;(with_reducible refine(oD.calls a0 ak false _ A5.out).mono ?_);rintro e w' ⟨rfl,⟨nd,rfl⟩⟩));go_ret;exact vZ HB
 ·replace c4:=uZ c4;subst c4;rw[if_neg vM]at H;obtain rfl:=vU H;go_enter Tryz.func113,Tryz.ntmps113;go_wp2_with (first|(refine rz 3 #[.int .i64 I,.int .i64 ak] 76 ?_;intro bO hg dp ag hb;have aE:=bm (ag);have bT:=bG HB hg;replace HB:=bW HB hb;clear hb ag hg;obtain⟨cz,cA,cB,cC⟩:=b2 aE)|(refine gB (some 8) Tryz.func106 #[.int .i64 a0,.int .i64 I] rfl ?_;(with_reducible refine(oD.calls a0 I false _ A3.out).mono ?_);rintro e w' ⟨rfl,⟨nd,rfl⟩⟩;refine⟨_,rfl,?_⟩));go_ret;exact vZ HB
def qa.j0:Nat→List Int→Bool→Int→Int→Option (Bool)
 |0,_,_,_,_=>none
 |k+1,x1,x17,ED,EE=>if x17=true then(some false)else((kv.f k x1 ED).bind fun aM=>((pC.f k aM EE).bind fun b4=>(some (b4==aM))))
def qa.f (k:Nat) (a0:Int) (l1:List Int) (aa:Int) (ab:Int):Option (Bool):=(kc.f k a0 l1).bind fun bb=>(if bb=true then((uY.f a0 aa ab).bind fun aN=>(qa.j0 k l1 (!aN) aa ab))else(qa.j0 k l1 true aa ab))
theorem qa.jQ:∀k,(∀y0 y1 y2 y3,qg (qa.j0 k y0 y1 y2 y3) (qa.j0 (k+1) y0 y1 y2 y3))
 |0=>fun _ _ _ _=> .z (by simp only[qa.j0])
 |k+1=>by
  have i0:=qa.jQ k;exact fun _ _ _ _=>by unfold qa.j0;infer_instance
instance qa.mo {k a0 a1 a2 a3}:qg (qa.f k a0 a1 a2 a3) (qa.f (k+1) a0 a1 a2 a3):=by have i0:=qa.jQ k;unfold qa.f;infer_instance
theorem qa.calls (k:Nat) (a0:Int) (A1:Option Addr) (c1:Nat) (l1:List Int) (aa:Int) (ab:Int) (r:Bool) (w:World) (cD:Kd.C (Kd.int .i64) w A1 l1.length l1) (cE:l1.length≤c1) (h:qa.f k a0 l1 aa ab=some r):
  Calls Tryz.prog 59 #[.int .i64 a0,.slice A1 l1.length c1,.agg #[.int .i64 aa,.int .i64 ab]] w fun e w'=>e= .returned (.bool r)∧Below w.heap.size w w':=by
 have cy:=Tryz.underlying76;have cm:=bm cD;have cn:=bm cE;clear cD cE;have HB:=bm (Below.refl w.heap.size w);have H:=h;clear h;unfold qa.f at H;have aA:=bm H;clear H;go_enter Tryz.func59,Tryz.ntmps59;go_upto_region 1 with(first|(refine rz 5 #[.int .i64 aa,.int .i64 ab] 76 ?_;intro cp hg w5 ag hb;have o:=bm (ag);have dq:=bG HB hg;replace HB:=bW HB hb;clear hb ag hg))
 (try simp only[Act.put,qA,qB,qC]);go_cut [17] (fun ca wc=>∃(kq:Nat) (aW:Bool),ca= .bool aW∧jX (qa.j0 kq l1 aW aa ab=some r)∧jX (kq≤k)∧rG wc cp #[.int .i64 aa,.int .i64 ab] 76∧jX (Below w.heap.size w wc))
 case first=>
  have H:=aA.out;clear aA;obtain⟨bb,A6,H⟩:=bE H;try dsimp only at H
  by_cases c7:bb=true
  ·subst c7;rw[if_pos rfl]at H;obtain⟨aN,A8,H⟩:=bE H;try dsimp only at H
   have H':=bm H;clear H;go_wp2_with (first|(refine gB (some 10) Tryz.func103 #[.int .i64 a0,.slice A1 l1.length c1] rfl ?_;(with_reducible refine(kc.calls k a0 _ _ l1 true _ ?_ ?_ A6.out).mono ?_);exact cY cm HB;exact cn.out;rintro e w9 ⟨rfl,hb⟩;refine⟨_,rfl,?_⟩;replace o:=bU o hb;replace HB:=bW HB hb;clear hb;obtain⟨bV,bZ,b0,b1⟩:=b2 o)|(go_at_call 113;(with_reducible refine(uY.calls a0 aa ab aN _ A8.out).mono ?_);rintro e dp ⟨rfl,hb⟩;replace o:=bU o hb;replace HB:=bW HB hb;clear hb));go_meet
   case rel=>exact⟨_,(!aN),(by first|rfl|(simp;done)|(simp[*];done)),H',⟨by first|omega|exact Nat.le_refl _⟩,⟨kS o⟩,⟨wZ HB⟩⟩
  ·replace c7:=uZ c7;subst c7;rw[if_neg vM]at H;have H':=bm H;clear H;go_wp2_with (first|(refine gB (some 10) Tryz.func103 #[.int .i64 a0,.slice A1 l1.length c1] rfl ?_;(with_reducible refine(kc.calls k a0 _ _ l1 false _ ?_ ?_ A6.out).mono ?_);exact cY cm HB;exact cn.out;rintro e dj ⟨rfl,hb⟩;refine⟨_,rfl,?_⟩;replace o:=bU o hb;replace HB:=bW HB hb;clear hb));go_meet
   case rel=>exact⟨_,(true),(by first|rfl|(simp;done)|(simp[*];done)),H',⟨by first|omega|exact Nat.le_refl _⟩,⟨kS o⟩,⟨wZ HB⟩⟩
 case rest=>
  clear aA;obtain⟨kq,aW,rfl,HA,bw,o,HB⟩:=hcut;cases kq with
  |zero=>exact absurd HA.out (by simp[qa.j0])
  |succ xQ=>
   have H:=HA.out;clear HA;simp only[qa.j0]at H;by_cases aD:aW=true
   ·subst aD;rw[if_pos rfl]at H;obtain rfl:=vU H;go_wp2;go_ret;exact vZ HB
   ·replace aD:=uZ aD;subst aD;rw[if_neg vM]at H;obtain⟨aM,dr,H⟩:=bE H;try dsimp only at H
    obtain⟨b4,bH,H⟩:=bE H;try dsimp only at H
    obtain rfl:=vU H;obtain⟨cF,cG,cH,cI⟩:=b2 o;go_wp2_with (first|(refine gB (some 21) Tryz.func104 #[.slice A1 l1.length c1,.int .i64 aa] rfl ?_;(with_reducible refine(kv.calls xQ _ _ l1 aa aM _ ?_ ?_ dr.out).mono ?_);exact cY cm HB;exact cn.out;rintro e dx ⟨rfl,hb⟩;refine⟨_,rfl,?_⟩;replace o:=bU o hb;replace HB:=bW HB hb;clear hb;obtain⟨cJ,cK,cL,cM⟩:=b2 o)|(refine gB (some 25) Tryz.func54 #[.int .i64 aM,.int .i64 ab] rfl ?_;(with_reducible refine(pC.calls xQ aM ab b4 _ bH.out).mono ?_);rintro e w' ⟨rfl,⟨nd,rfl⟩⟩;refine⟨_,rfl,?_⟩));go_ret;exact vZ HB
end Go.Proofs.YtihgpkohglcijaaGreatDoor.P
