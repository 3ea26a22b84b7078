import Derived.Test.YtihgpkohglcijaaGreatDoorPx0
import Derived.Test.YtihgpkohglcijaaGreatDoorPx14
namespace Go.Proofs.YtihgpkohglcijaaGreatDoor.P
open Go.RowKit Go.Proofs.YtihgpkohglcijaaGreatDoorW.PrintWords Go.Proofs.YtihgpkohglcijaaGreatDoorW.PrintLast Go.Proofs.YtihgpkohglcijaaGreatDoorW.PrintMore
attribute [local go_sem] max2_int min2_int max_two min_two max_three min_three max_four min_four   -- for this text's walks alone
set_option linter.unusedVariables false
set_option linter.unusedSimpArgs false
set_option maxHeartbeats 8000000
set_option maxRecDepth 100000
abbrev Mk15_0:Array Bool:= #[false,false,false,false,false,false,false,false,false]
mutual
def spec_TidyRank.l0:Nat→Int→List Int→List Int→Int→Option (List Int)
 |0,_,_,_,_=>none
 |k+1,x0,x1,x5,x6=>if x6<(x1.length:Int)then((spec_RankOk.f k x0 x1).bind fun bh=>(spec_TidyRank.j1 k x0 x1 x5 x6 bh))else(spec_TidyRank.j1 k x0 x1 x5 x6 false)
def spec_TidyRank.j1:Nat→Int→List Int→List Int→Int→Bool→Option (List Int)
 |0,_,_,_,_,_=>none
 |k+1,x0,x1,x5,x6,x20=>if x20=true then(spec_TidyRank.l1 k x0 x1 x5 x6 0 0)else(some x5)
def spec_TidyRank.l1:Nat→Int→List Int→List Int→Int→Int→Int→Option (List Int)
 |0,_,_,_,_,_,_=>none
 |k+1,x0,x1,x5,x6,x7,x8=>if 0≤x6 then(if x6<(x1.length:Int)then(if x8<(rd x1 x6)then(spec_TidyRank.l2 k x0 x1 x5 x6 x7 x8 false 0)else(if x5.length<17592186044416 then(spec_TidyRank.l0 k x0 x1 (x5++ [x7]) (wrap64 (x6+1)))else(none)))else(none))else(none)
def spec_TidyRank.l2:Nat→Int→List Int→List Int→Int→Int→Int→Bool→Int→Option (List Int)
 |0,_,_,_,_,_,_,_,_=>none
 |k+1,x0,x1,x5,x6,x7,x8,x9,x10=>if x10<(x1.length:Int)then(if x9=true then(spec_TidyRank.l2 k x0 x1 x5 x6 x7 x8 true (wrap64 (x10+1)))else(if 0≤x10 then(spec_TidyRank.l2 k x0 x1 x5 x6 x7 x8 ((rd x1 x10)==x8) (wrap64 (x10+1)))else(none)))else(if x9=true then(spec_TidyRank.l1 k x0 x1 x5 x6 (wrap64 (x7+1)) (wrap64 (x8+1)))else(spec_TidyRank.l1 k x0 x1 x5 x6 x7 (wrap64 (x8+1))))
end
def spec_TidyRank.f (k:Nat) (a0:Int) (l1:List Int):Option (List Int):=spec_TidyRank.l0 k a0 l1 (([]:List Int)) 0
theorem spec_TidyRank.mono_l:∀k,(∀y0 y1 y2 y3,MoR (spec_TidyRank.l0 k y0 y1 y2 y3) (spec_TidyRank.l0 (k+1) y0 y1 y2 y3))∧(∀y0 y1 y2 y3 y4,MoR (spec_TidyRank.j1 k y0 y1 y2 y3 y4) (spec_TidyRank.j1 (k+1) y0 y1 y2 y3 y4))∧(∀y0 y1 y2 y3 y4 y5,MoR (spec_TidyRank.l1 k y0 y1 y2 y3 y4 y5) (spec_TidyRank.l1 (k+1) y0 y1 y2 y3 y4 y5))∧(∀y0 y1 y2 y3 y4 y5 y6 y7,MoR (spec_TidyRank.l2 k y0 y1 y2 y3 y4 y5 y6 y7) (spec_TidyRank.l2 (k+1) y0 y1 y2 y3 y4 y5 y6 y7))
 |0=>⟨fun _ _ _ _=> .z (by simp only[spec_TidyRank.l0]),fun _ _ _ _ _=> .z (by simp only[spec_TidyRank.j1]),fun _ _ _ _ _ _=> .z (by simp only[spec_TidyRank.l1]),fun _ _ _ _ _ _ _ _=> .z (by simp only[spec_TidyRank.l2])⟩
 |k+1=>by
  have⟨i0,i1,i2,i3⟩:=spec_TidyRank.mono_l k;exact⟨fun _ _ _ _=>by unfold spec_TidyRank.l0;infer_instance,fun _ _ _ _ _=>by unfold spec_TidyRank.j1;infer_instance,fun _ _ _ _ _ _=>by unfold spec_TidyRank.l1;infer_instance,fun _ _ _ _ _ _ _ _=>by unfold spec_TidyRank.l2;infer_instance⟩
instance spec_TidyRank.mo {k a0 a1}:MoR (spec_TidyRank.f k a0 a1) (spec_TidyRank.f (k+1) a0 a1):=by have⟨i0,i1,i2,i3⟩:=spec_TidyRank.mono_l k;unfold spec_TidyRank.f;infer_instance
theorem spec_TidyRank.calls (k:Nat) (a0:Int) (A1:Option Addr) (c1:Nat) (l1:List Int) (r:List Int) (w:World) (bk:Kd.C (Kd.int .i64) w A1 l1.length l1) (bl:l1.length≤c1) (h:spec_TidyRank.f k a0 l1=some r):
  Calls Tryz.prog 114 #[.int .i64 a0,.slice A1 l1.length c1] w fun e w'=>∃cp:Value,e= .returned (cp)∧Kd.R (Kd.int .i64) 3 w' w.heap.size (fun _=>True) cp r∧Below w.heap.size w w':=by
 have ar:=Asd.mk bk;have aA:=Asd.mk bl;clear bk bl;have HB:=Asd.mk (Below.refl w.heap.size w);have H:(spec_TidyRank.l0 k a0 l1 (([]:List Int)) 0)=some r:=h;clear h;obtain⟨b6,bc⟩:∃y_:List Int,y_=(([]:List Int)):=⟨_,rfl⟩;replace H:(spec_TidyRank.l0 k a0 l1 b6 0)=some r:=by first|(rw[bc];exact H)|exact H
 have bn:=Asd.mk bc;clear bc;have H':=Asd.mk H;clear H;go_enter Tryz.func114,Tryz.ntmps114;go_wp2_with (first|((with_reducible refine gate_dst (N:=11) rfl ?_);refine Kd.R_lit (Kd.int .i64) _ 3 ?hg (N:=11) ?hd (xs:=([]:List Int)) (inner:=[]) (ok:=fun _=>True) (okp:=fun _=>True) ?hr ?hp (fun _ hk=>hk) trivial (Below.refl _ _) (Nat.le_refl _) (by simp) ?_;(case hd=>rfl);(case hg=>rfl);(case hr=>first|(go_simp;done)|(go_simp;rfl));(case hp=>exact(Reps.none _ _));intro dn w3 bo hb dh b9;clear dh b9;(first|rw[←bn.out]at bo|(simp only[Int.reduceToNat]at bo;rw[←bn.out]at bo));have ca:=Asd.mk (Kd.R_lower bo (below_size (wZ HB)));replace HB:=bW HB hb;clear hb bo));go_loopg [5,6] k (fun kq v5 v6 w'=>∃(al:List Int) (o:Int),v6= .int .i64 o∧Asd (spec_TidyRank.l0 kq a0 l1 al o=some r)∧Asd (kq≤k)∧Asd (Kd.R (Kd.int .i64) 3 w' w.heap.size (fun _=>True) v5 al)∧Asd (Below w.heap.size w w'))
 case atStart=>exact⟨(b6),(0),(by first|rfl|(simp;done)|(simp[*];done)),H',⟨Nat.le_refl _⟩,⟨by(repeat apply Kd.RS);exact ca.out⟩,⟨wZ HB⟩⟩
 case round=>
  clear H';obtain⟨al,o,rfl,HA,ak,HO_5,HB⟩:=hrel;cases gk with
  |zero=>exact absurd HA.out (by simp[spec_TidyRank.l0])
  |succ k1=>
   have H:=HA.out;clear HA;simp only[spec_TidyRank.l0]at H;have cb:=Asd.mk H;clear H;go_upto_region 3 with(fail)
   go_cut [20] (fun v20 wc=>∃(kq:Nat) (aW:Bool),v20= .bool aW∧Asd (spec_TidyRank.j1 kq a0 l1 al o aW=some r)∧Asd (kq≤k1)∧Asd (Kd.R (Kd.int .i64) 3 wc w.heap.size (fun _=>True) u5 al)∧Asd (Below w.heap.size w wc))
   case first=>
    have H:=cb.out;clear cb;rcases iT H with⟨c6,H⟩|⟨c6,H⟩
    ·have a6:=decide_eq_true c6;clear c6;(first|rw[a6]|(simp only[i64_w,i32_w];rw[a6])|skip);obtain⟨bh,A7,H⟩:=bE H;try dsimp only at H
     have H':=Asd.mk H;clear H;go_wp2_with (first|(go_at_call 103;(with_reducible refine(spec_RankOk.calls k1 a0 _ _ l1 bh _ ?side1 ?side2 A7.out).mono ?_);(case side1=>exact cY ar HB);(case side2=>exact aA.out);rintro e w8 ⟨rfl,hb⟩;replace HO_5:=bR HO_5 hb;replace HB:=bW HB hb;clear hb));go_meet
     case rel=>exact⟨_,(bh),(by first|rfl|(simp;done)|(simp[*];done)),H',⟨by have:=ak.out;first|omega|exact Nat.le_refl _⟩,⟨by(repeat apply Kd.RS);exact HO_5.out⟩,⟨wZ HB⟩⟩
    ·have a6:=decide_eq_false c6;clear c6;(first|rw[a6]|(simp only[i64_w,i32_w];rw[a6])|skip);have H':=Asd.mk H;clear H;go_wp2;go_meet
     case rel=>exact⟨_,(false),(by first|rfl|(simp;done)|(simp[*];done)),H',⟨by have:=ak.out;first|omega|exact Nat.le_refl _⟩,⟨by(repeat apply Kd.RS);exact HO_5.out⟩,⟨wZ HB⟩⟩
   case rest=>
    clear cb;obtain⟨kq,aW,rfl,HA,aT,HO_5,HB⟩:=hcut;cases kq with
    |zero=>exact absurd HA.out (by simp[spec_TidyRank.j1])
    |succ kj4=>
     have H:=HA.out;clear HA;simp only[spec_TidyRank.j1]at H;by_cases c9:aW=true
     ·subst c9;rw[if_pos rfl]at H;have H':=Asd.mk H;clear H;go_wp2;go_loopg [7,8] kj4 (fun kq v7 v8 w'=>∃(av:Int) (aC:Int),v7= .int .i64 av∧v8= .int .i64 aC∧Asd (spec_TidyRank.l1 kq a0 l1 al o av aC=some r)∧Asd (kq≤kj4)∧Asd (Kd.R (Kd.int .i64) 3 w' w.heap.size (fun _=>True) u5 al)∧Asd (Below w.heap.size w w'))
      case atStart=>exact⟨(0),(0),(by first|rfl|(simp;done)|(simp[*];done)),(by first|rfl|(simp;done)|(simp[*];done)),H',⟨Nat.le_refl _⟩,⟨by(repeat apply Kd.RS);exact HO_5.out⟩,⟨wZ HB⟩⟩
      case round=>
       clear H';obtain⟨av,aC,rfl,rfl,HA,aU,HO_5,HB⟩:=hrel;cases gk with
       |zero=>exact absurd HA.out (by simp[spec_TidyRank.l1])
       |succ k3=>
        have H:=HA.out;clear HA;simp only[spec_TidyRank.l1]at H;obtain⟨c10,H⟩:=iN H;have cc:=decide_eq_true c10;clear c10;obtain⟨aY,H⟩:=iN H;have bp:=decide_eq_true aY;clear aY;rcases iT H with⟨bq,H⟩|⟨bq,H⟩
        ·have cd:=decide_eq_true bq;clear bq;have H':=Asd.mk H;clear H;have aD:0≤(o:Int):=odt;have aE:o<(l1.length:Int):=odt;obtain⟨br,bs,af⟩:=Kd.at_int ar.out o aD aE;cases bs;replace af:=(HB.out.cell (World.block_lt_of_cell? w _ af)).trans af;replace aD:=eq_true aD;replace aE:=eq_true aE;go_wp2;go_loopg [9,10] k3 (fun kq v9 v10 w'=>∃(a7:Bool) (aj:Int),v9= .bool a7∧v10= .int .i64 aj∧Asd (spec_TidyRank.l2 kq a0 l1 al o av aC a7 aj=some r)∧Asd (kq≤k3)∧Asd (Kd.R (Kd.int .i64) 3 w' w.heap.size (fun _=>True) u5 al)∧Asd (Below w.heap.size w w'))
         case atStart=>exact⟨(false),(0),(by first|rfl|(simp;done)|(simp[*];done)),(by first|rfl|(simp;done)|(simp[*];done)),H',⟨Nat.le_refl _⟩,⟨by(repeat apply Kd.RS);exact HO_5.out⟩,⟨wZ HB⟩⟩
         case round=>
          clear H';obtain⟨a7,aj,rfl,rfl,HA,a8,HO_5,HB⟩:=hrel;cases gk with
          |zero=>exact absurd HA.out (by simp[spec_TidyRank.l2])
          |succ k4=>
           have H:=HA.out;clear HA;simp only[spec_TidyRank.l2]at H;rcases iT H with⟨bu,H⟩|⟨bu,H⟩
           ·have cf:=decide_eq_true bu;clear bu;by_cases aZ:a7=true
            ·subst aZ;rw[if_pos rfl]at H;have H':=Asd.mk H;clear H;go_wp2;go_roundg k4
             case measure=>have:=ak.out;have:=aT.out;have:=aU.out;have:=a8.out;omega
             case rel=>exact⟨(true),(wrap64 (aj+1)),(by first|rfl|(simp;done)|(simp[*];done)),(by first|rfl|(simp;done)|(simp[*];done)),H',⟨by have:=ak.out;have:=aT.out;have:=aU.out;have:=a8.out;omega⟩,⟨by(repeat apply Kd.RS);exact HO_5.out⟩,⟨wZ HB⟩⟩
            ·replace aZ:=Bool.eq_false_iff.mpr aZ;subst aZ;rw[if_neg (show¬(false=true) by decide)]at H;obtain⟨cq,H⟩:=iN H;have di:=decide_eq_true cq;clear cq;have H':=Asd.mk H;clear H;have bw:0≤(aj:Int):=odt;have bx:aj<(l1.length:Int):=odt;obtain⟨cg,cr,aG⟩:=Kd.at_int ar.out aj bw bx;obtain rfl:br=cg:=(by injection cr);replace aG:=(HB.out.cell (World.block_lt_of_cell? w _ aG)).trans aG;replace bw:=eq_true bw;replace bx:=eq_true bx;go_wp2;go_roundg k4
             case measure=>have:=ak.out;have:=aT.out;have:=aU.out;have:=a8.out;omega
             case rel=>exact⟨(((rd l1 aj)==aC)),(wrap64 (aj+1)),(by first|rfl|(simp;done)|(simp[*];done)),(by first|rfl|(simp;done)|(simp[*];done)),H',⟨by have:=ak.out;have:=aT.out;have:=aU.out;have:=a8.out;omega⟩,⟨by(repeat apply Kd.RS);exact HO_5.out⟩,⟨wZ HB⟩⟩
           ·have cf:=decide_eq_false bu;clear bu;by_cases b5:a7=true
            ·subst b5;rw[if_pos rfl]at H;have H':=Asd.mk H;clear H;go_wp2;go_roundg k4
             case measure=>have:=ak.out;have:=aT.out;have:=aU.out;have:=a8.out;omega
             case rel=>exact⟨(wrap64 (av+1)),(wrap64 (aC+1)),(by first|rfl|(simp;done)|(simp[*];done)),(by first|rfl|(simp;done)|(simp[*];done)),H',⟨by have:=ak.out;have:=aT.out;have:=aU.out;have:=a8.out;omega⟩,⟨by(repeat apply Kd.RS);exact HO_5.out⟩,⟨wZ HB⟩⟩
            ·replace b5:=Bool.eq_false_iff.mpr b5;subst b5;rw[if_neg (show¬(false=true) by decide)]at H;have H':=Asd.mk H;clear H;go_wp2;go_roundg k4
             case measure=>have:=ak.out;have:=aT.out;have:=aU.out;have:=a8.out;omega
             case rel=>exact⟨(av),(wrap64 (aC+1)),(by first|rfl|(simp;done)|(simp[*];done)),(by first|rfl|(simp;done)|(simp[*];done)),H',⟨by have:=ak.out;have:=aT.out;have:=aU.out;have:=a8.out;omega⟩,⟨by(repeat apply Kd.RS);exact HO_5.out⟩,⟨wZ HB⟩⟩
        ·have cd:=decide_eq_false bq;clear bq;obtain⟨ct,H⟩:=iN H;have ch:=Asd.mk ct;clear ct;obtain⟨b7,bd⟩:∃y_:List Int,y_=(al++ [av]):=⟨_,rfl⟩;replace H:(spec_TidyRank.l0 k3 a0 l1 b7 (wrap64 (o+1)))=some r:=by first|(rw[bd];exact H)|exact H
         have cj:=Asd.mk bd;clear bd;have H':=Asd.mk H;clear H;have aD:0≤(o:Int):=odt;have aE:o<(l1.length:Int):=odt;obtain⟨br,bs,af⟩:=Kd.at_int ar.out o aD aE;cases bs;replace af:=(HB.out.cell (World.block_lt_of_cell? w _ af)).trans af;replace aD:=eq_true aD;replace aE:=eq_true aE;go_wp2_with (first|((with_reducible refine gate_builtin (b:=.append) (xs:= #[.tmp 49,.tmp 51]) rfl ?_);at_builtin;refine Kd.R_append (Kd.int .i64) (w0:=w) w.heap.size rfl (.tmp 49) (.tmp 51) 23 3 (.int .i64 0) 8 rfl Tryz.underlying23 info3 rfl (by decide) (by omega) u5 al av [.int .i64 av] (fun _=>True) (fun _=>False) rfl rfl ?aP (fun _ hk=>hk.elim) ?aF ?aO ?aB ?aS ?aL ?_;(case aP=>exact rfl);(case aB=>exact(wZ HB));(case aF=>exact(fun _ _=>trivial));(case aO=>exact(rS HO_5));(case aS=>exact(below_size (wZ HB)));(case aL=>have:=ch.out;omega);intro dp dA ho hb hg dj;rw[←cj.out]at ho;replace HB:=Asd.mk (hb);have ck:=Asd.mk (ho);clear HO_5;clear ho hb hg dj));go_roundg k3
         case measure=>have:=ak.out;have:=aT.out;have:=aU.out;omega
         case rel=>exact⟨(b7),(wrap64 (o+1)),(by first|rfl|(simp;done)|(simp[*];done)),H',⟨by have:=ak.out;have:=aT.out;have:=aU.out;omega⟩,⟨by(repeat apply Kd.RS);exact ck.out⟩,⟨wZ HB⟩⟩
     ·replace c9:=Bool.eq_false_iff.mpr c9;subst c9;rw[if_neg (show¬(false=true) by decide)]at H;obtain rfl:=Option.some.inj H;go_wp2;go_ret;exact⟨_,by first|rfl|(simp[*,errW_none,errW_some]<;>rfl),by(repeat apply Kd.RS);exact HO_5.out,wZ HB⟩
def spec_l10Tidy.l0:Nat→List Int→List Int→Int→Option (Bool)
 |0,_,_,_=>none
 |k+1,x1,x5,x6=>if x6<(x5.length:Int)then(if 0≤x6 then(if x6<(x1.length:Int)then(if(rd x5 x6)=(rd x1 x6)then(spec_l10Tidy.l0 k x1 x5 (wrap64 (x6+1)))else(some false))else(none))else(none))else(some true)
def spec_l10Tidy.f (k:Nat) (a0:Int) (l1:List Int):Option (Bool):=(spec_RankOk.f k a0 l1).bind fun ba=>(if ba=true then((spec_TidyRank.f k a0 l1).bind fun ag=>(spec_l10Tidy.l0 k l1 ag 0))else(some false))
theorem spec_l10Tidy.mono_l:∀k,(∀y0 y1 y2,MoR (spec_l10Tidy.l0 k y0 y1 y2) (spec_l10Tidy.l0 (k+1) y0 y1 y2))
 |0=>fun _ _ _=> .z (by simp only[spec_l10Tidy.l0])
 |k+1=>by
  have i0:=spec_l10Tidy.mono_l k;exact fun _ _ _=>by unfold spec_l10Tidy.l0;infer_instance
instance spec_l10Tidy.mo {k a0 a1}:MoR (spec_l10Tidy.f k a0 a1) (spec_l10Tidy.f (k+1) a0 a1):=by have i0:=spec_l10Tidy.mono_l k;unfold spec_l10Tidy.f;infer_instance
theorem spec_l10Tidy.calls (k:Nat) (a0:Int) (A1:Option Addr) (c1:Nat) (l1:List Int) (r:Bool) (w:World) (bk:Kd.C (Kd.int .i64) w A1 l1.length l1) (bl:l1.length≤c1) (h:spec_l10Tidy.f k a0 l1=some r):
  Calls Tryz.prog 62 #[.int .i64 a0,.slice A1 l1.length c1] w fun e w'=>e= .returned (.bool r)∧Below w.heap.size w w':=by
 have ar:=Asd.mk bk;have aA:=Asd.mk bl;clear bk bl;have HB:=Asd.mk (Below.refl w.heap.size w);have H:((spec_RankOk.f k a0 l1).bind fun ba=>(if ba=true then((spec_TidyRank.f k a0 l1).bind fun ag=>(spec_l10Tidy.l0 k l1 ag 0))else(some false)))=some r:=h;clear h;obtain⟨ba,A3,H⟩:=bE H;try dsimp only at H
 by_cases c4:ba=true
 ·subst c4;rw[if_pos rfl]at H;obtain⟨ag,A5,H⟩:=bE H;try dsimp only at H
  have H':=Asd.mk H;clear H;go_enter Tryz.func62,Tryz.ntmps62;go_wp2_with (first|(go_at_call 103;(with_reducible refine(spec_RankOk.calls k a0 _ _ l1 true _ ?side1 ?side2 A3.out).mono ?_);(case side1=>exact cZ ar.out);(case side2=>exact aA.out);rintro e w6 ⟨rfl,hb⟩;replace HB:=bW HB hb;clear hb)|(go_at_call 114;(with_reducible refine(spec_TidyRank.calls k a0 _ _ l1 ag _ ?side1 ?side2 A5.out).mono ?_);(case side1=>exact cY ar HB);(case side2=>exact aA.out);rintro e w7 ⟨bz,rfl,bb,hb⟩;have bf:=Asd.mk (Kd.R_lower bb (below_size (wZ HB)));replace HB:=bW HB hb;clear hb;(try clear bb)));repeat(go_quiet (first|(go_at_call 103;(with_reducible refine(spec_RankOk.calls k a0 _ _ l1 true _ ?side1 ?side2 A3.out).mono ?_);(case side1=>exact cZ ar.out);(case side2=>exact aA.out);rintro e w6 ⟨rfl,hb⟩;replace HB:=bW HB hb;clear hb)|(go_at_call 114;(with_reducible refine(spec_TidyRank.calls k a0 _ _ l1 ag _ ?side1 ?side2 A5.out).mono ?_);(case side1=>exact cY ar HB);(case side2=>exact aA.out);rintro e w7 ⟨bz,rfl,bb,hb⟩;have bf:=Asd.mk (Kd.R_lower bb (below_size (wZ HB)));replace HB:=bW HB hb;clear hb;(try clear bb)));try go_wp2_with (first|(go_at_call 103;(with_reducible refine(spec_RankOk.calls k a0 _ _ l1 true _ ?side1 ?side2 A3.out).mono ?_);(case side1=>exact cZ ar.out);(case side2=>exact aA.out);rintro e w6 ⟨rfl,hb⟩;replace HB:=bW HB hb;clear hb)|(go_at_call 114;(with_reducible refine(spec_TidyRank.calls k a0 _ _ l1 ag _ ?side1 ?side2 A5.out).mono ?_);(case side1=>exact cY ar HB);(case side2=>exact aA.out);rintro e w7 ⟨bz,rfl,bb,hb⟩;have bf:=Asd.mk (Kd.R_lower bb (below_size (wZ HB)));replace HB:=bW HB hb;clear hb;(try clear bb))))
  go_loopg [6] k (fun kq v6 w'=>∃(o:Int),v6= .int .i64 o∧Asd (spec_l10Tidy.l0 kq l1 ag o=some r)∧Asd (kq≤k)∧Asd (Kd.R (Kd.int .i64) 3 w' w.heap.size (fun _=>True) bz ag)∧Asd (Below w.heap.size w w'))
  case atStart=>exact⟨(0),(by first|rfl|(simp;done)|(simp[*];done)),H',⟨Nat.le_refl _⟩,⟨by(repeat apply Kd.RS);exact bf.out⟩,⟨wZ HB⟩⟩
  case round=>
   clear H';obtain⟨o,rfl,HA,ak,HO_5,HB⟩:=hrel;cases gk with
   |zero=>exact absurd HA.out (by simp[spec_l10Tidy.l0])
   |succ k1=>
    have H:=HA.out;clear HA;simp only[spec_l10Tidy.l0]at H;rcases iT H with⟨c8,H⟩|⟨c8,H⟩
    ·have cu:=decide_eq_true c8;clear c8;obtain⟨c9,H⟩:=iN H;have dq:=decide_eq_true c9;clear c9;obtain⟨c10,H⟩:=iN H;have cc:=decide_eq_true c10;clear c10;rcases iT H with⟨aY,H⟩|⟨aY,H⟩
     ·have bp:((rd ag o)==(rd l1 o))=true:=beq_iff_eq.mpr aY;have cl:((rd ag o) !=(rd l1 o))=false:=bne_eq_false_iff_eq.mpr aY;clear aY;have H':=Asd.mk H;clear H;obtain⟨dr,dt,cv⟩:=Kd.R_slice HO_5.out;subst cv;have aH:0≤(o:Int):=odt;have aI:o<(ag.length:Int):=odt;obtain⟨cm,bA,bB⟩:=Kd.at_int (Kd.R_reads' HO_5.out).2.2 o aH aI;cases bA;replace aH:=eq_true aH;replace aI:=eq_true aI;have aJ:0≤(o:Int):=odt;have aK:o<(l1.length:Int):=odt;obtain⟨cn,bD,ah⟩:=Kd.at_int ar.out o aJ aK;cases bD;replace ah:=(HB.out.cell (World.block_lt_of_cell? w _ ah)).trans ah;replace aJ:=eq_true aJ;replace aK:=eq_true aK;go_wp2;repeat(go_quiet (fail);try go_wp2)
      go_roundg k1
      case measure=>have:=ak.out;omega
      case rel=>exact⟨(wrap64 (o+1)),(by first|rfl|(simp;done)|(simp[*];done)),H',⟨by have:=ak.out;omega⟩,⟨by(repeat apply Kd.RS);exact HO_5.out⟩,⟨wZ HB⟩⟩
     ·have bp:((rd ag o)==(rd l1 o))=false:=beq_eq_false_iff_ne.mpr aY;have cl:((rd ag o) !=(rd l1 o))=true:=bne_iff_ne.mpr aY;obtain rfl:=Option.some.inj H;obtain⟨du,dv,cw⟩:=Kd.R_slice HO_5.out;subst cw;have aH:0≤(o:Int):=odt;have aI:o<(ag.length:Int):=odt;obtain⟨cm,bA,bB⟩:=Kd.at_int (Kd.R_reads' HO_5.out).2.2 o aH aI;cases bA;replace aH:=eq_true aH;replace aI:=eq_true aI;have aJ:0≤(o:Int):=odt;have aK:o<(l1.length:Int):=odt;obtain⟨cn,bD,ah⟩:=Kd.at_int ar.out o aJ aK;cases bD;replace ah:=(HB.out.cell (World.block_lt_of_cell? w _ ah)).trans ah;replace aJ:=eq_true aJ;replace aK:=eq_true aK;go_wp2;repeat(go_quiet (fail);try go_wp2)
      go_ret;exact⟨by first|rfl|(simp[*,errW_none,errW_some]<;>rfl),wZ HB⟩
    ·have cu:=decide_eq_false c8;clear c8;obtain rfl:=Option.some.inj H;obtain⟨dw,dx,cx⟩:=Kd.R_slice HO_5.out;subst cx;go_wp2;repeat(go_quiet (fail);try go_wp2)
     go_ret;exact⟨by first|rfl|(simp[*,errW_none,errW_some]<;>rfl),wZ HB⟩
 ·replace c4:=Bool.eq_false_iff.mpr c4;subst c4;rw[if_neg (show¬(false=true) by decide)]at H;obtain rfl:=Option.some.inj H;go_enter Tryz.func62,Tryz.ntmps62;go_wp2_with (first|(go_at_call 103;(with_reducible refine(spec_RankOk.calls k a0 _ _ l1 false _ ?side1 ?side2 A3.out).mono ?_);(case side1=>exact cZ ar.out);(case side2=>exact aA.out);rintro e cy ⟨rfl,hb⟩;replace HB:=bW HB hb;clear hb));repeat(go_quiet (first|(go_at_call 103;(with_reducible refine(spec_RankOk.calls k a0 _ _ l1 false _ ?side1 ?side2 A3.out).mono ?_);(case side1=>exact cZ ar.out);(case side2=>exact aA.out);rintro e cy ⟨rfl,hb⟩;replace HB:=bW HB hb;clear hb));try go_wp2_with (first|(go_at_call 103;(with_reducible refine(spec_RankOk.calls k a0 _ _ l1 false _ ?side1 ?side2 A3.out).mono ?_);(case side1=>exact cZ ar.out);(case side2=>exact aA.out);rintro e cy ⟨rfl,hb⟩;replace HB:=bW HB hb;clear hb)))
  go_ret;exact⟨by first|rfl|(simp[*,errW_none,errW_some]<;>rfl),wZ HB⟩
def spec_MindValid.l0:Nat→Int→Int→List Int→List (List Int)→Option (Bool)
 |0,_,_,_,_=>none
 |k+1,x3,x358000,x358001,x358002=>if x3<(x358002.length:Int)then(if 0≤x3 then((spec_l10Tidy.f k x358000 (rd_L1 x358002 x3)).bind fun bF=>(if bF=true then(spec_MindValid.l0 k (wrap64 (x3+1)) x358000 x358001 x358002)else(some false)))else(none))else((spec_l10Tidy.f k x358000 x358001).bind fun bH=>(if bH=true then(some (decide ((x358002.length:Int)≤10)))else(some false)))
def spec_MindValid.f (k:Nat) (ab:Int) (ae:List Int) (J:List (List Int)):Option (Bool):=spec_MindValid.l0 k 0 ab ae J
theorem spec_MindValid.mono_l:∀k,(∀y0 y1 y2 y3,MoR (spec_MindValid.l0 k y0 y1 y2 y3) (spec_MindValid.l0 (k+1) y0 y1 y2 y3))
 |0=>fun _ _ _ _=> .z (by simp only[spec_MindValid.l0])
 |k+1=>by
  have i0:=spec_MindValid.mono_l k;exact fun _ _ _ _=>by unfold spec_MindValid.l0;infer_instance
instance spec_MindValid.mo {k a0 a1 a2}:MoR (spec_MindValid.f k a0 a1 a2) (spec_MindValid.f (k+1) a0 a1 a2):=by have i0:=spec_MindValid.mono_l k;unfold spec_MindValid.f;infer_instance
def spec_MindValid.T4:Bool×List (List Nat×List Nat):=(true,[([],[]),([0],[0]),([],[]),([2],[2]),([],[]),([3,4],[3,4]),([5],[5]),([1,6],[1,6]),([7],[7])])
def spec_MindValid.B4:List Nat:=[0,1,0,4,0,28,60,127,255]
theorem spec_MindValid.tab4:rtab .any (opsOf Tryz.f12 4)=spec_MindValid.T4:=by kernel_rfl
theorem spec_MindValid.bits4:waitsOk spec_MindValid.T4.2 spec_MindValid.B4=true:=by kernel_rfl
theorem spec_MindValid.calls (k:Nat) (ab:Int) (ay:Option Addr) (az:Nat) (ae:List Int) (bj:Option Addr) (aV:Nat) (J:List (List Int)) (r:Bool) (w:World) (bJ:Kd.C (Kd.int .i64) w ay ae.length ae) (bO:ae.length≤az) (bT:Kd.C (Kd.slice 3 (Kd.int .i64)) w bj J.length J) (bV:J.length≤aV) (h:spec_MindValid.f k ab ae J=some r):
  Calls Tryz.prog 12 #[.agg #[.int .i64 ab,.slice ay ae.length az,.slice bj J.length aV]] w fun e w'=>e= .returned (.bool r)∧Below w.heap.size w w':=by
 have dy:=Tryz.underlying26;have bZ:=Asd.mk bJ;have b0:=Asd.mk bO;clear bJ bO;have b1:=Asd.mk bT;have dk:=Asd.mk bV;clear bT bV;have HB:=Asd.mk (Below.refl w.heap.size w);have H:(spec_MindValid.l0 k 0 ab ae J)=some r:=h;clear h;have H':=Asd.mk H;clear H;go_enter Tryz.func12,Tryz.ntmps12;go_wp2_with (first|((with_reducible refine gate_dst (N:=1) rfl ?_);(try(refine gate_guard (by rfl) ?_;dsimp only));refine bxA 1 #[.int .i64 ab,.slice ay ae.length az,.slice bj J.length aV] 26 ?_;intro au hg w2 b8 hb;have j:=Asd.mk (b8);have dm:=bG HB hg;replace HB:=bW HB hb;clear hb b8 hg));go_loopg [3] k (fun kq v3 w'=>∃(ad:Int),v3= .int .i64 ad∧Asd (spec_MindValid.l0 kq ad ab ae J=some r)∧Asd (kq≤k)∧Asd (w'.heap[au]?=some (.cells #[.int .i64 ab,(.slice ay ae.length az),(.slice bj J.length aV)] 26 (0,0)))∧Asd (Below w.heap.size w w'))
 case atStart=>exact⟨(0),(by first|rfl|(simp;done)|(simp[*];done)),H',⟨Nat.le_refl _⟩,⟨kS j⟩,⟨wZ HB⟩⟩
 case round=>
  clear H';obtain⟨ad,rfl,HA,ak,j,HB⟩:=hrel;cases gk with
  |zero=>exact absurd HA.out (by simp[spec_MindValid.l0])
  |succ k1=>
   have H:=HA.out;clear HA;simp only[spec_MindValid.l0]at H;rcases iT H with⟨c3,H⟩|⟨c3,H⟩
   ·have cz:=decide_eq_true c3;clear c3;obtain⟨c4,H⟩:=iN H;have dz:=decide_eq_true c4;clear c4;obtain⟨bF,A5,H⟩:=bE H;try dsimp only at H
    by_cases c6:bF=true
    ·subst c6;rw[if_pos rfl]at H;have H':=Asd.mk H;clear H;obtain⟨da,db,dc,dd,de,df⟩:=b3 j;try go_wp2
     replace j:=Asd.mk (bkD j.out);replace HB:=Asd.mk (bwD HB.out);have aM:0≤(ad:Int):=odt;have aN:ad<(J.length:Int):=odt;obtain⟨aQ,aw,ax,b4,I,an,ao⟩:=at_L1 b1.out ad aM aN;have aa:=I;cases b4;replace I:=(HB.out.cell (World.block_lt_of_cell? w _ I)).trans I;have aq:=Asd.mk ao;have aR:=Asd.mk an;clear ao an;replace aM:=eq_true aM;replace aN:=eq_true aN;refine start_ (n:=9) (S:=fun w'=>w'.cell? ⟨au,0,none⟩=some (.int .i64 ab)∧w'.cell? ⟨au,1,none⟩=some (.slice ay ae.length az)∧w'.cell? ⟨au,2,none⟩=some (.slice (some aQ) J.length aV)∧w'.cell? (aQ.add (ad).toNat)=some (.slice aw (rd_L1 J ad).length ax)) (ds:=[]) Mk15_0 (by kernel_rfl) rfl rfl ⟨(bkC j.out 0).trans rfl,(bkC j.out 1).trans rfl,(bkC j.out 2).trans rfl,((HB.out.cell (World.block_lt_of_cell? w _ aa)).trans aa)⟩ (fun hHeld=>?_);refine with_tabW spec_MindValid.tab4 spec_MindValid.bits4 (fun ai bg=>?_);generalize wr.drew=w8 at j HB aq I hHeld⊢;refine pA 0 11 ai ?_ ?_ ?_ ?_ (pA 2 13 ai ?_ ?_ ?_ ?_ (pA 4 15 ai ?_ ?_ ?_ ?_ (tA 1 12 ai bg hHeld ?_ ?_ ?_ ?_ (tA 3 14 ai bg hHeld ?_ ?_ ?_ ?_ (pA 5 16 ai ?_ ?_ ?_ ?_ (tA 6 17 ai bg hHeld ?_ ?_ ?_ ?_ ?_))))))
     all_goals first|(rintro w' ⟨s0,s1,s2,s3⟩;go_simp;with_reducible rfl)|(intro w';go_simp;with_reducible rfl)|(simp only[Act.put,qA,qB,qC,i64_w,i32_w];rfl)|skip
     refine oA 7 (some 18) ai (fun K hK=>?_);refine goes_ Tryz.func62 (by kernel_rfl) rfl #[.int .i64 ab,.slice aw (rd_L1 J ad).length ax] (by rfl) rfl rfl (by(try simp only[List.map_toArray,List.map_cons,List.map_nil]);first|done|rfl|(simp only[List.length_drop,List.length_take];rfl)) ?_;with_reducible refine(spec_l10Tidy.calls k1 ab _ _ (rd_L1 J ad) true _ ?side1 ?side2 A5.out).mono ?_
     (case side1=>exact cY aq HB);(case side2=>exact aR.out);rintro e w9 ⟨rfl,hb⟩;refine⟨_,rfl,?_⟩;replace j:=bU j hb;replace HB:=bW HB hb;(try clear hb);(try clear hb2);(try clear hk);(try clear hi);refine hK.out _ _ ⟨(bkC j.out 0).trans rfl,(bkC j.out 1).trans rfl,(bkC j.out 2).trans rfl,((HB.out.cell (World.block_lt_of_cell? w _ aa)).trans aa)⟩ (fun hHeld=>?_);clear hK K;refine norm_ (a':=?_) ?_ ?_;rotate_left
     ·show Act.put _ (some 18) _=_
      simp only[Act.put,qA,qB,qC,i64_w,i32_w];rfl
     refine pA 8 19 ai ?_ ?_ ?_ ?_ ?_
     all_goals first|(intro w';go_simp;with_reducible rfl)|(simp only[Act.put,qA,qB,qC,i64_w,i32_w];rfl)|skip
     refine done_ (done_of ai.out (by kernel_rfl)) ?_;try go_wp2
     go_roundg k1
     case measure=>have:=ak.out;omega
     case rel=>exact⟨(wrap64 (ad+1)),(by first|rfl|(simp;done)|(simp[*];done)),H',⟨by have:=ak.out;omega⟩,⟨kS j⟩,⟨wZ HB⟩⟩
    ·replace c6:=Bool.eq_false_iff.mpr c6;subst c6;rw[if_neg (show¬(false=true) by decide)]at H;obtain rfl:=Option.some.inj H;obtain⟨cA,cB,cC,cD,cE,cF⟩:=b3 j;try go_wp2
     replace j:=Asd.mk (bkD j.out);replace HB:=Asd.mk (bwD HB.out);have aM:0≤(ad:Int):=odt;have aN:ad<(J.length:Int):=odt;obtain⟨aQ,aw,ax,b4,I,an,ao⟩:=at_L1 b1.out ad aM aN;have aa:=I;cases b4;replace I:=(HB.out.cell (World.block_lt_of_cell? w _ I)).trans I;have aq:=Asd.mk ao;have aR:=Asd.mk an;clear ao an;replace aM:=eq_true aM;replace aN:=eq_true aN;refine start_ (n:=9) (S:=fun w'=>w'.cell? ⟨au,0,none⟩=some (.int .i64 ab)∧w'.cell? ⟨au,1,none⟩=some (.slice ay ae.length az)∧w'.cell? ⟨au,2,none⟩=some (.slice (some aQ) J.length aV)∧w'.cell? (aQ.add (ad).toNat)=some (.slice aw (rd_L1 J ad).length ax)) (ds:=[]) Mk15_0 (by kernel_rfl) rfl rfl ⟨(bkC j.out 0).trans rfl,(bkC j.out 1).trans rfl,(bkC j.out 2).trans rfl,((HB.out.cell (World.block_lt_of_cell? w _ aa)).trans aa)⟩ (fun hHeld=>?_);refine with_tabW spec_MindValid.tab4 spec_MindValid.bits4 (fun ai bg=>?_);generalize wr.drew=dB at j HB aq I hHeld⊢;refine pA 0 11 ai ?_ ?_ ?_ ?_ (pA 2 13 ai ?_ ?_ ?_ ?_ (pA 4 15 ai ?_ ?_ ?_ ?_ (tA 1 12 ai bg hHeld ?_ ?_ ?_ ?_ (tA 3 14 ai bg hHeld ?_ ?_ ?_ ?_ (pA 5 16 ai ?_ ?_ ?_ ?_ (tA 6 17 ai bg hHeld ?_ ?_ ?_ ?_ ?_))))))
     all_goals first|(rintro w' ⟨s0,s1,s2,s3⟩;go_simp;with_reducible rfl)|(intro w';go_simp;with_reducible rfl)|(simp only[Act.put,qA,qB,qC,i64_w,i32_w];rfl)|skip
     refine oA 7 (some 18) ai (fun K hK=>?_);refine goes_ Tryz.func62 (by kernel_rfl) rfl #[.int .i64 ab,.slice aw (rd_L1 J ad).length ax] (by rfl) rfl rfl (by(try simp only[List.map_toArray,List.map_cons,List.map_nil]);first|done|rfl|(simp only[List.length_drop,List.length_take];rfl)) ?_;with_reducible refine(spec_l10Tidy.calls k1 ab _ _ (rd_L1 J ad) false _ ?side1 ?side2 A5.out).mono ?_
     (case side1=>exact cY aq HB);(case side2=>exact aR.out);rintro e dC ⟨rfl,hb⟩;refine⟨_,rfl,?_⟩;replace j:=bU j hb;replace HB:=bW HB hb;(try clear hb);(try clear hb2);(try clear hk);(try clear hi);refine hK.out _ _ ⟨(bkC j.out 0).trans rfl,(bkC j.out 1).trans rfl,(bkC j.out 2).trans rfl,((HB.out.cell (World.block_lt_of_cell? w _ aa)).trans aa)⟩ (fun hHeld=>?_);clear hK K;refine norm_ (a':=?_) ?_ ?_;rotate_left
     ·show Act.put _ (some 18) _=_
      simp only[Act.put,qA,qB,qC,i64_w,i32_w];rfl
     refine pA 8 19 ai ?_ ?_ ?_ ?_ ?_
     all_goals first|(intro w';go_simp;with_reducible rfl)|(simp only[Act.put,qA,qB,qC,i64_w,i32_w];rfl)|skip
     refine done_ (done_of ai.out (by kernel_rfl)) ?_;try go_wp2
     go_ret;exact⟨by first|rfl|(simp[*,errW_none,errW_some]<;>rfl),wZ HB⟩
   ·have cz:=decide_eq_false c3;clear c3;obtain⟨bH,cG,H⟩:=bE H;try dsimp only at H
    by_cases aZ:bH=true
    ·subst aZ;rw[if_pos rfl]at H;obtain rfl:=Option.some.inj H;obtain⟨cH,cI,cJ,cK,cL,cM⟩:=b3 j;go_wp2_with (first|(refine gB (some 24) Tryz.func62 #[.int .i64 ab,.slice ay ae.length az] rfl ?_;(with_reducible refine(spec_l10Tidy.calls k1 ab _ _ ae true _ ?side1 ?side2 cG.out).mono ?_);(case side1=>exact cY bZ HB);(case side2=>exact b0.out);rintro e dD ⟨rfl,hb⟩;refine⟨_,rfl,?_⟩;replace j:=bU j hb;replace HB:=bW HB hb;clear hb;obtain⟨cN,cO,cP,cQ,cR,cS⟩:=b3 j));go_ret;exact⟨by first|rfl|(simp[*,errW_none,errW_some]<;>rfl),wZ HB⟩
    ·replace aZ:=Bool.eq_false_iff.mpr aZ;subst aZ;rw[if_neg (show¬(false=true) by decide)]at H;obtain rfl:=Option.some.inj H;obtain⟨cT,cU,cV,cW,cX,c0⟩:=b3 j;go_wp2_with (first|(refine gB (some 24) Tryz.func62 #[.int .i64 ab,.slice ay ae.length az] rfl ?_;(with_reducible refine(spec_l10Tidy.calls k1 ab _ _ ae false _ ?side1 ?side2 cG.out).mono ?_);(case side1=>exact cY bZ HB);(case side2=>exact b0.out);rintro e dE ⟨rfl,hb⟩;refine⟨_,rfl,?_⟩;replace j:=bU j hb;replace HB:=bW HB hb;clear hb));go_ret;exact⟨by first|rfl|(simp[*,errW_none,errW_some]<;>rfl),wZ HB⟩
end Go.Proofs.YtihgpkohglcijaaGreatDoor.P
