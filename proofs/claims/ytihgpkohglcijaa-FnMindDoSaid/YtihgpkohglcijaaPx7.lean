-- Written by a program of this session (wip/hook.py), which runs the kit's printer; Lean checks it.
import Derived.Test.YtihgpkohglcijaaPx0
import Derived.Test.YtihgpkohglcijaaPx3
import Derived.Test.YtihgpkohglcijaaPx4
import Derived.Test.YtihgpkohglcijaaPx6
namespace Go.Proofs.Ytihgpkohglcijaa.P
open Go.RowKit Go.Proofs.YtihgpkohglcijaaW.PrintWords Go.Proofs.YtihgpkohglcijaaW.PrintLast Go.Proofs.YtihgpkohglcijaaW.PrintMore
attribute [local go_sem] max2_int min2_int max_two min_two max_three min_three max_four min_four   -- for this text's walks alone
set_option linter.unusedVariables false
set_option linter.unusedSimpArgs false

/-! ### spec_l6Tidy: function 147 -/
mutual
def spec_l6Tidy.l0:Nat→List Int→List Int→Int→Option (List Int)
 |0,_,_,_=>none
 |k+1,x0,x3,x4=>if x4<(x0.length:Int)then(spec_l6Tidy.l1 k x0 x3 x4 (([]:List Int)) 0)else(some x3)
def spec_l6Tidy.l1:Nat→List Int→List Int→Int→List Int→Int→Option (List Int)
 |0,_,_,_,_,_=>none
 |k+1,x0,x3,x4,x5,x6=>if x6<(x0.length:Int)then(if 0≤x6 then(if 0≤x4 then(if x4<(x0.length:Int)then(spec_l6Tidy.l2 k x0 x3 x4 x5 x6 (decide ((rd x0 x6)≥(rd x0 x4))) 0)else(none))else(none))else(none))else(if x3.length<17592186044416 then(spec_l6Tidy.l0 k x0 (x3++ [(x5.length:Int)]) (wrap64 (x4+1)))else(none))
def spec_l6Tidy.l2:Nat→List Int→List Int→Int→List Int→Int→Bool→Int→Option (List Int)
 |0,_,_,_,_,_,_,_=>none
 |k+1,x0,x3,x4,x5,x6,x7,x8=>if x8<(x5.length:Int)then(if x7=true then(spec_l6Tidy.l2 k x0 x3 x4 x5 x6 true (wrap64 (x8+1)))else(if 0≤x8 then(if 0≤x6 then(if x6<(x0.length:Int)then(spec_l6Tidy.l2 k x0 x3 x4 x5 x6 ((rd x5 x8)==(rd x0 x6)) (wrap64 (x8+1)))else(none))else(none))else(none)))else(if x7=true then(spec_l6Tidy.l1 k x0 x3 x4 x5 (wrap64 (x6+1)))else(if 0≤x6 then(if x6<(x0.length:Int)then(if x5.length<17592186044416 then(spec_l6Tidy.l1 k x0 x3 x4 (x5++ [rd x0 x6]) (wrap64 (x6+1)))else(none))else(none))else(none)))
end
def spec_l6Tidy.f (k:Nat) (l0:List Int):Option (List Int):=spec_l6Tidy.l0 k l0 (([]:List Int)) 0
theorem spec_l6Tidy.mono_l:∀k,(∀y0 y1 y2,LeO (spec_l6Tidy.l0 k y0 y1 y2) (spec_l6Tidy.l0 (k+1) y0 y1 y2))∧(∀y0 y1 y2 y3 y4,LeO (spec_l6Tidy.l1 k y0 y1 y2 y3 y4) (spec_l6Tidy.l1 (k+1) y0 y1 y2 y3 y4))∧(∀y0 y1 y2 y3 y4 y5 y6,LeO (spec_l6Tidy.l2 k y0 y1 y2 y3 y4 y5 y6) (spec_l6Tidy.l2 (k+1) y0 y1 y2 y3 y4 y5 y6))
 |0=>⟨fun _ _ _ r h=>by simp[spec_l6Tidy.l0]at h,fun _ _ _ _ _ r h=>by simp[spec_l6Tidy.l1]at h,fun _ _ _ _ _ _ _ r h=>by simp[spec_l6Tidy.l2]at h⟩
 |k+1=>by
  obtain⟨an,a6,bQ⟩:=spec_l6Tidy.mono_l k;refine⟨?_,?_,?_⟩
  ·intro y0 y1 y2;unfold spec_l6Tidy.l0;repeat' first
   |(with_reducible first|exact an _ _ _|exact a6 _ _ _ _ _|exact bQ _ _ _ _ _ _ _|exact LeO.refl _|exact LeO.none _|refine LeO.ite ?_ ?_|refine LeO.bind ?_ (fun _=>?_))
   |refine LeO.ite ?_ ?_
   |refine LeO.bind ?_ (fun _=>?_)
  ·intro y0 y1 y2 y3 y4;unfold spec_l6Tidy.l1;repeat' first
   |(with_reducible first|exact an _ _ _|exact a6 _ _ _ _ _|exact bQ _ _ _ _ _ _ _|exact LeO.refl _|exact LeO.none _|refine LeO.ite ?_ ?_|refine LeO.bind ?_ (fun _=>?_))
   |refine LeO.ite ?_ ?_
   |refine LeO.bind ?_ (fun _=>?_)
  ·intro y0 y1 y2 y3 y4 y5 y6;unfold spec_l6Tidy.l2;repeat' first
   |(with_reducible first|exact an _ _ _|exact a6 _ _ _ _ _|exact bQ _ _ _ _ _ _ _|exact LeO.refl _|exact LeO.none _|refine LeO.ite ?_ ?_|refine LeO.bind ?_ (fun _=>?_))
   |refine LeO.ite ?_ ?_
   |refine LeO.bind ?_ (fun _=>?_)
theorem spec_l6Tidy.mono:∀a0 k,LeO (spec_l6Tidy.f k a0) (spec_l6Tidy.f (k+1) a0):=by
 intro a0 k;obtain⟨an,a6,bQ⟩:=spec_l6Tidy.mono_l k;unfold spec_l6Tidy.f
 repeat' first
   |(with_reducible first|exact an _ _ _|exact a6 _ _ _ _ _|exact bQ _ _ _ _ _ _ _|exact LeO.refl _|exact LeO.none _|refine LeO.ite ?_ ?_|refine LeO.bind ?_ (fun _=>?_))
   |refine LeO.ite ?_ ?_
   |refine LeO.bind ?_ (fun _=>?_)
set_option maxHeartbeats 8000000 in
set_option maxRecDepth 100000 in
theorem spec_l6Tidy.calls (k:Nat) (A0:Option Addr) (c0:Nat) (l0:List Int) (r:List Int) (w:World) (bd:Kd.C (Kd.int .i64) w A0 l0.length l0) (bf:l0.length≤c0) (h:spec_l6Tidy.f k l0=some r):
  Calls Try.prog 147 #[.slice A0 l0.length c0] w fun e w'=>∃bg:Value,e= .returned (bg)∧Kd.R (Kd.int .i64) 3 w' w.heap.size (fun _=>True) bg r∧Below w.heap.size w w':=by
 have a7:=Asd.mk bd;have di:=Asd.mk bf;clear bd bf;have HB:=Asd.mk (Below.refl w.heap.size w);have H:(spec_l6Tidy.l0 k l0 (([]:List Int)) 0)=some r:=h;clear h;obtain⟨cA,aE⟩:∃y_:List Int,y_=(([]:List Int)):=⟨_,rfl⟩;replace H:(spec_l6Tidy.l0 k l0 cA 0)=some r:=by first|(rw[aE];with_reducible exact H)|(have af:=(Option.bind_some _ _).symm.trans H;rw[aE];with_reducible exact af)|(have af:=(Option.bind_some _ _).symm.trans H;with_reducible exact af)|with_reducible exact H|(rw[aE];exact H)|exact H
 have ay:=Asd.mk aE;clear aE;have H':=Asd.mk H;clear H;go_enter Try.func147,Try.ntmps147;go_wp2_with (first|((with_reducible refine gate_dst (N:=9) rfl ?_);refine Kd.R_lit (Kd.int .i64) _ 3 ?hg (N:=9) ?hd (xs:=([]:List Int)) (inner:=[]) (ok:=fun _=>True) (okp:=fun _=>True) ?hr ?hp (fun _ hk=>hk) trivial (Below.refl _ _) (Nat.le_refl _) (by simp) ?_;(case hd=>rfl);(case hg=>rfl);(case hr=>first|(go_simp;done)|(go_simp;rfl));(case hp=>exact(Reps.none _ _));intro cB w2 ao hb aw ad;clear aw ad;(first|rw[←ay.out]at ao|(simp only[Int.reduceToNat]at ao;rw[←ay.out]at ao));have bq:=Asd.mk (Kd.R_lower ao (below_size (wZ HB)));replace HB:=bW HB hb;clear hb ao));repeat(go_quiet (first|((with_reducible refine gate_dst (N:=9) rfl ?_);refine Kd.R_lit (Kd.int .i64) _ 3 ?hg (N:=9) ?hd (xs:=([]:List Int)) (inner:=[]) (ok:=fun _=>True) (okp:=fun _=>True) ?hr ?hp (fun _ hk=>hk) trivial (Below.refl _ _) (Nat.le_refl _) (by simp) ?_;(case hd=>rfl);(case hg=>rfl);(case hr=>first|(go_simp;done)|(go_simp;rfl));(case hp=>exact(Reps.none _ _));intro cB w2 ao hb aw ad;clear aw ad;(first|rw[←ay.out]at ao|(simp only[Int.reduceToNat]at ao;rw[←ay.out]at ao));have bq:=Asd.mk (Kd.R_lower ao (below_size (wZ HB)));replace HB:=bW HB hb;clear hb ao));try go_wp2_with (first|((with_reducible refine gate_dst (N:=9) rfl ?_);refine Kd.R_lit (Kd.int .i64) _ 3 ?hg (N:=9) ?hd (xs:=([]:List Int)) (inner:=[]) (ok:=fun _=>True) (okp:=fun _=>True) ?hr ?hp (fun _ hk=>hk) trivial (Below.refl _ _) (Nat.le_refl _) (by simp) ?_;(case hd=>rfl);(case hg=>rfl);(case hr=>first|(go_simp;done)|(go_simp;rfl));(case hp=>exact(Reps.none _ _));intro cB w2 ao hb aw ad;clear aw ad;(first|rw[←ay.out]at ao|(simp only[Int.reduceToNat]at ao;rw[←ay.out]at ao));have bq:=Asd.mk (Kd.R_lower ao (below_size (wZ HB)));replace HB:=bW HB hb;clear hb ao)))
 go_loopg [3,4] k (fun kq v3 v4 w'=>∃(ai:List Int) (ae:Int),v4= .int .i64 ae∧Asd (spec_l6Tidy.l0 kq l0 ai ae=some r)∧Asd (kq≤k)∧Asd (Kd.R (Kd.int .i64) 3 w' w.heap.size (fun _=>True) v3 ai)∧Asd (Below w.heap.size w w'))
 case atStart=>exact⟨(cA),(0),(by first|rfl|(simp;done)|(simp[*];done)),H',⟨Nat.le_refl _⟩,⟨by(repeat apply Kd.RS);exact bq.out⟩,⟨wZ HB⟩⟩
 case round=>
  clear H';obtain⟨ai,ae,rfl,HA,ag,HO_3,HB⟩:=hrel;cases gk with
  |zero=>exact absurd HA.out (by simp[spec_l6Tidy.l0])
  |succ k1=>
   have H:=HA.out;clear HA;simp only[spec_l6Tidy.l0]at H;by_cases c4:ae<(l0.length:Int)
   ·rw[if_pos c4]at H;have dj:decide (ae<(l0.length:Int))=true:=decide_eq_true c4;clear c4;obtain⟨cC,aG⟩:∃y_:List Int,y_=(([]:List Int)):=⟨_,rfl⟩;replace H:(spec_l6Tidy.l1 k1 l0 ai ae cC 0)=some r:=by first|(rw[aG];with_reducible exact H)|(have af:=(Option.bind_some _ _).symm.trans H;rw[aG];with_reducible exact af)|(have af:=(Option.bind_some _ _).symm.trans H;with_reducible exact af)|with_reducible exact H|(rw[aG];exact H)|exact H
    have az:=Asd.mk aG;clear aG;have H':=Asd.mk H;clear H;go_wp2_with (first|((with_reducible refine gate_dst (N:=16) rfl ?_);refine Kd.R_lit (Kd.int .i64) _ 3 ?hg (N:=16) ?hd (xs:=([]:List Int)) (inner:=[]) (ok:=fun _=>True) (okp:=fun _=>True) ?hr ?hp (fun _ hk=>hk) trivial (Below.refl _ _) (Nat.le_refl _) (by simp) ?_;(case hd=>rfl);(case hg=>rfl);(case hr=>first|(go_simp;done)|(go_simp;rfl));(case hp=>exact(Reps.none _ _));intro cD w5 ak hb aw ad;clear aw ad;(first|rw[←az.out]at ak|(simp only[Int.reduceToNat]at ak;rw[←az.out]at ak));have br:=Asd.mk (Kd.R_lower (Kd.R_new' ak (Kd.R_lt (rS HO_3))) (below_size (wZ HB)));replace HO_3:=Asd.mk (Kd.R_elder' (rS HO_3) (Kd.R_base ak) hb);replace HB:=bW HB hb;clear hb ak));repeat(go_quiet (first|((with_reducible refine gate_dst (N:=16) rfl ?_);refine Kd.R_lit (Kd.int .i64) _ 3 ?hg (N:=16) ?hd (xs:=([]:List Int)) (inner:=[]) (ok:=fun _=>True) (okp:=fun _=>True) ?hr ?hp (fun _ hk=>hk) trivial (Below.refl _ _) (Nat.le_refl _) (by simp) ?_;(case hd=>rfl);(case hg=>rfl);(case hr=>first|(go_simp;done)|(go_simp;rfl));(case hp=>exact(Reps.none _ _));intro cD w5 ak hb aw ad;clear aw ad;(first|rw[←az.out]at ak|(simp only[Int.reduceToNat]at ak;rw[←az.out]at ak));have br:=Asd.mk (Kd.R_lower (Kd.R_new' ak (Kd.R_lt (rS HO_3))) (below_size (wZ HB)));replace HO_3:=Asd.mk (Kd.R_elder' (rS HO_3) (Kd.R_base ak) hb);replace HB:=bW HB hb;clear hb ak));try go_wp2_with (first|((with_reducible refine gate_dst (N:=16) rfl ?_);refine Kd.R_lit (Kd.int .i64) _ 3 ?hg (N:=16) ?hd (xs:=([]:List Int)) (inner:=[]) (ok:=fun _=>True) (okp:=fun _=>True) ?hr ?hp (fun _ hk=>hk) trivial (Below.refl _ _) (Nat.le_refl _) (by simp) ?_;(case hd=>rfl);(case hg=>rfl);(case hr=>first|(go_simp;done)|(go_simp;rfl));(case hp=>exact(Reps.none _ _));intro cD w5 ak hb aw ad;clear aw ad;(first|rw[←az.out]at ak|(simp only[Int.reduceToNat]at ak;rw[←az.out]at ak));have br:=Asd.mk (Kd.R_lower (Kd.R_new' ak (Kd.R_lt (rS HO_3))) (below_size (wZ HB)));replace HO_3:=Asd.mk (Kd.R_elder' (rS HO_3) (Kd.R_base ak) hb);replace HB:=bW HB hb;clear hb ak)))
    go_loopg [5,6] k1 (fun kq v5 v6 w'=>∃(J:List Int) (I:Int),v6= .int .i64 I∧Asd (spec_l6Tidy.l1 kq l0 ai ae J I=some r)∧Asd (kq≤k1)∧Asd (Kd.R (Kd.int .i64) 3 w' w.heap.size (fun k_=>some k_≠(v5:Value).ownBlock) u3 ai)∧Asd (Kd.R (Kd.int .i64) 3 w' w.heap.size (fun k_=>some k_≠(u3:Value).ownBlock) v5 J)∧Asd (Below w.heap.size w w'))
    case atStart=>exact⟨(cC),(0),(by first|rfl|(simp;done)|(simp[*];done)),H',⟨Nat.le_refl _⟩,⟨by(repeat apply Kd.RS);exact Kd.R_mono HO_3.out (fun _ hk=>hk.2)⟩,⟨by(repeat apply Kd.RS);exact Kd.R_mono br.out (fun _ hk=>hk.2)⟩,⟨wZ HB⟩⟩
    case round=>
     clear H';obtain⟨J,I,rfl,HA,aq,HO_3,HO_5,HB⟩:=hrel;cases gk with
     |zero=>exact absurd HA.out (by simp[spec_l6Tidy.l1])
     |succ k2=>
      have H:=HA.out;clear HA;simp only[spec_l6Tidy.l1]at H;by_cases c7:I<(l0.length:Int)
      ·rw[if_pos c7]at H;have dk:decide (I<(l0.length:Int))=true:=decide_eq_true c7;clear c7;by_cases c8:0≤I;rotate_left;(rw[if_neg c8]at H;exact absurd H (by simp));rw[if_pos c8]at H;have cE:decide (0≤I)=true:=decide_eq_true c8;clear c8;by_cases c9:0≤ae;rotate_left;(rw[if_neg c9]at H;exact absurd H (by simp));rw[if_pos c9]at H;have en:decide (0≤ae)=true:=decide_eq_true c9;clear c9;by_cases c10:ae<(l0.length:Int);rotate_left;(rw[if_neg c10]at H;exact absurd H (by simp));rw[if_pos c10]at H;have ar:decide (ae<(l0.length:Int))=true:=decide_eq_true c10;clear c10;have H':=Asd.mk H;clear H;have bT:0≤(I:Int):=odt;have bV:I<(l0.length:Int):=odt;obtain⟨bs,dm,aH⟩:=Kd.at_int a7.out I bT bV;cases dm;replace aH:=(HB.out.cell (World.block_lt_of_cell? w _ aH)).trans aH;replace bT:=eq_true bT;replace bV:=eq_true bV;have bZ:0≤(ae:Int):=odt;have b0:ae<(l0.length:Int):=odt;obtain⟨cP,dn,aI⟩:=Kd.at_int a7.out ae bZ b0;obtain rfl:bs=cP:=(by injection dn);replace aI:=(HB.out.cell (World.block_lt_of_cell? w _ aI)).trans aI;replace bZ:=eq_true bZ;replace b0:=eq_true b0;go_wp2;repeat(go_quiet (fail);try go_wp2)
       go_loopg [7,8] k2 (fun kq v7 v8 w'=>∃(bh:Bool) (aj:Int),v7= .bool bh∧v8= .int .i64 aj∧Asd (spec_l6Tidy.l2 kq l0 ai ae J I bh aj=some r)∧Asd (kq≤k2)∧Asd (Kd.R (Kd.int .i64) 3 w' w.heap.size (fun k_=>some k_≠(u5:Value).ownBlock) u3 ai)∧Asd (Kd.R (Kd.int .i64) 3 w' w.heap.size (fun k_=>some k_≠(u3:Value).ownBlock) u5 J)∧Asd (Below w.heap.size w w'))
       case atStart=>exact⟨(decide ((rd l0 I)≥(rd l0 ae))),(0),(by first|rfl|(simp;done)|(simp[*];done)),(by first|rfl|(simp;done)|(simp[*];done)),H',⟨Nat.le_refl _⟩,⟨by(repeat apply Kd.RS);exact HO_3.out⟩,⟨by(repeat apply Kd.RS);exact HO_5.out⟩,⟨wZ HB⟩⟩
       case round=>
        clear H';obtain⟨bh,aj,rfl,rfl,HA,bj,HO_3,HO_5,HB⟩:=hrel;cases gk with
        |zero=>exact absurd HA.out (by simp[spec_l6Tidy.l2])
        |succ k3=>
         have H:=HA.out;clear HA;simp only[spec_l6Tidy.l2]at H;by_cases aJ:aj<(J.length:Int)
         ·rw[if_pos aJ]at H;have b1:decide (aj<(J.length:Int))=true:=decide_eq_true aJ;clear aJ;by_cases aD:bh=true
          ·subst aD;rw[if_pos rfl]at H;have H':=Asd.mk H;clear H;obtain⟨eo,ep,dp⟩:=Kd.R_slice HO_5.out;subst dp;go_wp2;repeat(go_quiet (fail);try go_wp2)
           go_roundg k3
           case measure=>have:=ag.out;have:=aq.out;have:=bj.out;omega
           case rel=>exact⟨(true),(wrap64 (aj+1)),(by first|rfl|(simp;done)|(simp[*];done)),(by first|rfl|(simp;done)|(simp[*];done)),H',⟨by have:=ag.out;have:=aq.out;have:=bj.out;omega⟩,⟨by(repeat apply Kd.RS);exact HO_3.out⟩,⟨by(repeat apply Kd.RS);exact HO_5.out⟩,⟨wZ HB⟩⟩
          ·replace aD:=Bool.eq_false_iff.mpr aD;subst aD;rw[if_neg (show¬(false=true) by decide)]at H;by_cases ct:0≤aj;rotate_left;(rw[if_neg ct]at H;exact absurd H (by simp));rw[if_pos ct]at H;have dX:decide (0≤aj)=true:=decide_eq_true ct;clear ct;by_cases cu:0≤I;rotate_left;(rw[if_neg cu]at H;exact absurd H (by simp));rw[if_pos cu]at H;have dY:decide (0≤I)=true:=decide_eq_true cu;clear cu;by_cases ba:I<(l0.length:Int);rotate_left;(rw[if_neg ba]at H;exact absurd H (by simp));rw[if_pos ba]at H;have dZ:decide (I<(l0.length:Int))=true:=decide_eq_true ba;clear ba;have H':=Asd.mk H;clear H;obtain⟨er,et,dq⟩:=Kd.R_slice HO_5.out;subst dq;have b4:0≤(aj:Int):=odt;have b5:aj<(J.length:Int):=odt;obtain⟨ea,dr,dt⟩:=Kd.at_int (Kd.R_reads' HO_5.out).2.2 aj b4 b5;cases dr;replace b4:=eq_true b4;replace b5:=eq_true b5;have b6:0≤(I:Int):=odt;have b7:I<(l0.length:Int):=odt;obtain⟨cQ,du,aK⟩:=Kd.at_int a7.out I b6 b7;obtain rfl:bs=cQ:=(by injection du);replace aK:=(HB.out.cell (World.block_lt_of_cell? w _ aK)).trans aK;replace b6:=eq_true b6;replace b7:=eq_true b7;go_wp2;repeat(go_quiet (fail);try go_wp2)
           go_roundg k3
           case measure=>have:=ag.out;have:=aq.out;have:=bj.out;omega
           case rel=>exact⟨(((rd J aj)==(rd l0 I))),(wrap64 (aj+1)),(by first|rfl|(simp;done)|(simp[*];done)),(by first|rfl|(simp;done)|(simp[*];done)),H',⟨by have:=ag.out;have:=aq.out;have:=bj.out;omega⟩,⟨by(repeat apply Kd.RS);exact HO_3.out⟩,⟨by(repeat apply Kd.RS);exact HO_5.out⟩,⟨wZ HB⟩⟩
         ·rw[if_neg aJ]at H;have b1:decide (aj<(J.length:Int))=false:=decide_eq_false aJ;clear aJ;by_cases cv:bh=true
          ·subst cv;rw[if_pos rfl]at H;have H':=Asd.mk H;clear H;obtain⟨eu,ev,dv⟩:=Kd.R_slice HO_5.out;subst dv;go_wp2;repeat(go_quiet (fail);try go_wp2)
           go_roundg k3
           case measure=>have:=ag.out;have:=aq.out;have:=bj.out;omega
           case rel=>exact⟨(J),(wrap64 (I+1)),(by first|rfl|(simp;done)|(simp[*];done)),H',⟨by have:=ag.out;have:=aq.out;have:=bj.out;omega⟩,⟨by(repeat apply Kd.RS);exact HO_3.out⟩,⟨by(repeat apply Kd.RS);exact HO_5.out⟩,⟨wZ HB⟩⟩
          ·replace cv:=Bool.eq_false_iff.mpr cv;subst cv;rw[if_neg (show¬(false=true) by decide)]at H;by_cases cw:0≤I;rotate_left;(rw[if_neg cw]at H;exact absurd H (by simp));rw[if_pos cw]at H;have eb:decide (0≤I)=true:=decide_eq_true cw;clear cw;by_cases cx:I<(l0.length:Int);rotate_left;(rw[if_neg cx]at H;exact absurd H (by simp));rw[if_pos cx]at H;have ec:decide (I<(l0.length:Int))=true:=decide_eq_true cx;clear cx;by_cases cy:J.length<17592186044416;rotate_left;(rw[if_neg cy]at H;exact absurd H (by simp));rw[if_pos cy]at H;have bu:=Asd.mk cy;clear cy;obtain⟨cF,aM⟩:∃y_:List Int,y_=(J++ [rd l0 I]):=⟨_,rfl⟩;replace H:(spec_l6Tidy.l1 k3 l0 ai ae cF (wrap64 (I+1)))=some r:=by first|(rw[aM];with_reducible exact H)|(have af:=(Option.bind_some _ _).symm.trans H;rw[aM];with_reducible exact af)|(have af:=(Option.bind_some _ _).symm.trans H;with_reducible exact af)|with_reducible exact H|(rw[aM];exact H)|exact H
           have bw:=Asd.mk aM;clear aM;have H':=Asd.mk H;clear H;obtain⟨b8,b9,dw⟩:=Kd.R_slice HO_5.out;subst dw;have ca:0≤(I:Int):=odt;have cb:I<(l0.length:Int):=odt;obtain⟨cR,dx,aN⟩:=Kd.at_int a7.out I ca cb;obtain rfl:bs=cR:=(by injection dx);replace aN:=(HB.out.cell (World.block_lt_of_cell? w _ aN)).trans aN;replace ca:=eq_true ca;replace cb:=eq_true cb;go_wp2_with (first|((with_reducible refine gate_builtin (b:=.append) (xs:= #[.tmp 52,.tmp 57]) rfl ?_);at_builtin;refine Kd.R_append (Kd.int .i64) (w0:=w) w.heap.size rfl (.tmp 52) (.tmp 57) 55 3 (.int .i64 0) 8 rfl Try.underlying55 info3 rfl (by decide) (by omega) (.slice b8 J.length b9) J (rd l0 I) [.int .i64 (rd l0 I)] (fun k_=>some k_≠(u3:Value).ownBlock) (fun _=>False) rfl rfl ?aP (fun _ hk=>hk.elim) ?aF ?aO ?aB ?aS ?aL ?_;(case aP=>exact rfl);(case aB=>exact(wZ HB));(case aF=>exact(fun k_ hk=>Kd.fresh' (Kd.R_lt (rS HO_3)) k_ hk));(case aO=>exact(rS HO_5));(case aS=>exact(below_size (wZ HB)));(case aL=>have:=bu.out;omega);intro cG dy ho hb hg al;rw[←bw.out]at ho;replace HO_3:=Asd.mk (Kd.R_after (ok:=(fun _=>True)) (by(repeat apply Kd.RS);exact Kd.R_mono HO_3.out (fun _ hk=>⟨trivial,hk⟩)) hg al);replace HB:=Asd.mk (hb);have bx:=Asd.mk (ho);clear HO_5;clear ho hb hg al));repeat(go_quiet (first|((with_reducible refine gate_builtin (b:=.append) (xs:= #[.tmp 52,.tmp 57]) rfl ?_);at_builtin;refine Kd.R_append (Kd.int .i64) (w0:=w) w.heap.size rfl (.tmp 52) (.tmp 57) 55 3 (.int .i64 0) 8 rfl Try.underlying55 info3 rfl (by decide) (by omega) (.slice b8 J.length b9) J (rd l0 I) [.int .i64 (rd l0 I)] (fun k_=>some k_≠(u3:Value).ownBlock) (fun _=>False) rfl rfl ?aP (fun _ hk=>hk.elim) ?aF ?aO ?aB ?aS ?aL ?_;(case aP=>exact rfl);(case aB=>exact(wZ HB));(case aF=>exact(fun k_ hk=>Kd.fresh' (Kd.R_lt (rS HO_3)) k_ hk));(case aO=>exact(rS HO_5));(case aS=>exact(below_size (wZ HB)));(case aL=>have:=bu.out;omega);intro cG dy ho hb hg al;rw[←bw.out]at ho;replace HO_3:=Asd.mk (Kd.R_after (ok:=(fun _=>True)) (by(repeat apply Kd.RS);exact Kd.R_mono HO_3.out (fun _ hk=>⟨trivial,hk⟩)) hg al);replace HB:=Asd.mk (hb);have bx:=Asd.mk (ho);clear HO_5;clear ho hb hg al));try go_wp2_with (first|((with_reducible refine gate_builtin (b:=.append) (xs:= #[.tmp 52,.tmp 57]) rfl ?_);at_builtin;refine Kd.R_append (Kd.int .i64) (w0:=w) w.heap.size rfl (.tmp 52) (.tmp 57) 55 3 (.int .i64 0) 8 rfl Try.underlying55 info3 rfl (by decide) (by omega) (.slice b8 J.length b9) J (rd l0 I) [.int .i64 (rd l0 I)] (fun k_=>some k_≠(u3:Value).ownBlock) (fun _=>False) rfl rfl ?aP (fun _ hk=>hk.elim) ?aF ?aO ?aB ?aS ?aL ?_;(case aP=>exact rfl);(case aB=>exact(wZ HB));(case aF=>exact(fun k_ hk=>Kd.fresh' (Kd.R_lt (rS HO_3)) k_ hk));(case aO=>exact(rS HO_5));(case aS=>exact(below_size (wZ HB)));(case aL=>have:=bu.out;omega);intro cG dy ho hb hg al;rw[←bw.out]at ho;replace HO_3:=Asd.mk (Kd.R_after (ok:=(fun _=>True)) (by(repeat apply Kd.RS);exact Kd.R_mono HO_3.out (fun _ hk=>⟨trivial,hk⟩)) hg al);replace HB:=Asd.mk (hb);have bx:=Asd.mk (ho);clear HO_5;clear ho hb hg al)))
           go_roundg k3
           case measure=>have:=ag.out;have:=aq.out;have:=bj.out;omega
           case rel=>exact⟨(cF),(wrap64 (I+1)),(by first|rfl|(simp;done)|(simp[*];done)),H',⟨by have:=ag.out;have:=aq.out;have:=bj.out;omega⟩,⟨by(repeat apply Kd.RS);exact Kd.R_mono HO_3.out (fun _ hk=>hk.2)⟩,⟨by(repeat apply Kd.RS);exact bx.out⟩,⟨wZ HB⟩⟩
      ·rw[if_neg c7]at H;have dk:decide (I<(l0.length:Int))=false:=decide_eq_false c7;clear c7;by_cases cz:ai.length<17592186044416;rotate_left;(rw[if_neg cz]at H;exact absurd H (by simp));rw[if_pos cz]at H;have bz:=Asd.mk cz;clear cz;obtain⟨cH,aQ⟩:∃y_:List Int,y_=(ai++ [(J.length:Int)]):=⟨_,rfl⟩;replace H:(spec_l6Tidy.l0 k2 l0 cH (wrap64 (ae+1)))=some r:=by first|(rw[aQ];with_reducible exact H)|(have af:=(Option.bind_some _ _).symm.trans H;rw[aQ];with_reducible exact af)|(have af:=(Option.bind_some _ _).symm.trans H;with_reducible exact af)|with_reducible exact H|(rw[aQ];exact H)|exact H
       have bA:=Asd.mk aQ;clear aQ;have H':=Asd.mk H;clear H;obtain⟨cc,cd,dz⟩:=Kd.R_slice HO_5.out;subst dz;go_wp2_with (first|((with_reducible refine gate_builtin (b:=.append) (xs:= #[.tmp 59,.tmp 62]) rfl ?_);at_builtin;refine Kd.R_append (Kd.int .i64) (w0:=w) w.heap.size rfl (.tmp 59) (.tmp 62) 55 3 (.int .i64 0) 8 rfl Try.underlying55 info3 rfl (by decide) (by omega) u3 ai (J.length:Int) [.int .i64 (J.length:Int)] (fun k_=>some k_≠(.slice cc J.length cd:Value).ownBlock) (fun _=>False) rfl rfl ?aP (fun _ hk=>hk.elim) ?aF ?aO ?aB ?aS ?aL ?_;(case aP=>exact rfl);(case aB=>exact(wZ HB));(case aF=>exact(fun k_ hk=>Kd.fresh' (Kd.R_lt (rS HO_5)) k_ hk));(case aO=>exact(rS HO_3));(case aS=>exact(below_size (wZ HB)));(case aL=>have:=bz.out;omega);intro v227 dA ho hb hg al;rw[←bA.out]at ho;replace HO_5:=Asd.mk (Kd.R_after (ok:=(fun _=>True)) (by(repeat apply Kd.RS);exact Kd.R_mono HO_5.out (fun _ hk=>⟨trivial,hk⟩)) hg al);replace HB:=Asd.mk (hb);have bB:=Asd.mk (ho);clear HO_3;clear ho hb hg al));repeat(go_quiet (first|((with_reducible refine gate_builtin (b:=.append) (xs:= #[.tmp 59,.tmp 62]) rfl ?_);at_builtin;refine Kd.R_append (Kd.int .i64) (w0:=w) w.heap.size rfl (.tmp 59) (.tmp 62) 55 3 (.int .i64 0) 8 rfl Try.underlying55 info3 rfl (by decide) (by omega) u3 ai (J.length:Int) [.int .i64 (J.length:Int)] (fun k_=>some k_≠(.slice cc J.length cd:Value).ownBlock) (fun _=>False) rfl rfl ?aP (fun _ hk=>hk.elim) ?aF ?aO ?aB ?aS ?aL ?_;(case aP=>exact rfl);(case aB=>exact(wZ HB));(case aF=>exact(fun k_ hk=>Kd.fresh' (Kd.R_lt (rS HO_5)) k_ hk));(case aO=>exact(rS HO_3));(case aS=>exact(below_size (wZ HB)));(case aL=>have:=bz.out;omega);intro v227 dA ho hb hg al;rw[←bA.out]at ho;replace HO_5:=Asd.mk (Kd.R_after (ok:=(fun _=>True)) (by(repeat apply Kd.RS);exact Kd.R_mono HO_5.out (fun _ hk=>⟨trivial,hk⟩)) hg al);replace HB:=Asd.mk (hb);have bB:=Asd.mk (ho);clear HO_3;clear ho hb hg al));try go_wp2_with (first|((with_reducible refine gate_builtin (b:=.append) (xs:= #[.tmp 59,.tmp 62]) rfl ?_);at_builtin;refine Kd.R_append (Kd.int .i64) (w0:=w) w.heap.size rfl (.tmp 59) (.tmp 62) 55 3 (.int .i64 0) 8 rfl Try.underlying55 info3 rfl (by decide) (by omega) u3 ai (J.length:Int) [.int .i64 (J.length:Int)] (fun k_=>some k_≠(.slice cc J.length cd:Value).ownBlock) (fun _=>False) rfl rfl ?aP (fun _ hk=>hk.elim) ?aF ?aO ?aB ?aS ?aL ?_;(case aP=>exact rfl);(case aB=>exact(wZ HB));(case aF=>exact(fun k_ hk=>Kd.fresh' (Kd.R_lt (rS HO_5)) k_ hk));(case aO=>exact(rS HO_3));(case aS=>exact(below_size (wZ HB)));(case aL=>have:=bz.out;omega);intro v227 dA ho hb hg al;rw[←bA.out]at ho;replace HO_5:=Asd.mk (Kd.R_after (ok:=(fun _=>True)) (by(repeat apply Kd.RS);exact Kd.R_mono HO_5.out (fun _ hk=>⟨trivial,hk⟩)) hg al);replace HB:=Asd.mk (hb);have bB:=Asd.mk (ho);clear HO_3;clear ho hb hg al)))
       go_roundg k2
       case measure=>have:=ag.out;have:=aq.out;omega
       case rel=>exact⟨(cH),(wrap64 (ae+1)),(by first|rfl|(simp;done)|(simp[*];done)),H',⟨by have:=ag.out;have:=aq.out;omega⟩,⟨by(repeat apply Kd.RS);exact Kd.R_mono bB.out (fun _ hk=>trivial)⟩,⟨wZ HB⟩⟩
   ·rw[if_neg c4]at H;have dj:decide (ae<(l0.length:Int))=false:=decide_eq_false c4;clear c4;obtain rfl:=Option.some.inj H;go_wp2;repeat(go_quiet (fail);try go_wp2)
    go_ret;exact⟨_,by first|rfl|(simp[*,errW_none,errW_some]<;>rfl),by(repeat apply Kd.RS);exact HO_3.out,wZ HB⟩

/-! ### spec_l6Rise: function 133 -/
def spec_l6Rise.l0:Nat→List Int→Int→List Int→Int→Option (List Int)
 |0,_,_,_,_=>none
 |k+1,x0,x1,x5,x6=>if x6<(x0.length:Int)then(if 0≤x6 then((spec_l1Bit.f x1 x6).bind fun t241=>(if x5.length<17592186044416 then(spec_l6Rise.l0 k x0 x1 (x5++ [wrap64 ((rd x0 x6)+(wrap64 ((wrap64 (1 - t241))*10)))]) (wrap64 (x6+1)))else(none)))else(none))else((spec_l6Tidy.f k x5).bind fun t245=>(some t245))
def spec_l6Rise.f (k:Nat) (l0:List Int) (a1:Int):Option (List Int):=spec_l6Rise.l0 k l0 a1 (([]:List Int)) 0
theorem spec_l6Rise.mono_l:∀k,(∀y0 y1 y2 y3,LeO (spec_l6Rise.l0 k y0 y1 y2 y3) (spec_l6Rise.l0 (k+1) y0 y1 y2 y3))
 |0=>fun _ _ _ _ r h=>by simp[spec_l6Rise.l0]at h
 |k+1=>by
  have an:=spec_l6Rise.mono_l k
  ·intro y0 y1 y2 y3;unfold spec_l6Rise.l0;repeat' first
   |(with_reducible first|exact an _ _ _ _|exact spec_l6Tidy.mono _ _|exact LeO.refl _|exact LeO.none _|refine LeO.ite ?_ ?_|refine LeO.bind ?_ (fun _=>?_))
   |refine LeO.ite ?_ ?_
   |refine LeO.bind ?_ (fun _=>?_)
theorem spec_l6Rise.mono:∀a0 a1 k,LeO (spec_l6Rise.f k a0 a1) (spec_l6Rise.f (k+1) a0 a1):=by
 intro a0 a1 k;have an:=spec_l6Rise.mono_l k;unfold spec_l6Rise.f
 repeat' first
   |(with_reducible first|exact an _ _ _ _|exact spec_l6Tidy.mono _ _|exact LeO.refl _|exact LeO.none _|refine LeO.ite ?_ ?_|refine LeO.bind ?_ (fun _=>?_))
   |refine LeO.ite ?_ ?_
   |refine LeO.bind ?_ (fun _=>?_)
def spec_l6Rise.T5:Bool×List (List Nat×List Nat):=(true,[([],[]),([],[]),([],[]),([1,2],[1,2]),([3],[3]),([],[]),([],[]),([5,6],[5,6]),([7],[7]),([8],[8]),([4,9],[4,9]),([10],[10]),([0,11,7],[0,11]),([12,12,0,1,2,3,4,5,6,7,8,9,10,11,12],[0,12])])
def spec_l6Rise.B5:List Nat:=[0,0,0,6,14,0,0,96,224,480,1022,2046,4095,8191]
theorem spec_l6Rise.tab5:rtab .any (opsOf Try.f133 5)=spec_l6Rise.T5:=by kernel_rfl
theorem spec_l6Rise.bits5:waitsOk spec_l6Rise.T5.2 spec_l6Rise.B5=true:=by kernel_rfl
set_option maxHeartbeats 8000000 in
set_option maxRecDepth 100000 in
theorem spec_l6Rise.calls (k:Nat) (A0:Option Addr) (c0:Nat) (l0:List Int) (a1:Int) (r:List Int) (w:World) (bd:Kd.C (Kd.int .i64) w A0 l0.length l0) (bf:l0.length≤c0) (h:spec_l6Rise.f k l0 a1=some r):
  Calls Try.prog 133 #[.slice A0 l0.length c0,.int .i64 a1] w fun e w'=>∃bg:Value,e= .returned (bg)∧Kd.R (Kd.int .i64) 3 w' w.heap.size (fun _=>True) bg r∧Below w.heap.size w w':=by
 have a7:=Asd.mk bd;have di:=Asd.mk bf;clear bd bf;have HB:=Asd.mk (Below.refl w.heap.size w);have H:(spec_l6Rise.l0 k l0 a1 (([]:List Int)) 0)=some r:=h;clear h;obtain⟨cI,aR⟩:∃y_:List Int,y_=(([]:List Int)):=⟨_,rfl⟩;replace H:(spec_l6Rise.l0 k l0 a1 cI 0)=some r:=by first|(rw[aR];with_reducible exact H)|(have af:=(Option.bind_some _ _).symm.trans H;rw[aR];with_reducible exact af)|(have af:=(Option.bind_some _ _).symm.trans H;with_reducible exact af)|with_reducible exact H|(rw[aR];exact H)|exact H
 have cf:=Asd.mk aR;clear aR;have H':=Asd.mk H;clear H;go_enter Try.func133,Try.ntmps133;go_wp2_with (first|((with_reducible refine gate_dst (N:=7) rfl ?_);refine Kd.R_lit (Kd.int .i64) _ 3 ?hg (N:=7) ?hd (xs:=([]:List Int)) (inner:=[]) (ok:=fun _=>True) (okp:=fun _=>True) ?hr ?hp (fun _ hk=>hk) trivial (Below.refl _ _) (Nat.le_refl _) (by simp) ?_;(case hd=>rfl);(case hg=>rfl);(case hr=>first|(go_simp;done)|(go_simp;rfl));(case hp=>exact(Reps.none _ _));intro ew w3 cg hb aw ad;clear aw ad;(first|rw[←cf.out]at cg|(simp only[Int.reduceToNat]at cg;rw[←cf.out]at cg));have cS:=Asd.mk (Kd.R_lower cg (below_size (wZ HB)));replace HB:=bW HB hb;clear hb cg));go_loopg [5,6] k (fun kq v5 v6 w'=>∃(aa:List Int) (j:Int),v6= .int .i64 j∧Asd (spec_l6Rise.l0 kq l0 a1 aa j=some r)∧Asd (kq≤k)∧Asd (Kd.R (Kd.int .i64) 3 w' w.heap.size (fun _=>True) v5 aa)∧Asd (Below w.heap.size w w'))
 case atStart=>exact⟨(cI),(0),(by first|rfl|(simp;done)|(simp[*];done)),H',⟨Nat.le_refl _⟩,⟨by(repeat apply Kd.RS);exact cS.out⟩,⟨wZ HB⟩⟩
 case round=>
  clear H';obtain⟨aa,j,rfl,HA,ag,HO_5,HB⟩:=hrel;cases gk with
  |zero=>exact absurd HA.out (by simp[spec_l6Rise.l0])
  |succ k1=>
   have H:=HA.out;clear HA;simp only[spec_l6Rise.l0]at H;by_cases c5:j<(l0.length:Int)
   ·rw[if_pos c5]at H;have ch:decide (j<(l0.length:Int))=true:=decide_eq_true c5;clear c5;by_cases c6:0≤j;rotate_left;(rw[if_neg c6]at H;exact absurd H (by simp));rw[if_pos c6]at H;have dB:decide (0≤j)=true:=decide_eq_true c6;clear c6;replace H:=Option.bind_eq_some_iff.mp H;obtain⟨t241,dC,H⟩:=H;try dsimp only at H
    have A7:=Asd.mk dC;clear dC;by_cases c8:aa.length<17592186044416;rotate_left;(rw[if_neg c8]at H;exact absurd H (by simp));rw[if_pos c8]at H;have dD:=Asd.mk c8;clear c8;obtain⟨cJ,aT⟩:∃y_:List Int,y_=(aa++ [wrap64 ((rd l0 j)+(wrap64 ((wrap64 (1 - t241))*10)))]):=⟨_,rfl⟩;replace H:(spec_l6Rise.l0 k1 l0 a1 cJ (wrap64 (j+1)))=some r:=by first|(rw[aT];with_reducible exact H)|(have af:=(Option.bind_some _ _).symm.trans H;rw[aT];with_reducible exact af)|(have af:=(Option.bind_some _ _).symm.trans H;with_reducible exact af)|with_reducible exact H|(rw[aT];exact H)|exact H
    have cT:=Asd.mk aT;clear aT;have H':=Asd.mk H;clear H;try go_wp2
    replace HO_5:=Asd.mk (Kd.R_drew HO_5.out);replace HB:=Asd.mk (bwD HB.out);have cj:0≤(j:Int):=odt;have ck:j<(l0.length:Int):=odt;obtain⟨cU,dE,au⟩:=Kd.at_int a7.out j cj ck;have ab:=au;cases dE;replace au:=(HB.out.cell (World.block_lt_of_cell? w _ au)).trans au;replace cj:=eq_true cj;replace ck:=eq_true ck;refine start_ (n:=14) (S:=fun w'=>w'.cell? (cU.add (j).toNat)=some (.int .i64 (rd l0 j))) (ds:=[]) #[false,false,false,false,false,false,false,false,false,false,false,false,false,false] (by kernel_rfl) rfl rfl (((HB.out.cell (World.block_lt_of_cell? w _ ab)).trans ab)) (fun hHeld=>?_);refine with_tabW spec_l6Rise.tab5 spec_l6Rise.bits5 (fun ax ed=>?_);generalize wr.drew=w9 at HO_5 HB au hHeld⊢;refine pure_ (i:=0) (N:=some 14) (v:=?_) (a':=?_) #[true,false,false,false,false,false,false,false,false,false,false,false,false,false] rfl rfl (any_of ax.out (by kernel_rfl)) (fun _ _ _ h=>h) (Or.inl ⟨by rfl,?_⟩) ?_ ?_;rotate_left
    ·intro w';go_simp;with_reducible rfl
    rotate_left
    ·simp only[Act.put,qA,qB,qC,i64_w,i32_w];rfl
    refine pure_ (i:=1) (N:=some 15) (v:=?_) (a':=?_) #[true,true,false,false,false,false,false,false,false,false,false,false,false,false] rfl rfl (any_of ax.out (by kernel_rfl)) (fun _ _ _ h=>h) (Or.inl ⟨by rfl,?_⟩) ?_ ?_;rotate_left
    ·intro w';go_simp;with_reducible rfl
    rotate_left
    ·simp only[Act.put,qA,qB,qC,i64_w,i32_w];rfl
    refine pure_ (i:=2) (N:=some 16) (v:=?_) (a':=?_) #[true,true,true,false,false,false,false,false,false,false,false,false,false,false] rfl rfl (any_of ax.out (by kernel_rfl)) (fun _ _ _ h=>h) (Or.inl ⟨by rfl,?_⟩) ?_ ?_;rotate_left
    ·intro w';go_simp;with_reducible rfl
    rotate_left
    ·simp only[Act.put,qA,qB,qC,i64_w,i32_w];rfl
    refine pure_ (i:=3) (N:=some 17) (v:=?_) (a':=?_) #[true,true,true,true,false,false,false,false,false,false,false,false,false,false] rfl rfl (any_of ax.out (by kernel_rfl)) (fun _ _ _ h=>h) (Or.inl ⟨by rfl,?_⟩) ?_ ?_;rotate_left
    ·intro w';go_simp;with_reducible rfl
    rotate_left
    ·simp only[Act.put,qA,qB,qC,i64_w,i32_w];rfl
    refine pure_ (i:=5) (N:=some 19) (v:=?_) (a':=?_) #[true,true,true,true,false,true,false,false,false,false,false,false,false,false] rfl rfl (any_of ax.out (by kernel_rfl)) (fun _ _ _ h=>h) (Or.inl ⟨by rfl,?_⟩) ?_ ?_;rotate_left
    ·intro w';go_simp;with_reducible rfl
    rotate_left
    ·simp only[Act.put,qA,qB,qC,i64_w,i32_w];rfl
    refine pure_ (i:=6) (N:=some 20) (v:=?_) (a':=?_) #[true,true,true,true,false,true,true,false,false,false,false,false,false,false] rfl rfl (any_of ax.out (by kernel_rfl)) (fun _ _ _ h=>h) (Or.inl ⟨by rfl,?_⟩) ?_ ?_;rotate_left
    ·intro w';go_simp;with_reducible rfl
    rotate_left
    ·simp only[Act.put,qA,qB,qC,i64_w,i32_w];rfl
    refine take_ (i:=4) (N:=some 18) (v:=?_) (a':=?_) #[true,true,true,true,true,true,true,false,false,false,false,false,false,false] rfl rfl (take_ofW ax.out ed.out (by kernel_rfl)) (fun _ _ _ h=>h) (Or.inl ⟨by rfl,?_⟩) hHeld ?_ ?_;rotate_left
    ·intro w' s0;go_simp;with_reducible rfl
    rotate_left
    ·simp only[Act.put,qA,qB,qC,i64_w,i32_w];rfl
    refine one_ (i:=7) (N:=some 21) #[true,true,true,true,true,true,true,true,false,false,false,false,false,false] rfl rfl (one_of ax.out (by kernel_rfl)) (by decide) (fun K hK=>?_);refine goes_ Try.func146 (by kernel_rfl) rfl #[.int .i64 a1,.int .i64 j] (by rfl) rfl rfl (by(try simp only[List.map_toArray,List.map_cons,List.map_nil]);first|done|rfl|(simp only[List.length_drop,List.length_take];rfl)) ?_;with_reducible refine(spec_l1Bit.calls a1 j t241 _ A7.out).mono ?_
    rintro e w' ⟨rfl,⟨nd,rfl⟩⟩;refine⟨_,rfl,?_⟩;refine hK.out _ _ (((HB.out.cell (World.block_lt_of_cell? w _ ab)).trans ab)) (fun hHeld=>?_);clear hK K;refine norm_ (a':=?_) ?_ ?_;rotate_left
    ·show Act.put _ (some 21) _=_
     simp only[Act.put,qA,qB,qC,i64_w,i32_w];rfl
    refine pure_ (i:=8) (N:=some 22) (v:=?_) (a':=?_) #[true,true,true,true,true,true,true,true,true,false,false,false,false,false] rfl rfl (any_of ax.out (by kernel_rfl)) (fun _ _ _ h=>h) (Or.inl ⟨by rfl,?_⟩) ?_ ?_;rotate_left
    ·intro w';go_simp;with_reducible rfl
    rotate_left
    ·simp only[Act.put,qA,qB,qC,i64_w,i32_w];rfl
    refine pure_ (i:=9) (N:=some 23) (v:=?_) (a':=?_) #[true,true,true,true,true,true,true,true,true,true,false,false,false,false] rfl rfl (any_of ax.out (by kernel_rfl)) (fun _ _ _ h=>h) (Or.inl ⟨by rfl,?_⟩) ?_ ?_;rotate_left
    ·intro w';go_simp;with_reducible rfl
    rotate_left
    ·simp only[Act.put,qA,qB,qC,i64_w,i32_w];rfl
    refine pure_ (i:=10) (N:=some 24) (v:=?_) (a':=?_) #[true,true,true,true,true,true,true,true,true,true,true,false,false,false] rfl rfl (any_of ax.out (by kernel_rfl)) (fun _ _ _ h=>h) (Or.inl ⟨by rfl,?_⟩) ?_ ?_;rotate_left
    ·intro w';go_simp;with_reducible rfl
    rotate_left
    ·simp only[Act.put,qA,qB,qC,i64_w,i32_w];rfl
    refine one_ (i:=11) (N:=some 25) #[true,true,true,true,true,true,true,true,true,true,true,true,false,false] rfl rfl (one_of ax.out (by kernel_rfl)) (by decide) (fun K hK=>?_);refine value_ (w1:=?_) (v:=?_) (by rfl) rfl ?_ ?_;rotate_left 2
    ·go_simp;constructor
     ·rfl
     ·rfl
    refine hK.out _ _ ((World.cell?_alloc_lt _ _ _ (World.block_lt_of_cell? _ _ (((HB.out.cell (World.block_lt_of_cell? w _ ab)).trans ab)))).trans (((HB.out.cell (World.block_lt_of_cell? w _ ab)).trans ab))) (fun hHeld=>?_);clear hK K;refine norm_ (a':=?_) ?_ ?_;rotate_left
    ·show Act.put _ (some 25) _=_
     simp only[Act.put,qA,qB,qC,i64_w,i32_w];rfl
    refine one_ (i:=12) (N:=some 26) #[true,true,true,true,true,true,true,true,true,true,true,true,true,false] rfl rfl (one_of ax.out (by kernel_rfl)) (by decide) (fun K hK=>?_);refine Kd.R_append_step (Kd.int .i64) (w0:=w) w.heap.size (by rfl) (.tmp 14) (.tmp 25) 55 3 (.int .i64 0) 8 rfl Try.underlying55 info3 rfl (by decide) (by omega) u5 aa (wrap64 ((rd l0 j)+(wrap64 ((wrap64 (1 - t241))*10)))) [.int .i64 (wrap64 ((rd l0 j)+(wrap64 ((wrap64 (1 - t241))*10))))] (fun _=>True) (fun _=>False) rfl rfl ?aP (fun _ hk=>hk.elim) ?aF ?aO ?aB ?aS ?aL ?_;(case aP=>exact rfl);(case aB=>exact(wZ HB));(case aF=>exact(fun _ _=>trivial));(case aO=>exact(rS HO_5));(case aS=>exact(below_size (wZ HB)));(case aL=>have:=dD.out;omega);intro ey w10 ho hb hg al
    rw[←cT.out]at ho;replace HB:=Asd.mk (hb);have cV:=Asd.mk (ho);clear HO_5 ho hb hg al
    refine hK.out _ _ (((HB.out.cell (World.block_lt_of_cell? w _ ab)).trans ab)) (fun hHeld=>?_);clear hK K;refine norm_ (a':=?_) ?_ ?_;rotate_left
    ·show Act.put _ (some 26) _=_
     simp only[Act.put,qA,qB,qC,i64_w,i32_w];rfl
    refine pure_ (i:=13) (N:=some 5) (v:=?_) (a':=?_) #[true,true,true,true,true,true,true,true,true,true,true,true,true,true] rfl rfl (any_of ax.out (by kernel_rfl)) (fun _ _ _ h=>h) (Or.inl ⟨by rfl,?_⟩) ?_ ?_;rotate_left
    ·intro w';go_simp;with_reducible rfl
    rotate_left
    ·simp only[Act.put,qA,qB,qC,i64_w,i32_w];rfl
    refine done_ (done_of ax.out (by kernel_rfl)) ?_;try go_wp2
    go_roundg k1
    case measure=>have:=ag.out;omega
    case rel=>exact⟨(cJ),(wrap64 (j+1)),(by first|rfl|(simp;done)|(simp[*];done)),H',⟨by have:=ag.out;omega⟩,⟨by(repeat apply Kd.RS);exact cV.out⟩,⟨wZ HB⟩⟩
   ·rw[if_neg c5]at H;have ch:decide (j<(l0.length:Int))=false:=decide_eq_false c5;clear c5;replace H:=Option.bind_eq_some_iff.mp H;obtain⟨t245,cK,H⟩:=H;try dsimp only at H
    have ee:=Asd.mk cK;clear cK;obtain rfl:=Option.some.inj H;obtain⟨dF,dG,dH⟩:=Kd.R_slice HO_5.out;subst dH;go_wp2_with (first|((with_reducible refine gate_callee (f:=147) rfl ?_);refine gsM (some 28) rfl rfl Try.func147 (by kernel_rfl) rfl #[.slice dF aa.length dG] rfl ?_;(with_reducible refine(spec_l6Tidy.calls k1 _ _ aa t245 _ ?side1 ?side2 ee.out).mono ?_);(case side1=>exact cZ (Kd.R_reads' HO_5.out).2.2);(case side2=>exact(Kd.R_reads' HO_5.out).2.1);rintro e w13 ⟨ez,rfl,bb,hb⟩;refine⟨_,rfl,?_⟩;have cW:=Asd.mk (Kd.R_lower (Kd.R_new' bb (Kd.R_lt (rS HO_5))) (below_size (wZ HB)));replace HO_5:=Asd.mk (Kd.R_elder' (rS HO_5) (Kd.R_base bb) hb);replace HB:=bW HB hb;(try clear hb);(try clear hb2);(try clear hk);(try clear hi);(try clear bb)));go_ret;exact⟨_,by first|rfl|(simp[*,errW_none,errW_some]<;>rfl),by(repeat apply Kd.RS);exact Kd.R_mono cW.out (fun _ hk=>trivial),wZ HB⟩

/-! ### spec_l2Least: function 134 -/
mutual
def spec_l2Least.l0:Nat→List Int→Int→Int→Int→Option (Int)
 |0,_,_,_,_=>none
 |k+1,x0,x1,x5,x6=>if x6<(x0.length:Int)then((spec_l1Bit.f x1 x6).bind fun t248=>(if t248=1 then(if 0≤x6 then(spec_l2Least.l0 k x0 x1 (mn x5 (rd x0 x6)) (wrap64 (x6+1)))else(none))else(spec_l2Least.l0 k x0 x1 x5 (wrap64 (x6+1)))))else(spec_l2Least.l1 k x0 x1 x5 0 0)
def spec_l2Least.l1:Nat→List Int→Int→Int→Int→Int→Option (Int)
 |0,_,_,_,_,_=>none
 |k+1,x0,x1,x5,x7,x8=>if x8<(x0.length:Int)then((spec_l1Bit.f x1 x8).bind fun av=>(if av=1 then(if 0≤x8 then(if(rd x0 x8)=x5 then(spec_l2Least.l1 k x0 x1 x5 (wrap64 (x7+(shl .i64 1 x8))) (wrap64 (x8+1)))else(spec_l2Least.l1 k x0 x1 x5 x7 (wrap64 (x8+1))))else(none))else(spec_l2Least.l1 k x0 x1 x5 x7 (wrap64 (x8+1)))))else(some x7)
end
def spec_l2Least.f (k:Nat) (l0:List Int) (a1:Int):Option (Int):=spec_l2Least.l0 k l0 a1 10 0
theorem spec_l2Least.mono_l:∀k,(∀y0 y1 y2 y3,LeO (spec_l2Least.l0 k y0 y1 y2 y3) (spec_l2Least.l0 (k+1) y0 y1 y2 y3))∧(∀y0 y1 y2 y3 y4,LeO (spec_l2Least.l1 k y0 y1 y2 y3 y4) (spec_l2Least.l1 (k+1) y0 y1 y2 y3 y4))
 |0=>⟨fun _ _ _ _ r h=>by simp[spec_l2Least.l0]at h,fun _ _ _ _ _ r h=>by simp[spec_l2Least.l1]at h⟩
 |k+1=>by
  obtain⟨an,a6⟩:=spec_l2Least.mono_l k;refine⟨?_,?_⟩
  ·intro y0 y1 y2 y3;unfold spec_l2Least.l0;repeat' first
   |(with_reducible first|exact an _ _ _ _|exact a6 _ _ _ _ _|exact LeO.refl _|exact LeO.none _|refine LeO.ite ?_ ?_|refine LeO.bind ?_ (fun _=>?_))
   |refine LeO.ite ?_ ?_
   |refine LeO.bind ?_ (fun _=>?_)
  ·intro y0 y1 y2 y3 y4;unfold spec_l2Least.l1;repeat' first
   |(with_reducible first|exact an _ _ _ _|exact a6 _ _ _ _ _|exact LeO.refl _|exact LeO.none _|refine LeO.ite ?_ ?_|refine LeO.bind ?_ (fun _=>?_))
   |refine LeO.ite ?_ ?_
   |refine LeO.bind ?_ (fun _=>?_)
theorem spec_l2Least.mono:∀a0 a1 k,LeO (spec_l2Least.f k a0 a1) (spec_l2Least.f (k+1) a0 a1):=by
 intro a0 a1 k;obtain⟨an,a6⟩:=spec_l2Least.mono_l k;unfold spec_l2Least.f
 repeat' first
   |(with_reducible first|exact an _ _ _ _|exact a6 _ _ _ _ _|exact LeO.refl _|exact LeO.none _|refine LeO.ite ?_ ?_|refine LeO.bind ?_ (fun _=>?_))
   |refine LeO.ite ?_ ?_
   |refine LeO.bind ?_ (fun _=>?_)
set_option maxHeartbeats 8000000 in
set_option maxRecDepth 100000 in
theorem spec_l2Least.calls (k:Nat) (A0:Option Addr) (c0:Nat) (l0:List Int) (a1:Int) (r:Int) (w:World) (bd:Kd.C (Kd.int .i64) w A0 l0.length l0) (bf:l0.length≤c0) (h:spec_l2Least.f k l0 a1=some r):
  Calls Try.prog 134 #[.slice A0 l0.length c0,.int .i64 a1] w fun e w'=>e= .returned (.int .i64 r)∧Below w.heap.size w w':=by
 have a7:=Asd.mk bd;have di:=Asd.mk bf;clear bd bf;have HB:=Asd.mk (Below.refl w.heap.size w);have H:(spec_l2Least.l0 k l0 a1 10 0)=some r:=h;clear h;have H':=Asd.mk H;clear H;go_enter Try.func134,Try.ntmps134;go_wp2;go_loopg [5,6] k (fun kq v5 v6 w'=>∃(aa:Int) (j:Int),v5= .int .i64 aa∧v6= .int .i64 j∧Asd (spec_l2Least.l0 kq l0 a1 aa j=some r)∧Asd (kq≤k)∧Asd (Below w.heap.size w w'))
 case atStart=>exact⟨(10),(0),(by first|rfl|(simp;done)|(simp[*];done)),(by first|rfl|(simp;done)|(simp[*];done)),H',⟨Nat.le_refl _⟩,⟨wZ HB⟩⟩
 case round=>
  clear H';obtain⟨aa,j,rfl,rfl,HA,ag,HB⟩:=hrel;cases gk with
  |zero=>exact absurd HA.out (by simp[spec_l2Least.l0])
  |succ k1=>
   have H:=HA.out;clear HA;simp only[spec_l2Least.l0]at H;by_cases c3:j<(l0.length:Int)
   ·rw[if_pos c3]at H;have dI:decide (j<(l0.length:Int))=true:=decide_eq_true c3;clear c3;replace H:=Option.bind_eq_some_iff.mp H;obtain⟨t248,dJ,H⟩:=H;try dsimp only at H
    have A4:=Asd.mk dJ;clear dJ;by_cases c5:t248=1
    ·rw[if_pos c5]at H;have ch:(t248==1)=true:=beq_iff_eq.mpr c5;have dK:(t248 !=1)=false:=bne_eq_false_iff_eq.mpr c5;clear c5;by_cases c6:0≤j;rotate_left;(rw[if_neg c6]at H;exact absurd H (by simp));rw[if_pos c6]at H;have dB:decide (0≤j)=true:=decide_eq_true c6;clear c6;obtain⟨cX,bk⟩:∃j_:Int,(mn aa (rd l0 j))=j_:=⟨_,rfl⟩;replace H:(spec_l2Least.l0 k1 l0 a1 cX (wrap64 (j+1)))=some r:=by first|(rw[bk]at H;exact H)|(simp only[bk]at H⊢;exact H)
     (try rw[bk]at A4);have ef:(if(rd l0 j)<aa then(rd l0 j)else aa)=cX:=bk;have H':=Asd.mk H;clear H;go_wp2_with (first|((with_reducible refine gate_callee (f:=146) rfl ?_);refine gsM (some 17) rfl rfl Try.func146 (by kernel_rfl) rfl #[.int .i64 a1,.int .i64 j] rfl ?_;(with_reducible refine(spec_l1Bit.calls a1 j t248 _ A4.out).mono ?_);rintro e w' ⟨rfl,⟨nd,rfl⟩⟩;refine⟨_,rfl,?_⟩;have cl:0≤(j:Int):=odt;have cm:j<(l0.length:Int):=odt;obtain⟨eg,dL,aU⟩:=Kd.at_int a7.out j cl cm;cases dL;replace aU:=(HB.out.cell (World.block_lt_of_cell? w _ aU)).trans aU;replace cl:=eq_true cl;replace cm:=eq_true cm));go_roundg k1
     case measure=>have:=ag.out;omega
     case rel=>exact⟨(cX),(wrap64 (j+1)),(by first|rfl|(simp;done)|(simp only[←bk]<;>(first|rfl|simp))|(simp[*];done)),(by first|rfl|(simp;done)|(simp[*];done)),H',⟨by have:=ag.out;omega⟩,⟨wZ HB⟩⟩
    ·rw[if_neg c5]at H;have ch:(t248==1)=false:=beq_eq_false_iff_ne.mpr c5;have dK:(t248 !=1)=true:=bne_iff_ne.mpr c5;have H':=Asd.mk H;clear H;go_wp2_with (first|((with_reducible refine gate_callee (f:=146) rfl ?_);refine gsM (some 17) rfl rfl Try.func146 (by kernel_rfl) rfl #[.int .i64 a1,.int .i64 j] rfl ?_;(with_reducible refine(spec_l1Bit.calls a1 j t248 _ A4.out).mono ?_);rintro e w' ⟨rfl,⟨nd,rfl⟩⟩;refine⟨_,rfl,?_⟩));go_roundg k1
     case measure=>have:=ag.out;omega
     case rel=>exact⟨(aa),(wrap64 (j+1)),(by first|rfl|(simp;done)|(simp[*];done)),(by first|rfl|(simp;done)|(simp[*];done)),H',⟨by have:=ag.out;omega⟩,⟨wZ HB⟩⟩
   ·rw[if_neg c3]at H;have dI:decide (j<(l0.length:Int))=false:=decide_eq_false c3;clear c3;have H':=Asd.mk H;clear H;go_wp2;go_loopg [7,8] k1 (fun kq v7 v8 w'=>∃(aV:Int) (o:Int),v7= .int .i64 aV∧v8= .int .i64 o∧Asd (spec_l2Least.l1 kq l0 a1 aa aV o=some r)∧Asd (kq≤k1)∧Asd (Below w.heap.size w w'))
    case atStart=>exact⟨(0),(0),(by first|rfl|(simp;done)|(simp[*];done)),(by first|rfl|(simp;done)|(simp[*];done)),H',⟨Nat.le_refl _⟩,⟨wZ HB⟩⟩
    case round=>
     clear H';obtain⟨aV,o,rfl,rfl,HA,aq,HB⟩:=hrel;cases gk with
     |zero=>exact absurd HA.out (by simp[spec_l2Least.l1])
     |succ k2=>
      have H:=HA.out;clear HA;simp only[spec_l2Least.l1]at H;by_cases c8:o<(l0.length:Int)
      ·rw[if_pos c8]at H;have cE:decide (o<(l0.length:Int))=true:=decide_eq_true c8;clear c8;replace H:=Option.bind_eq_some_iff.mp H;obtain⟨av,dM,H⟩:=H;try dsimp only at H
       have A9:=Asd.mk dM;clear dM;by_cases c10:av=1
       ·rw[if_pos c10]at H;have ar:(av==1)=true:=beq_iff_eq.mpr c10;have bD:(av !=1)=false:=bne_eq_false_iff_eq.mpr c10;clear c10;by_cases aJ:0≤o;rotate_left;(rw[if_neg aJ]at H;exact absurd H (by simp));rw[if_pos aJ]at H;have b1:decide (0≤o)=true:=decide_eq_true aJ;clear aJ;by_cases aD:(rd l0 o)=aa
        ·rw[if_pos aD]at H;have cY:((rd l0 o)==aa)=true:=beq_iff_eq.mpr aD;have da:((rd l0 o) !=aa)=false:=bne_eq_false_iff_eq.mpr aD;clear aD;have eh:=eq_true (odt:0≤o);obtain⟨aC,aA⟩:∃j_:Int,(shl .i64 1 o)=j_:=⟨_,rfl⟩;replace H:(spec_l2Least.l1 k2 l0 a1 aa (wrap64 (aV+(aC))) (wrap64 (o+1)))=some r:=by first|(rw[aA]at H;exact H)|(simp only[aA]at H⊢;exact H)
         (try rw[aA]at A9);have bJ:(IntKind.i64.wrap (1*2^min o.toNat 64))=aC:=aA;have bO:o≤64→(IntKind.i64.wrap (1*2^o.toNat))=aC:=shl_small aA;have dT:(IntKind.i64.wrap (2^min o.toNat 64))=aC:=by have h_:=bJ;rw[Int.one_mul]at h_;exact h_
         have dU:o≤64→(IntKind.i64.wrap (2^o.toNat))=aC:=fun dN=>by have h_:=bO dN;rw[Int.one_mul]at h_;exact h_
         have dV:(wrap64 (1*2^min o.toNat 64))=aC:=(i64_w _).symm.trans bJ;have dW:o≤64→(wrap64 (1*2^o.toNat))=aC:=fun h_=>(i64_w _).symm.trans (bO h_)
         have H':=Asd.mk H;clear H;go_wp2_with (first|((with_reducible refine gate_callee (f:=146) rfl ?_);refine gsM (some 33) rfl rfl Try.func146 (by kernel_rfl) rfl #[.int .i64 a1,.int .i64 o] rfl ?_;(with_reducible refine(spec_l1Bit.calls a1 o av _ A9.out).mono ?_);rintro e w' ⟨rfl,⟨nd,rfl⟩⟩;refine⟨_,rfl,?_⟩;have aW:0≤(o:Int):=odt;have aY:o<(l0.length:Int):=odt;obtain⟨db,cn,ah⟩:=Kd.at_int a7.out o aW aY;cases cn;replace ah:=(HB.out.cell (World.block_lt_of_cell? w _ ah)).trans ah;replace aW:=eq_true aW;replace aY:=eq_true aY));go_roundg k2
         case measure=>have:=ag.out;have:=aq.out;omega
         case rel=>exact⟨(wrap64 (aV+(aC))),(wrap64 (o+1)),(by first|rfl|(simp;done)|(simp only[←aA]<;>(first|rfl|simp))|(simp[*];done)),(by first|rfl|(simp;done)|(simp[*];done)),H',⟨by have:=ag.out;have:=aq.out;omega⟩,⟨wZ HB⟩⟩
        ·rw[if_neg aD]at H;have cY:((rd l0 o)==aa)=false:=beq_eq_false_iff_ne.mpr aD;have da:((rd l0 o) !=aa)=true:=bne_iff_ne.mpr aD;have H':=Asd.mk H;clear H;go_wp2_with (first|((with_reducible refine gate_callee (f:=146) rfl ?_);refine gsM (some 33) rfl rfl Try.func146 (by kernel_rfl) rfl #[.int .i64 a1,.int .i64 o] rfl ?_;(with_reducible refine(spec_l1Bit.calls a1 o av _ A9.out).mono ?_);rintro e w' ⟨rfl,⟨nd,rfl⟩⟩;refine⟨_,rfl,?_⟩;have aW:0≤(o:Int):=odt;have aY:o<(l0.length:Int):=odt;obtain⟨db,cn,ah⟩:=Kd.at_int a7.out o aW aY;cases cn;replace ah:=(HB.out.cell (World.block_lt_of_cell? w _ ah)).trans ah;replace aW:=eq_true aW;replace aY:=eq_true aY));go_roundg k2
         case measure=>have:=ag.out;have:=aq.out;omega
         case rel=>exact⟨(aV),(wrap64 (o+1)),(by first|rfl|(simp;done)|(simp[*];done)),(by first|rfl|(simp;done)|(simp[*];done)),H',⟨by have:=ag.out;have:=aq.out;omega⟩,⟨wZ HB⟩⟩
       ·rw[if_neg c10]at H;have ar:(av==1)=false:=beq_eq_false_iff_ne.mpr c10;have bD:(av !=1)=true:=bne_iff_ne.mpr c10;have H':=Asd.mk H;clear H;go_wp2_with (first|((with_reducible refine gate_callee (f:=146) rfl ?_);refine gsM (some 33) rfl rfl Try.func146 (by kernel_rfl) rfl #[.int .i64 a1,.int .i64 o] rfl ?_;(with_reducible refine(spec_l1Bit.calls a1 o av _ A9.out).mono ?_);rintro e w' ⟨rfl,⟨nd,rfl⟩⟩;refine⟨_,rfl,?_⟩));go_roundg k2
        case measure=>have:=ag.out;have:=aq.out;omega
        case rel=>exact⟨(aV),(wrap64 (o+1)),(by first|rfl|(simp;done)|(simp[*];done)),(by first|rfl|(simp;done)|(simp[*];done)),H',⟨by have:=ag.out;have:=aq.out;omega⟩,⟨wZ HB⟩⟩
      ·rw[if_neg c8]at H;have cE:decide (o<(l0.length:Int))=false:=decide_eq_false c8;clear c8;obtain rfl:=Option.some.inj H;go_wp2;go_ret;exact⟨by first|rfl|(simp[*,errW_none,errW_some]<;>rfl),wZ HB⟩

/-! ### spec_ChangedBy: function 108 -/
def spec_ChangedBy.j0:Nat→List Int→Int→Int→Bool→Option (List Int×Bool)
 |0,_,_,_,_=>none
 |k+1,x1,x2,x3,x28=>if x28=true then(some ((([]:List Int)),false))else(if x2=0 then((spec_l2Least.f k x1 x3).bind fun bl=>((spec_l6Rise.f k x1 bl).bind fun cp=>(some (cp,true))))else((spec_l6Rise.f k x1 x3).bind fun cq=>(some (cq,true))))
def spec_ChangedBy.f (k:Nat) (a0:Int) (l1:List Int) (a2:Int) (a3:Int):Option (List Int×Bool):=(spec_RankOk.f k a0 l1).bind fun bn=>(if bn=true then((spec_SetOk.f a0 a3).bind fun bo=>(if bo=true then(if a3=0 then(spec_ChangedBy.j0 k l1 a2 a3 true)else((spec_l1In.f a2 0 1).bind fun a8=>(spec_ChangedBy.j0 k l1 a2 a3 (!a8))))else(spec_ChangedBy.j0 k l1 a2 a3 true)))else(spec_ChangedBy.j0 k l1 a2 a3 true))
theorem spec_ChangedBy.mono_l:∀k,(∀y0 y1 y2 y3,LeO (spec_ChangedBy.j0 k y0 y1 y2 y3) (spec_ChangedBy.j0 (k+1) y0 y1 y2 y3))
 |0=>fun _ _ _ _ r h=>by simp[spec_ChangedBy.j0]at h
 |k+1=>by
  have an:=spec_ChangedBy.mono_l k
  ·intro y0 y1 y2 y3;unfold spec_ChangedBy.j0;repeat' first
   |(with_reducible first|exact an _ _ _ _|exact spec_RankOk.mono _ _ _|exact spec_l2Least.mono _ _ _|exact spec_l6Rise.mono _ _ _|exact LeO.refl _|exact LeO.none _|refine LeO.ite ?_ ?_|refine LeO.bind ?_ (fun _=>?_))
   |refine LeO.ite ?_ ?_
   |refine LeO.bind ?_ (fun _=>?_)
theorem spec_ChangedBy.mono:∀a0 a1 a2 a3 k,LeO (spec_ChangedBy.f k a0 a1 a2 a3) (spec_ChangedBy.f (k+1) a0 a1 a2 a3):=by
 intro a0 a1 a2 a3 k;have an:=spec_ChangedBy.mono_l k;unfold spec_ChangedBy.f
 repeat' first
   |(with_reducible first|exact an _ _ _ _|exact spec_RankOk.mono _ _ _|exact spec_l2Least.mono _ _ _|exact spec_l6Rise.mono _ _ _|exact LeO.refl _|exact LeO.none _|refine LeO.ite ?_ ?_|refine LeO.bind ?_ (fun _=>?_))
   |refine LeO.ite ?_ ?_
   |refine LeO.bind ?_ (fun _=>?_)
set_option maxHeartbeats 8000000 in
set_option maxRecDepth 100000 in
theorem spec_ChangedBy.calls (k:Nat) (a0:Int) (A1:Option Addr) (c1:Nat) (l1:List Int) (a2:Int) (a3:Int) (r1:List Int) (r2:Bool) (w:World) (dO:Kd.C (Kd.int .i64) w A1 l1.length l1) (dP:l1.length≤c1) (h:spec_ChangedBy.f k a0 l1 a2 a3=some (r1,r2)):
  Calls Try.prog 108 #[.int .i64 a0,.slice A1 l1.length c1,.int .i64 a2,.int .i64 a3] w fun e w'=>∃bg:Value,e= .returned (.tuple #[bg,.bool r2])∧Kd.R (Kd.int .i64) 3 w' w.heap.size (fun _=>True) bg r1∧Below w.heap.size w w':=by
 have bF:=Asd.mk dO;have bH:=Asd.mk dP;clear dO dP;have HB:=Asd.mk (Below.refl w.heap.size w);have H:((spec_RankOk.f k a0 l1).bind fun bn=>(if bn=true then((spec_SetOk.f a0 a3).bind fun bo=>(if bo=true then(if a3=0 then(spec_ChangedBy.j0 k l1 a2 a3 true)else((spec_l1In.f a2 0 1).bind fun a8=>(spec_ChangedBy.j0 k l1 a2 a3 (!a8))))else(spec_ChangedBy.j0 k l1 a2 a3 true)))else(spec_ChangedBy.j0 k l1 a2 a3 true)))=some (r1,r2):=h;clear h;have dc:=Asd.mk H;clear H;go_enter Try.func108,Try.ntmps108;go_upto_region 1 with(fail)
 go_cut [28] (fun v28 wc=>∃(kq:Nat) (bc:Bool),v28= .bool bc∧Asd (spec_ChangedBy.j0 kq l1 a2 a3 bc=some (r1,r2))∧Asd (kq≤k)∧Asd (Below w.heap.size w wc))
 case first=>
  have H:=dc.out;clear dc;replace H:=Option.bind_eq_some_iff.mp H;obtain⟨bn,dQ,H⟩:=H;try dsimp only at H
  have A6:=Asd.mk dQ;clear dQ;by_cases c7:bn=true
  ·subst c7;rw[if_pos rfl]at H;replace H:=Option.bind_eq_some_iff.mp H;obtain⟨bo,dR,H⟩:=H;try dsimp only at H
   have A8:=Asd.mk dR;clear dR;by_cases c9:bo=true
   ·subst c9;rw[if_pos rfl]at H;by_cases c10:a3=0
    ·rw[if_pos c10]at H;have ar:(a3==0)=true:=beq_iff_eq.mpr c10;have bD:(a3 !=0)=false:=bne_eq_false_iff_eq.mpr c10;clear c10;(first|rw[ar]|(simp only[i64_w,i32_w];rw[ar])|skip);have H':=Asd.mk H;clear H;go_wp2_with (first|((with_reducible refine gate_callee (f:=59) rfl ?_);refine gsM (some 12) rfl rfl Try.func59 (by kernel_rfl) rfl #[.int .i64 a0,.slice A1 l1.length c1] rfl ?_;(with_reducible refine(spec_RankOk.calls k a0 _ _ l1 true _ ?side1 ?side2 A6.out).mono ?_);(case side1=>exact cZ (Kd.C_below bF.out HB.out));(case side2=>exact bH.out);rintro e w11 ⟨rfl,hb⟩;refine⟨_,rfl,?_⟩;replace HB:=bW HB hb;(try clear hb);(try clear hb2);(try clear hk);(try clear hi))|(go_at_call 132;(with_reducible refine(spec_SetOk.calls a0 a3 true _ A8.out).mono ?_);rintro e w' ⟨rfl,⟨nd,rfl⟩⟩));go_meet
     case rel=>exact⟨_,(true),(by first|rfl|(simp;done)|(simp[*];done)),H',⟨by first|omega|exact Nat.le_refl _⟩,⟨wZ HB⟩⟩
    ·rw[if_neg c10]at H;have ar:(a3==0)=false:=beq_eq_false_iff_ne.mpr c10;have bD:(a3 !=0)=true:=bne_iff_ne.mpr c10;(first|rw[ar]|(simp only[i64_w,i32_w];rw[ar])|skip);replace H:=Option.bind_eq_some_iff.mp H;obtain⟨a8,cL,H⟩:=H;try dsimp only at H
     have ei:=Asd.mk cL;clear cL;have H':=Asd.mk H;clear H;go_wp2_with (first|((with_reducible refine gate_callee (f:=59) rfl ?_);refine gsM (some 12) rfl rfl Try.func59 (by kernel_rfl) rfl #[.int .i64 a0,.slice A1 l1.length c1] rfl ?_;(with_reducible refine(spec_RankOk.calls k a0 _ _ l1 true _ ?side1 ?side2 A6.out).mono ?_);(case side1=>exact cZ (Kd.C_below bF.out HB.out));(case side2=>exact bH.out);rintro e w13 ⟨rfl,hb⟩;refine⟨_,rfl,?_⟩;replace HB:=bW HB hb;(try clear hb);(try clear hb2);(try clear hk);(try clear hi))|(go_at_call 132;(with_reducible refine(spec_SetOk.calls a0 a3 true _ A8.out).mono ?_);rintro e w' ⟨rfl,⟨nd,rfl⟩⟩)|(go_at_call 72;(with_reducible refine(spec_l1In.calls a2 0 1 a8 _ ei.out).mono ?_);rintro e w' ⟨rfl,⟨nd,rfl⟩⟩));go_meet
     case rel=>exact⟨_,(!a8),(by first|rfl|(simp;done)|(simp[*];done)),H',⟨by first|omega|exact Nat.le_refl _⟩,⟨wZ HB⟩⟩
   ·replace c9:=Bool.eq_false_iff.mpr c9;subst c9;rw[if_neg (show¬(false=true) by decide)]at H;have H':=Asd.mk H;clear H;go_wp2_with (first|((with_reducible refine gate_callee (f:=59) rfl ?_);refine gsM (some 12) rfl rfl Try.func59 (by kernel_rfl) rfl #[.int .i64 a0,.slice A1 l1.length c1] rfl ?_;(with_reducible refine(spec_RankOk.calls k a0 _ _ l1 true _ ?side1 ?side2 A6.out).mono ?_);(case side1=>exact cZ (Kd.C_below bF.out HB.out));(case side2=>exact bH.out);rintro e w14 ⟨rfl,hb⟩;refine⟨_,rfl,?_⟩;replace HB:=bW HB hb;(try clear hb);(try clear hb2);(try clear hk);(try clear hi))|(go_at_call 132;(with_reducible refine(spec_SetOk.calls a0 a3 false _ A8.out).mono ?_);rintro e w' ⟨rfl,⟨nd,rfl⟩⟩));go_meet
    case rel=>exact⟨_,(true),(by first|rfl|(simp;done)|(simp[*];done)),H',⟨by first|omega|exact Nat.le_refl _⟩,⟨wZ HB⟩⟩
  ·replace c7:=Bool.eq_false_iff.mpr c7;subst c7;rw[if_neg (show¬(false=true) by decide)]at H;have H':=Asd.mk H;clear H;go_wp2_with (first|((with_reducible refine gate_callee (f:=59) rfl ?_);refine gsM (some 12) rfl rfl Try.func59 (by kernel_rfl) rfl #[.int .i64 a0,.slice A1 l1.length c1] rfl ?_;(with_reducible refine(spec_RankOk.calls k a0 _ _ l1 false _ ?side1 ?side2 A6.out).mono ?_);(case side1=>exact cZ (Kd.C_below bF.out HB.out));(case side2=>exact bH.out);rintro e w15 ⟨rfl,hb⟩;refine⟨_,rfl,?_⟩;replace HB:=bW HB hb;(try clear hb);(try clear hb2);(try clear hk);(try clear hi)));go_meet
   case rel=>exact⟨_,(true),(by first|rfl|(simp;done)|(simp[*];done)),H',⟨by first|omega|exact Nat.le_refl _⟩,⟨wZ HB⟩⟩
 case rest=>
  clear dc;obtain⟨kq,bc,rfl,HA,eD,HB⟩:=hcut;cases kq with
  |zero=>exact absurd HA.out (by simp[spec_ChangedBy.j0])
  |succ kj4=>
   have H:=HA.out;clear HA;simp only[spec_ChangedBy.j0]at H;by_cases ba:bc=true
   ·subst ba;rw[if_pos rfl]at H;obtain⟨dS,aZ⟩:∃y_:List Int,y_=(([]:List Int)):=⟨_,rfl⟩;replace H:(some (dS,false))=some (r1,r2):=by first|(rw[aZ];with_reducible exact H)|(have af:=(Option.bind_some _ _).symm.trans H;rw[aZ];with_reducible exact af)|(have af:=(Option.bind_some _ _).symm.trans H;with_reducible exact af)|with_reducible exact H|(rw[aZ];exact H)|exact H
    have cr:=Asd.mk aZ;clear aZ;simp only[Option.some.injEq,Prod.mk.injEq]at H;obtain⟨rfl,rfl⟩:=H;go_wp2_with (first|((with_reducible refine gate_dst (N:=29) rfl ?_);refine Kd.R_lit (Kd.int .i64) _ 3 ?hg (N:=29) ?hd (xs:=([]:List Int)) (inner:=[]) (ok:=fun _=>True) (okp:=fun _=>True) ?hr ?hp (fun _ hk=>hk) trivial (Below.refl _ _) (Nat.le_refl _) (by simp) ?_;(case hd=>rfl);(case hg=>rfl);(case hr=>first|(go_simp;done)|(go_simp;rfl));(case hp=>exact(Reps.none _ _));intro eA w17 bp hb aw ad;clear aw ad;(first|rw[←cr.out]at bp|(simp only[Int.reduceToNat]at bp;rw[←cr.out]at bp));have dd:=Asd.mk (Kd.R_lower bp (below_size (wZ HB)));replace HB:=bW HB hb;clear hb bp));go_ret2;exact⟨_,by first|rfl|(simp[*,errW_none,errW_some]<;>rfl),by(repeat apply Kd.RS);exact dd.out,wZ HB⟩
   ·replace ba:=Bool.eq_false_iff.mpr ba;subst ba;rw[if_neg (show¬(false=true) by decide)]at H;by_cases bI:a2=0
    ·rw[if_pos bI]at H;have de:(a2==0)=true:=beq_iff_eq.mpr bI;have df:(a2 !=0)=false:=bne_eq_false_iff_eq.mpr bI;clear bI;replace H:=Option.bind_eq_some_iff.mp H;obtain⟨bl,cM,H⟩:=H;try dsimp only at H
     have ej:=Asd.mk cM;clear cM;replace H:=Option.bind_eq_some_iff.mp H;obtain⟨cp,cN,H⟩:=H;try dsimp only at H
     have ek:=Asd.mk cN;clear cN;simp only[Option.some.injEq,Prod.mk.injEq]at H;obtain⟨rfl,rfl⟩:=H;go_wp2_with (first|((with_reducible refine gate_callee (f:=134) rfl ?_);refine gsM (some 35) rfl rfl Try.func134 (by kernel_rfl) rfl #[.slice A1 l1.length c1,.int .i64 a3] rfl ?_;(with_reducible refine(spec_l2Least.calls kj4 _ _ l1 a3 bl _ ?side1 ?side2 ej.out).mono ?_);(case side1=>exact cZ (Kd.C_below bF.out HB.out));(case side2=>exact bH.out);rintro e eE ⟨rfl,hb⟩;refine⟨_,rfl,?_⟩;replace HB:=bW HB hb;(try clear hb);(try clear hb2);(try clear hk);(try clear hi))|((with_reducible refine gate_callee (f:=133) rfl ?_);refine gsM (some 36) rfl rfl Try.func133 (by kernel_rfl) rfl #[.slice A1 l1.length c1,.int .i64 bl] rfl ?_;(with_reducible refine(spec_l6Rise.calls kj4 _ _ l1 bl cp _ ?side1 ?side2 ek.out).mono ?_);(case side1=>exact cZ (Kd.C_below bF.out HB.out));(case side2=>exact bH.out);rintro e eF ⟨eB,rfl,bb,hb⟩;refine⟨_,rfl,?_⟩;have dg:=Asd.mk (Kd.R_lower bb (below_size (wZ HB)));replace HB:=bW HB hb;(try clear hb);(try clear hb2);(try clear hk);(try clear hi);(try clear bb)));go_ret2;exact⟨_,by first|rfl|(simp[*,errW_none,errW_some]<;>rfl),by(repeat apply Kd.RS);exact dg.out,wZ HB⟩
    ·rw[if_neg bI]at H;have de:(a2==0)=false:=beq_eq_false_iff_ne.mpr bI;have df:(a2 !=0)=true:=bne_iff_ne.mpr bI;replace H:=Option.bind_eq_some_iff.mp H;obtain⟨cq,cO,H⟩:=H;try dsimp only at H
     have el:=Asd.mk cO;clear cO;simp only[Option.some.injEq,Prod.mk.injEq]at H;obtain⟨rfl,rfl⟩:=H;go_wp2_with (first|((with_reducible refine gate_callee (f:=133) rfl ?_);refine gsM (some 39) rfl rfl Try.func133 (by kernel_rfl) rfl #[.slice A1 l1.length c1,.int .i64 a3] rfl ?_;(with_reducible refine(spec_l6Rise.calls kj4 _ _ l1 a3 cq _ ?side1 ?side2 el.out).mono ?_);(case side1=>exact cZ (Kd.C_below bF.out HB.out));(case side2=>exact bH.out);rintro e eG ⟨eC,rfl,bb,hb⟩;refine⟨_,rfl,?_⟩;have dh:=Asd.mk (Kd.R_lower bb (below_size (wZ HB)));replace HB:=bW HB hb;(try clear hb);(try clear hb2);(try clear hk);(try clear hi);(try clear bb)));go_ret2;exact⟨_,by first|rfl|(simp[*,errW_none,errW_some]<;>rfl),by(repeat apply Kd.RS);exact dh.out,wZ HB⟩

end Go.Proofs.Ytihgpkohglcijaa.P
