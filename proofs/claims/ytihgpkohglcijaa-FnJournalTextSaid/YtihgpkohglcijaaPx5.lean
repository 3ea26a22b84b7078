-- Written by a program of this session (wip/hook.py), which runs the kit's printer; Lean checks it.
import Derived.Test.YtihgpkohglcijaaPx0
import Derived.Test.YtihgpkohglcijaaPx2
import Derived.Test.YtihgpkohglcijaaPx3
import Derived.Test.YtihgpkohglcijaaPx4
namespace Go.Proofs.Ytihgpkohglcijaa.P
open Go.RowKit Go.Proofs.YtihgpkohglcijaaW.PrintWords Go.Proofs.YtihgpkohglcijaaW.PrintLast Go.Proofs.YtihgpkohglcijaaW.PrintMore
attribute [local go_sem] max2_int min2_int max_two min_two max_three min_three max_four min_four   -- for this text's walks alone
set_option linter.unusedVariables false
set_option linter.unusedSimpArgs false

/-! ### spec_l6Tidy: function 147 -/
mutual
def spec_l6Tidy.l0:Nat→List Int→List Int→Int→Option (List Int)
 |0,_,_,_=>none
 |k+1,x0,x3,x4=>if x4<(x0.length:Int)then(spec_l6Tidy.l1 k x0 x3 x4 (([]:List Int)) 0)else(some x3)
def spec_l6Tidy.l1:Nat→List Int→List Int→Int→List Int→Int→Option (List Int)
 |0,_,_,_,_,_=>none
 |k+1,x0,x3,x4,x5,x6=>if x6<(x0.length:Int)then(if 0≤x6 then(if 0≤x4 then(if x4<(x0.length:Int)then(spec_l6Tidy.l2 k x0 x3 x4 x5 x6 (decide ((rd x0 x6)≥(rd x0 x4))) 0)else(none))else(none))else(none))else(if x3.length<17592186044416 then(spec_l6Tidy.l0 k x0 (x3++ [(x5.length:Int)]) (wrap64 (x4+1)))else(none))
def spec_l6Tidy.l2:Nat→List Int→List Int→Int→List Int→Int→Bool→Int→Option (List Int)
 |0,_,_,_,_,_,_,_=>none
 |k+1,x0,x3,x4,x5,x6,x7,x8=>if x8<(x5.length:Int)then(if x7=true then(spec_l6Tidy.l2 k x0 x3 x4 x5 x6 true (wrap64 (x8+1)))else(if 0≤x8 then(if 0≤x6 then(if x6<(x0.length:Int)then(spec_l6Tidy.l2 k x0 x3 x4 x5 x6 ((rd x5 x8)==(rd x0 x6)) (wrap64 (x8+1)))else(none))else(none))else(none)))else(if x7=true then(spec_l6Tidy.l1 k x0 x3 x4 x5 (wrap64 (x6+1)))else(if 0≤x6 then(if x6<(x0.length:Int)then(if x5.length<17592186044416 then(spec_l6Tidy.l1 k x0 x3 x4 (x5++ [rd x0 x6]) (wrap64 (x6+1)))else(none))else(none))else(none)))
end
def spec_l6Tidy.f (k:Nat) (l0:List Int):Option (List Int):=spec_l6Tidy.l0 k l0 (([]:List Int)) 0
theorem spec_l6Tidy.mono_l:∀k,(∀y0 y1 y2,LeO (spec_l6Tidy.l0 k y0 y1 y2) (spec_l6Tidy.l0 (k+1) y0 y1 y2))∧(∀y0 y1 y2 y3 y4,LeO (spec_l6Tidy.l1 k y0 y1 y2 y3 y4) (spec_l6Tidy.l1 (k+1) y0 y1 y2 y3 y4))∧(∀y0 y1 y2 y3 y4 y5 y6,LeO (spec_l6Tidy.l2 k y0 y1 y2 y3 y4 y5 y6) (spec_l6Tidy.l2 (k+1) y0 y1 y2 y3 y4 y5 y6))
 |0=>⟨fun _ _ _ r h=>by simp[spec_l6Tidy.l0]at h,fun _ _ _ _ _ r h=>by simp[spec_l6Tidy.l1]at h,fun _ _ _ _ _ _ _ r h=>by simp[spec_l6Tidy.l2]at h⟩
 |k+1=>by
  obtain⟨al,aZ,bZ⟩:=spec_l6Tidy.mono_l k;refine⟨?_,?_,?_⟩
  ·intro y0 y1 y2;unfold spec_l6Tidy.l0;repeat' first
   |(with_reducible first|exact al _ _ _|exact aZ _ _ _ _ _|exact bZ _ _ _ _ _ _ _|exact LeO.refl _|exact LeO.none _|refine LeO.ite ?_ ?_|refine LeO.bind ?_ (fun _=>?_))
   |refine LeO.ite ?_ ?_
   |refine LeO.bind ?_ (fun _=>?_)
  ·intro y0 y1 y2 y3 y4;unfold spec_l6Tidy.l1;repeat' first
   |(with_reducible first|exact al _ _ _|exact aZ _ _ _ _ _|exact bZ _ _ _ _ _ _ _|exact LeO.refl _|exact LeO.none _|refine LeO.ite ?_ ?_|refine LeO.bind ?_ (fun _=>?_))
   |refine LeO.ite ?_ ?_
   |refine LeO.bind ?_ (fun _=>?_)
  ·intro y0 y1 y2 y3 y4 y5 y6;unfold spec_l6Tidy.l2;repeat' first
   |(with_reducible first|exact al _ _ _|exact aZ _ _ _ _ _|exact bZ _ _ _ _ _ _ _|exact LeO.refl _|exact LeO.none _|refine LeO.ite ?_ ?_|refine LeO.bind ?_ (fun _=>?_))
   |refine LeO.ite ?_ ?_
   |refine LeO.bind ?_ (fun _=>?_)
theorem spec_l6Tidy.mono:∀a0 k,LeO (spec_l6Tidy.f k a0) (spec_l6Tidy.f (k+1) a0):=by
 intro a0 k;obtain⟨al,aZ,bZ⟩:=spec_l6Tidy.mono_l k;unfold spec_l6Tidy.f
 repeat' first
   |(with_reducible first|exact al _ _ _|exact aZ _ _ _ _ _|exact bZ _ _ _ _ _ _ _|exact LeO.refl _|exact LeO.none _|refine LeO.ite ?_ ?_|refine LeO.bind ?_ (fun _=>?_))
   |refine LeO.ite ?_ ?_
   |refine LeO.bind ?_ (fun _=>?_)
set_option maxHeartbeats 8000000 in
set_option maxRecDepth 100000 in
theorem spec_l6Tidy.calls (k:Nat) (A0:Option Addr) (c0:Nat) (l0:List Int) (r:List Int) (w:World) (bd:Kd.C (Kd.int .i64) w A0 l0.length l0) (bf:l0.length≤c0) (h:spec_l6Tidy.f k l0=some r):
  Calls Try.prog 147 #[.slice A0 l0.length c0] w fun e w'=>∃bg:Value,e= .returned (bg)∧Kd.R (Kd.int .i64) 3 w' w.heap.size (fun _=>True) bg r∧Below w.heap.size w w':=by
 have a6:=Asd.mk bd;have da:=Asd.mk bf;clear bd bf;have HB:=Asd.mk (Below.refl w.heap.size w);have H:(spec_l6Tidy.l0 k l0 (([]:List Int)) 0)=some r:=h;clear h;obtain⟨cy,aD⟩:∃y_:List Int,y_=(([]:List Int)):=⟨_,rfl⟩;replace H:(spec_l6Tidy.l0 k l0 cy 0)=some r:=by first|(rw[aD];with_reducible exact H)|(have ae:=(Option.bind_some _ _).symm.trans H;rw[aD];with_reducible exact ae)|(have ae:=(Option.bind_some _ _).symm.trans H;with_reducible exact ae)|with_reducible exact H|(rw[aD];exact H)|exact H
 have ay:=Asd.mk aD;clear aD;have H':=Asd.mk H;clear H;go_enter Try.func147,Try.ntmps147;go_wp2_with (first|((with_reducible refine gate_dst (N:=9) rfl ?_);refine Kd.R_lit (Kd.int .i64) _ 3 ?hg (N:=9) ?hd (xs:=([]:List Int)) (inner:=[]) (ok:=fun _=>True) (okp:=fun _=>True) ?hr ?hp (fun _ hk=>hk) trivial (Below.refl _ _) (Nat.le_refl _) (by simp) ?_;(case hd=>rfl);(case hg=>rfl);(case hr=>first|(go_simp;done)|(go_simp;rfl));(case hp=>exact(Reps.none _ _));intro v236 w2 an hb au ab;clear au ab;(first|rw[←ay.out]at an|(simp only[Int.reduceToNat]at an;rw[←ay.out]at an));have br:=Asd.mk (Kd.R_lower an (below_size (wZ HB)));replace HB:=bW HB hb;clear hb an));repeat(go_quiet (first|((with_reducible refine gate_dst (N:=9) rfl ?_);refine Kd.R_lit (Kd.int .i64) _ 3 ?hg (N:=9) ?hd (xs:=([]:List Int)) (inner:=[]) (ok:=fun _=>True) (okp:=fun _=>True) ?hr ?hp (fun _ hk=>hk) trivial (Below.refl _ _) (Nat.le_refl _) (by simp) ?_;(case hd=>rfl);(case hg=>rfl);(case hr=>first|(go_simp;done)|(go_simp;rfl));(case hp=>exact(Reps.none _ _));intro v236 w2 an hb au ab;clear au ab;(first|rw[←ay.out]at an|(simp only[Int.reduceToNat]at an;rw[←ay.out]at an));have br:=Asd.mk (Kd.R_lower an (below_size (wZ HB)));replace HB:=bW HB hb;clear hb an));try go_wp2_with (first|((with_reducible refine gate_dst (N:=9) rfl ?_);refine Kd.R_lit (Kd.int .i64) _ 3 ?hg (N:=9) ?hd (xs:=([]:List Int)) (inner:=[]) (ok:=fun _=>True) (okp:=fun _=>True) ?hr ?hp (fun _ hk=>hk) trivial (Below.refl _ _) (Nat.le_refl _) (by simp) ?_;(case hd=>rfl);(case hg=>rfl);(case hr=>first|(go_simp;done)|(go_simp;rfl));(case hp=>exact(Reps.none _ _));intro v236 w2 an hb au ab;clear au ab;(first|rw[←ay.out]at an|(simp only[Int.reduceToNat]at an;rw[←ay.out]at an));have br:=Asd.mk (Kd.R_lower an (below_size (wZ HB)));replace HB:=bW HB hb;clear hb an)))
 go_loopg [3,4] k (fun kq v3 v4 w'=>∃(ah:List Int) (ai:Int),v4= .int .i64 ai∧Asd (spec_l6Tidy.l0 kq l0 ah ai=some r)∧Asd (kq≤k)∧Asd (Kd.R (Kd.int .i64) 3 w' w.heap.size (fun _=>True) v3 ah)∧Asd (Below w.heap.size w w'))
 case atStart=>exact⟨(cy),(0),(by first|rfl|(simp;done)|(simp[*];done)),H',⟨Nat.le_refl _⟩,⟨by(repeat apply Kd.RS);exact br.out⟩,⟨wZ HB⟩⟩
 case round=>
  clear H';obtain⟨ah,ai,rfl,HA,af,HO_3,HB⟩:=hrel;cases gk with
  |zero=>exact absurd HA.out (by simp[spec_l6Tidy.l0])
  |succ k1=>
   have H:=HA.out;clear HA;simp only[spec_l6Tidy.l0]at H;rcases iT H with⟨c4,H⟩|⟨c4,H⟩
   ·have db:=decide_eq_true c4;clear c4;obtain⟨cz,aE⟩:∃y_:List Int,y_=(([]:List Int)):=⟨_,rfl⟩;replace H:(spec_l6Tidy.l1 k1 l0 ah ai cz 0)=some r:=by first|(rw[aE];with_reducible exact H)|(have ae:=(Option.bind_some _ _).symm.trans H;rw[aE];with_reducible exact ae)|(have ae:=(Option.bind_some _ _).symm.trans H;with_reducible exact ae)|with_reducible exact H|(rw[aE];exact H)|exact H
    have az:=Asd.mk aE;clear aE;have H':=Asd.mk H;clear H;go_wp2_with (first|((with_reducible refine gate_dst (N:=16) rfl ?_);refine Kd.R_lit (Kd.int .i64) _ 3 ?hg (N:=16) ?hd (xs:=([]:List Int)) (inner:=[]) (ok:=fun _=>True) (okp:=fun _=>True) ?hr ?hp (fun _ hk=>hk) trivial (Below.refl _ _) (Nat.le_refl _) (by simp) ?_;(case hd=>rfl);(case hg=>rfl);(case hr=>first|(go_simp;done)|(go_simp;rfl));(case hp=>exact(Reps.none _ _));intro cA w5 aj hb au ab;clear au ab;(first|rw[←az.out]at aj|(simp only[Int.reduceToNat]at aj;rw[←az.out]at aj));have bs:=Asd.mk (Kd.R_lower (Kd.R_new' aj (Kd.R_lt (rS HO_3))) (below_size (wZ HB)));replace HO_3:=Asd.mk (Kd.R_elder' (rS HO_3) (Kd.R_base aj) hb);replace HB:=bW HB hb;clear hb aj));repeat(go_quiet (first|((with_reducible refine gate_dst (N:=16) rfl ?_);refine Kd.R_lit (Kd.int .i64) _ 3 ?hg (N:=16) ?hd (xs:=([]:List Int)) (inner:=[]) (ok:=fun _=>True) (okp:=fun _=>True) ?hr ?hp (fun _ hk=>hk) trivial (Below.refl _ _) (Nat.le_refl _) (by simp) ?_;(case hd=>rfl);(case hg=>rfl);(case hr=>first|(go_simp;done)|(go_simp;rfl));(case hp=>exact(Reps.none _ _));intro cA w5 aj hb au ab;clear au ab;(first|rw[←az.out]at aj|(simp only[Int.reduceToNat]at aj;rw[←az.out]at aj));have bs:=Asd.mk (Kd.R_lower (Kd.R_new' aj (Kd.R_lt (rS HO_3))) (below_size (wZ HB)));replace HO_3:=Asd.mk (Kd.R_elder' (rS HO_3) (Kd.R_base aj) hb);replace HB:=bW HB hb;clear hb aj));try go_wp2_with (first|((with_reducible refine gate_dst (N:=16) rfl ?_);refine Kd.R_lit (Kd.int .i64) _ 3 ?hg (N:=16) ?hd (xs:=([]:List Int)) (inner:=[]) (ok:=fun _=>True) (okp:=fun _=>True) ?hr ?hp (fun _ hk=>hk) trivial (Below.refl _ _) (Nat.le_refl _) (by simp) ?_;(case hd=>rfl);(case hg=>rfl);(case hr=>first|(go_simp;done)|(go_simp;rfl));(case hp=>exact(Reps.none _ _));intro cA w5 aj hb au ab;clear au ab;(first|rw[←az.out]at aj|(simp only[Int.reduceToNat]at aj;rw[←az.out]at aj));have bs:=Asd.mk (Kd.R_lower (Kd.R_new' aj (Kd.R_lt (rS HO_3))) (below_size (wZ HB)));replace HO_3:=Asd.mk (Kd.R_elder' (rS HO_3) (Kd.R_base aj) hb);replace HB:=bW HB hb;clear hb aj)))
    go_loopg [5,6] k1 (fun kq v5 v6 w'=>∃(I:List Int) (J:Int),v6= .int .i64 J∧Asd (spec_l6Tidy.l1 kq l0 ah ai I J=some r)∧Asd (kq≤k1)∧Asd (Kd.R (Kd.int .i64) 3 w' w.heap.size (fun k_=>some k_≠(v5:Value).ownBlock) u3 ah)∧Asd (Kd.R (Kd.int .i64) 3 w' w.heap.size (fun k_=>some k_≠(u3:Value).ownBlock) v5 I)∧Asd (Below w.heap.size w w'))
    case atStart=>exact⟨(cz),(0),(by first|rfl|(simp;done)|(simp[*];done)),H',⟨Nat.le_refl _⟩,⟨by(repeat apply Kd.RS);exact Kd.R_mono HO_3.out (fun _ hk=>hk.2)⟩,⟨by(repeat apply Kd.RS);exact Kd.R_mono bs.out (fun _ hk=>hk.2)⟩,⟨wZ HB⟩⟩
    case round=>
     clear H';obtain⟨I,J,rfl,HA,ao,HO_3,HO_5,HB⟩:=hrel;cases gk with
     |zero=>exact absurd HA.out (by simp[spec_l6Tidy.l1])
     |succ k2=>
      have H:=HA.out;clear HA;simp only[spec_l6Tidy.l1]at H;rcases iT H with⟨c7,H⟩|⟨c7,H⟩
      ·have dc:=decide_eq_true c7;clear c7;obtain⟨c8,H⟩:=iN H;have cB:=decide_eq_true c8;clear c8;obtain⟨c9,H⟩:=iN H;have eg:=decide_eq_true c9;clear c9;obtain⟨c10,H⟩:=iN H;have aq:=decide_eq_true c10;clear c10;have H':=Asd.mk H;clear H;have b0:0≤(J:Int):=odt;have b1:J<(l0.length:Int):=odt;obtain⟨bu,dd,aG⟩:=Kd.at_int a6.out J b0 b1;cases dd;replace aG:=(HB.out.cell (World.block_lt_of_cell? w _ aG)).trans aG;replace b0:=eq_true b0;replace b1:=eq_true b1;have b4:0≤(ai:Int):=odt;have b5:ai<(l0.length:Int):=odt;obtain⟨cI,de,aH⟩:=Kd.at_int a6.out ai b4 b5;obtain rfl:bu=cI:=(by injection de);replace aH:=(HB.out.cell (World.block_lt_of_cell? w _ aH)).trans aH;replace b4:=eq_true b4;replace b5:=eq_true b5;go_wp2;repeat(go_quiet (fail);try go_wp2)
       go_loopg [7,8] k2 (fun kq v7 v8 w'=>∃(bh:Bool) (aw:Int),v7= .bool bh∧v8= .int .i64 aw∧Asd (spec_l6Tidy.l2 kq l0 ah ai I J bh aw=some r)∧Asd (kq≤k2)∧Asd (Kd.R (Kd.int .i64) 3 w' w.heap.size (fun k_=>some k_≠(u5:Value).ownBlock) u3 ah)∧Asd (Kd.R (Kd.int .i64) 3 w' w.heap.size (fun k_=>some k_≠(u3:Value).ownBlock) u5 I)∧Asd (Below w.heap.size w w'))
       case atStart=>exact⟨(decide ((rd l0 J)≥(rd l0 ai))),(0),(by first|rfl|(simp;done)|(simp[*];done)),(by first|rfl|(simp;done)|(simp[*];done)),H',⟨Nat.le_refl _⟩,⟨by(repeat apply Kd.RS);exact HO_3.out⟩,⟨by(repeat apply Kd.RS);exact HO_5.out⟩,⟨wZ HB⟩⟩
       case round=>
        clear H';obtain⟨bh,aw,rfl,rfl,HA,bj,HO_3,HO_5,HB⟩:=hrel;cases gk with
        |zero=>exact absurd HA.out (by simp[spec_l6Tidy.l2])
        |succ k3=>
         have H:=HA.out;clear HA;simp only[spec_l6Tidy.l2]at H;rcases iT H with⟨bk,H⟩|⟨bk,H⟩
         ·have b6:=decide_eq_true bk;clear bk;by_cases aI:bh=true
          ·subst aI;rw[if_pos rfl]at H;have H':=Asd.mk H;clear H;obtain⟨eh,ei,df⟩:=Kd.R_slice HO_5.out;subst df;go_wp2;repeat(go_quiet (fail);try go_wp2)
           go_roundg k3
           case measure=>have:=af.out;have:=ao.out;have:=bj.out;omega
           case rel=>exact⟨(true),(wrap64 (aw+1)),(by first|rfl|(simp;done)|(simp[*];done)),(by first|rfl|(simp;done)|(simp[*];done)),H',⟨by have:=af.out;have:=ao.out;have:=bj.out;omega⟩,⟨by(repeat apply Kd.RS);exact HO_3.out⟩,⟨by(repeat apply Kd.RS);exact HO_5.out⟩,⟨wZ HB⟩⟩
          ·replace aI:=Bool.eq_false_iff.mpr aI;subst aI;rw[if_neg (show¬(false=true) by decide)]at H;obtain⟨dg,H⟩:=iN H;have dR:=decide_eq_true dg;clear dg;obtain⟨dh,H⟩:=iN H;have dS:=decide_eq_true dh;clear dh;obtain⟨bw,H⟩:=iN H;have dT:=decide_eq_true bw;clear bw;have H':=Asd.mk H;clear H;obtain⟨ej,ek,di⟩:=Kd.R_slice HO_5.out;subst di;have b7:0≤(aw:Int):=odt;have b8:aw<(I.length:Int):=odt;obtain⟨dU,dj,dk⟩:=Kd.at_int (Kd.R_reads' HO_5.out).2.2 aw b7 b8;cases dj;replace b7:=eq_true b7;replace b8:=eq_true b8;have b9:0≤(J:Int):=odt;have ca:J<(l0.length:Int):=odt;obtain⟨cJ,dm,aJ⟩:=Kd.at_int a6.out J b9 ca;obtain rfl:bu=cJ:=(by injection dm);replace aJ:=(HB.out.cell (World.block_lt_of_cell? w _ aJ)).trans aJ;replace b9:=eq_true b9;replace ca:=eq_true ca;go_wp2;repeat(go_quiet (fail);try go_wp2)
           go_roundg k3
           case measure=>have:=af.out;have:=ao.out;have:=bj.out;omega
           case rel=>exact⟨(((rd I aw)==(rd l0 J))),(wrap64 (aw+1)),(by first|rfl|(simp;done)|(simp[*];done)),(by first|rfl|(simp;done)|(simp[*];done)),H',⟨by have:=af.out;have:=ao.out;have:=bj.out;omega⟩,⟨by(repeat apply Kd.RS);exact HO_3.out⟩,⟨by(repeat apply Kd.RS);exact HO_5.out⟩,⟨wZ HB⟩⟩
         ·have b6:=decide_eq_false bk;clear bk;by_cases cx:bh=true
          ·subst cx;rw[if_pos rfl]at H;have H':=Asd.mk H;clear H;obtain⟨el,en,dn⟩:=Kd.R_slice HO_5.out;subst dn;go_wp2;repeat(go_quiet (fail);try go_wp2)
           go_roundg k3
           case measure=>have:=af.out;have:=ao.out;have:=bj.out;omega
           case rel=>exact⟨(I),(wrap64 (J+1)),(by first|rfl|(simp;done)|(simp[*];done)),H',⟨by have:=af.out;have:=ao.out;have:=bj.out;omega⟩,⟨by(repeat apply Kd.RS);exact HO_3.out⟩,⟨by(repeat apply Kd.RS);exact HO_5.out⟩,⟨wZ HB⟩⟩
          ·replace cx:=Bool.eq_false_iff.mpr cx;subst cx;rw[if_neg (show¬(false=true) by decide)]at H;obtain⟨dp,H⟩:=iN H;have dV:=decide_eq_true dp;clear dp;obtain⟨dq,H⟩:=iN H;have dW:=decide_eq_true dq;clear dq;obtain⟨dr,H⟩:=iN H;have bx:=Asd.mk dr;clear dr;obtain⟨cC,aK⟩:∃y_:List Int,y_=(I++ [rd l0 J]):=⟨_,rfl⟩;replace H:(spec_l6Tidy.l1 k3 l0 ah ai cC (wrap64 (J+1)))=some r:=by first|(rw[aK];with_reducible exact H)|(have ae:=(Option.bind_some _ _).symm.trans H;rw[aK];with_reducible exact ae)|(have ae:=(Option.bind_some _ _).symm.trans H;with_reducible exact ae)|with_reducible exact H|(rw[aK];exact H)|exact H
           have bz:=Asd.mk aK;clear aK;have H':=Asd.mk H;clear H;obtain⟨cb,cc,dt⟩:=Kd.R_slice HO_5.out;subst dt;have cd:0≤(J:Int):=odt;have cf:J<(l0.length:Int):=odt;obtain⟨cK,du,aM⟩:=Kd.at_int a6.out J cd cf;obtain rfl:bu=cK:=(by injection du);replace aM:=(HB.out.cell (World.block_lt_of_cell? w _ aM)).trans aM;replace cd:=eq_true cd;replace cf:=eq_true cf;go_wp2_with (first|((with_reducible refine gate_builtin (b:=.append) (xs:= #[.tmp 52,.tmp 57]) rfl ?_);at_builtin;refine Kd.R_append (Kd.int .i64) (w0:=w) w.heap.size rfl (.tmp 52) (.tmp 57) 55 3 (.int .i64 0) 8 rfl Try.underlying55 info3 rfl (by decide) (by omega) (.slice cb I.length cc) I (rd l0 J) [.int .i64 (rd l0 J)] (fun k_=>some k_≠(u3:Value).ownBlock) (fun _=>False) rfl rfl ?aP (fun _ hk=>hk.elim) ?aF ?aO ?aB ?aS ?aL ?_;(case aP=>exact rfl);(case aB=>exact(wZ HB));(case aF=>exact(fun k_ hk=>Kd.fresh' (Kd.R_lt (rS HO_3)) k_ hk));(case aO=>exact(rS HO_5));(case aS=>exact(below_size (wZ HB)));(case aL=>have:=bx.out;omega);intro cD dv ho hb hg ak;rw[←bz.out]at ho;replace HO_3:=Asd.mk (Kd.R_after (ok:=(fun _=>True)) (by(repeat apply Kd.RS);exact Kd.R_mono HO_3.out (fun _ hk=>⟨trivial,hk⟩)) hg ak);replace HB:=Asd.mk (hb);have bA:=Asd.mk (ho);clear HO_5;clear ho hb hg ak));repeat(go_quiet (first|((with_reducible refine gate_builtin (b:=.append) (xs:= #[.tmp 52,.tmp 57]) rfl ?_);at_builtin;refine Kd.R_append (Kd.int .i64) (w0:=w) w.heap.size rfl (.tmp 52) (.tmp 57) 55 3 (.int .i64 0) 8 rfl Try.underlying55 info3 rfl (by decide) (by omega) (.slice cb I.length cc) I (rd l0 J) [.int .i64 (rd l0 J)] (fun k_=>some k_≠(u3:Value).ownBlock) (fun _=>False) rfl rfl ?aP (fun _ hk=>hk.elim) ?aF ?aO ?aB ?aS ?aL ?_;(case aP=>exact rfl);(case aB=>exact(wZ HB));(case aF=>exact(fun k_ hk=>Kd.fresh' (Kd.R_lt (rS HO_3)) k_ hk));(case aO=>exact(rS HO_5));(case aS=>exact(below_size (wZ HB)));(case aL=>have:=bx.out;omega);intro cD dv ho hb hg ak;rw[←bz.out]at ho;replace HO_3:=Asd.mk (Kd.R_after (ok:=(fun _=>True)) (by(repeat apply Kd.RS);exact Kd.R_mono HO_3.out (fun _ hk=>⟨trivial,hk⟩)) hg ak);replace HB:=Asd.mk (hb);have bA:=Asd.mk (ho);clear HO_5;clear ho hb hg ak));try go_wp2_with (first|((with_reducible refine gate_builtin (b:=.append) (xs:= #[.tmp 52,.tmp 57]) rfl ?_);at_builtin;refine Kd.R_append (Kd.int .i64) (w0:=w) w.heap.size rfl (.tmp 52) (.tmp 57) 55 3 (.int .i64 0) 8 rfl Try.underlying55 info3 rfl (by decide) (by omega) (.slice cb I.length cc) I (rd l0 J) [.int .i64 (rd l0 J)] (fun k_=>some k_≠(u3:Value).ownBlock) (fun _=>False) rfl rfl ?aP (fun _ hk=>hk.elim) ?aF ?aO ?aB ?aS ?aL ?_;(case aP=>exact rfl);(case aB=>exact(wZ HB));(case aF=>exact(fun k_ hk=>Kd.fresh' (Kd.R_lt (rS HO_3)) k_ hk));(case aO=>exact(rS HO_5));(case aS=>exact(below_size (wZ HB)));(case aL=>have:=bx.out;omega);intro cD dv ho hb hg ak;rw[←bz.out]at ho;replace HO_3:=Asd.mk (Kd.R_after (ok:=(fun _=>True)) (by(repeat apply Kd.RS);exact Kd.R_mono HO_3.out (fun _ hk=>⟨trivial,hk⟩)) hg ak);replace HB:=Asd.mk (hb);have bA:=Asd.mk (ho);clear HO_5;clear ho hb hg ak)))
           go_roundg k3
           case measure=>have:=af.out;have:=ao.out;have:=bj.out;omega
           case rel=>exact⟨(cC),(wrap64 (J+1)),(by first|rfl|(simp;done)|(simp[*];done)),H',⟨by have:=af.out;have:=ao.out;have:=bj.out;omega⟩,⟨by(repeat apply Kd.RS);exact Kd.R_mono HO_3.out (fun _ hk=>hk.2)⟩,⟨by(repeat apply Kd.RS);exact bA.out⟩,⟨wZ HB⟩⟩
      ·have dc:=decide_eq_false c7;clear c7;obtain⟨dw,H⟩:=iN H;have bB:=Asd.mk dw;clear dw;obtain⟨cE,aN⟩:∃y_:List Int,y_=(ah++ [(I.length:Int)]):=⟨_,rfl⟩;replace H:(spec_l6Tidy.l0 k2 l0 cE (wrap64 (ai+1)))=some r:=by first|(rw[aN];with_reducible exact H)|(have ae:=(Option.bind_some _ _).symm.trans H;rw[aN];with_reducible exact ae)|(have ae:=(Option.bind_some _ _).symm.trans H;with_reducible exact ae)|with_reducible exact H|(rw[aN];exact H)|exact H
       have bD:=Asd.mk aN;clear aN;have H':=Asd.mk H;clear H;obtain⟨cg,ch,dx⟩:=Kd.R_slice HO_5.out;subst dx;go_wp2_with (first|((with_reducible refine gate_builtin (b:=.append) (xs:= #[.tmp 59,.tmp 62]) rfl ?_);at_builtin;refine Kd.R_append (Kd.int .i64) (w0:=w) w.heap.size rfl (.tmp 59) (.tmp 62) 55 3 (.int .i64 0) 8 rfl Try.underlying55 info3 rfl (by decide) (by omega) u3 ah (I.length:Int) [.int .i64 (I.length:Int)] (fun k_=>some k_≠(.slice cg I.length ch:Value).ownBlock) (fun _=>False) rfl rfl ?aP (fun _ hk=>hk.elim) ?aF ?aO ?aB ?aS ?aL ?_;(case aP=>exact rfl);(case aB=>exact(wZ HB));(case aF=>exact(fun k_ hk=>Kd.fresh' (Kd.R_lt (rS HO_5)) k_ hk));(case aO=>exact(rS HO_3));(case aS=>exact(below_size (wZ HB)));(case aL=>have:=bB.out;omega);intro cF dy ho hb hg ak;rw[←bD.out]at ho;replace HO_5:=Asd.mk (Kd.R_after (ok:=(fun _=>True)) (by(repeat apply Kd.RS);exact Kd.R_mono HO_5.out (fun _ hk=>⟨trivial,hk⟩)) hg ak);replace HB:=Asd.mk (hb);have bF:=Asd.mk (ho);clear HO_3;clear ho hb hg ak));repeat(go_quiet (first|((with_reducible refine gate_builtin (b:=.append) (xs:= #[.tmp 59,.tmp 62]) rfl ?_);at_builtin;refine Kd.R_append (Kd.int .i64) (w0:=w) w.heap.size rfl (.tmp 59) (.tmp 62) 55 3 (.int .i64 0) 8 rfl Try.underlying55 info3 rfl (by decide) (by omega) u3 ah (I.length:Int) [.int .i64 (I.length:Int)] (fun k_=>some k_≠(.slice cg I.length ch:Value).ownBlock) (fun _=>False) rfl rfl ?aP (fun _ hk=>hk.elim) ?aF ?aO ?aB ?aS ?aL ?_;(case aP=>exact rfl);(case aB=>exact(wZ HB));(case aF=>exact(fun k_ hk=>Kd.fresh' (Kd.R_lt (rS HO_5)) k_ hk));(case aO=>exact(rS HO_3));(case aS=>exact(below_size (wZ HB)));(case aL=>have:=bB.out;omega);intro cF dy ho hb hg ak;rw[←bD.out]at ho;replace HO_5:=Asd.mk (Kd.R_after (ok:=(fun _=>True)) (by(repeat apply Kd.RS);exact Kd.R_mono HO_5.out (fun _ hk=>⟨trivial,hk⟩)) hg ak);replace HB:=Asd.mk (hb);have bF:=Asd.mk (ho);clear HO_3;clear ho hb hg ak));try go_wp2_with (first|((with_reducible refine gate_builtin (b:=.append) (xs:= #[.tmp 59,.tmp 62]) rfl ?_);at_builtin;refine Kd.R_append (Kd.int .i64) (w0:=w) w.heap.size rfl (.tmp 59) (.tmp 62) 55 3 (.int .i64 0) 8 rfl Try.underlying55 info3 rfl (by decide) (by omega) u3 ah (I.length:Int) [.int .i64 (I.length:Int)] (fun k_=>some k_≠(.slice cg I.length ch:Value).ownBlock) (fun _=>False) rfl rfl ?aP (fun _ hk=>hk.elim) ?aF ?aO ?aB ?aS ?aL ?_;(case aP=>exact rfl);(case aB=>exact(wZ HB));(case aF=>exact(fun k_ hk=>Kd.fresh' (Kd.R_lt (rS HO_5)) k_ hk));(case aO=>exact(rS HO_3));(case aS=>exact(below_size (wZ HB)));(case aL=>have:=bB.out;omega);intro cF dy ho hb hg ak;rw[←bD.out]at ho;replace HO_5:=Asd.mk (Kd.R_after (ok:=(fun _=>True)) (by(repeat apply Kd.RS);exact Kd.R_mono HO_5.out (fun _ hk=>⟨trivial,hk⟩)) hg ak);replace HB:=Asd.mk (hb);have bF:=Asd.mk (ho);clear HO_3;clear ho hb hg ak)))
       go_roundg k2
       case measure=>have:=af.out;have:=ao.out;omega
       case rel=>exact⟨(cE),(wrap64 (ai+1)),(by first|rfl|(simp;done)|(simp[*];done)),H',⟨by have:=af.out;have:=ao.out;omega⟩,⟨by(repeat apply Kd.RS);exact Kd.R_mono bF.out (fun _ hk=>trivial)⟩,⟨wZ HB⟩⟩
   ·have db:=decide_eq_false c4;clear c4;obtain rfl:=Option.some.inj H;go_wp2;repeat(go_quiet (fail);try go_wp2)
    go_ret;exact⟨_,by first|rfl|(simp[*,errW_none,errW_some]<;>rfl),by(repeat apply Kd.RS);exact HO_3.out,wZ HB⟩

/-! ### spec_l6Rise: function 133 -/
def spec_l6Rise.l0:Nat→List Int→Int→List Int→Int→Option (List Int)
 |0,_,_,_,_=>none
 |k+1,x0,x1,x5,x6=>if x6<(x0.length:Int)then(if 0≤x6 then((spec_l1Bit.f x1 x6).bind fun a7=>(if x5.length<17592186044416 then(spec_l6Rise.l0 k x0 x1 (x5++ [wrap64 ((rd x0 x6)+(wrap64 ((wrap64 (1 - a7))*10)))]) (wrap64 (x6+1)))else(none)))else(none))else((spec_l6Tidy.f k x5).bind fun cj=>(some cj))
def spec_l6Rise.f (k:Nat) (l0:List Int) (a1:Int):Option (List Int):=spec_l6Rise.l0 k l0 a1 (([]:List Int)) 0
theorem spec_l6Rise.mono_l:∀k,(∀y0 y1 y2 y3,LeO (spec_l6Rise.l0 k y0 y1 y2 y3) (spec_l6Rise.l0 (k+1) y0 y1 y2 y3))
 |0=>fun _ _ _ _ r h=>by simp[spec_l6Rise.l0]at h
 |k+1=>by
  have al:=spec_l6Rise.mono_l k
  ·intro y0 y1 y2 y3;unfold spec_l6Rise.l0;repeat' first
   |(with_reducible first|exact al _ _ _ _|exact spec_l6Tidy.mono _ _|exact LeO.refl _|exact LeO.none _|refine LeO.ite ?_ ?_|refine LeO.bind ?_ (fun _=>?_))
   |refine LeO.ite ?_ ?_
   |refine LeO.bind ?_ (fun _=>?_)
theorem spec_l6Rise.mono:∀a0 a1 k,LeO (spec_l6Rise.f k a0 a1) (spec_l6Rise.f (k+1) a0 a1):=by
 intro a0 a1 k;have al:=spec_l6Rise.mono_l k;unfold spec_l6Rise.f
 repeat' first
   |(with_reducible first|exact al _ _ _ _|exact spec_l6Tidy.mono _ _|exact LeO.refl _|exact LeO.none _|refine LeO.ite ?_ ?_|refine LeO.bind ?_ (fun _=>?_))
   |refine LeO.ite ?_ ?_
   |refine LeO.bind ?_ (fun _=>?_)
def spec_l6Rise.T5:Bool×List (List Nat×List Nat):=(true,[([],[]),([],[]),([],[]),([1,2],[1,2]),([3],[3]),([],[]),([],[]),([5,6],[5,6]),([7],[7]),([8],[8]),([4,9],[4,9]),([10],[10]),([0,11,7],[0,11]),([12,12,0,1,2,3,4,5,6,7,8,9,10,11,12],[0,12])])
def spec_l6Rise.B5:List Nat:=[0,0,0,6,14,0,0,96,224,480,1022,2046,4095,8191]
theorem spec_l6Rise.tab5:rtab .any (opsOf Try.f133 5)=spec_l6Rise.T5:=by kernel_rfl
theorem spec_l6Rise.bits5:waitsOk spec_l6Rise.T5.2 spec_l6Rise.B5=true:=by kernel_rfl
set_option maxHeartbeats 8000000 in
set_option maxRecDepth 100000 in
theorem spec_l6Rise.calls (k:Nat) (A0:Option Addr) (c0:Nat) (l0:List Int) (a1:Int) (r:List Int) (w:World) (bd:Kd.C (Kd.int .i64) w A0 l0.length l0) (bf:l0.length≤c0) (h:spec_l6Rise.f k l0 a1=some r):
  Calls Try.prog 133 #[.slice A0 l0.length c0,.int .i64 a1] w fun e w'=>∃bg:Value,e= .returned (bg)∧Kd.R (Kd.int .i64) 3 w' w.heap.size (fun _=>True) bg r∧Below w.heap.size w w':=by
 have a6:=Asd.mk bd;have da:=Asd.mk bf;clear bd bf;have HB:=Asd.mk (Below.refl w.heap.size w);have H:(spec_l6Rise.l0 k l0 a1 (([]:List Int)) 0)=some r:=h;clear h;obtain⟨cG,aQ⟩:∃y_:List Int,y_=(([]:List Int)):=⟨_,rfl⟩;replace H:(spec_l6Rise.l0 k l0 a1 cG 0)=some r:=by first|(rw[aQ];with_reducible exact H)|(have ae:=(Option.bind_some _ _).symm.trans H;rw[aQ];with_reducible exact ae)|(have ae:=(Option.bind_some _ _).symm.trans H;with_reducible exact ae)|with_reducible exact H|(rw[aQ];exact H)|exact H
 have ck:=Asd.mk aQ;clear aQ;have H':=Asd.mk H;clear H;go_enter Try.func133,Try.ntmps133;go_wp2_with (first|((with_reducible refine gate_dst (N:=7) rfl ?_);refine Kd.R_lit (Kd.int .i64) _ 3 ?hg (N:=7) ?hd (xs:=([]:List Int)) (inner:=[]) (ok:=fun _=>True) (okp:=fun _=>True) ?hr ?hp (fun _ hk=>hk) trivial (Below.refl _ _) (Nat.le_refl _) (by simp) ?_;(case hd=>rfl);(case hg=>rfl);(case hr=>first|(go_simp;done)|(go_simp;rfl));(case hp=>exact(Reps.none _ _));intro eo w3 cl hb au ab;clear au ab;(first|rw[←ck.out]at cl|(simp only[Int.reduceToNat]at cl;rw[←ck.out]at cl));have cL:=Asd.mk (Kd.R_lower cl (below_size (wZ HB)));replace HB:=bW HB hb;clear hb cl));go_loopg [5,6] k (fun kq v5 v6 w'=>∃(ad:List Int) (o:Int),v6= .int .i64 o∧Asd (spec_l6Rise.l0 kq l0 a1 ad o=some r)∧Asd (kq≤k)∧Asd (Kd.R (Kd.int .i64) 3 w' w.heap.size (fun _=>True) v5 ad)∧Asd (Below w.heap.size w w'))
 case atStart=>exact⟨(cG),(0),(by first|rfl|(simp;done)|(simp[*];done)),H',⟨Nat.le_refl _⟩,⟨by(repeat apply Kd.RS);exact cL.out⟩,⟨wZ HB⟩⟩
 case round=>
  clear H';obtain⟨ad,o,rfl,HA,af,HO_5,HB⟩:=hrel;cases gk with
  |zero=>exact absurd HA.out (by simp[spec_l6Rise.l0])
  |succ k1=>
   have H:=HA.out;clear HA;simp only[spec_l6Rise.l0]at H;rcases iT H with⟨c5,H⟩|⟨c5,H⟩
   ·have cm:=decide_eq_true c5;clear c5;obtain⟨c6,H⟩:=iN H;have dz:=decide_eq_true c6;clear c6;obtain⟨a7,A7,H⟩:=bE H;try dsimp only at H
    obtain⟨c8,H⟩:=iN H;have dA:=Asd.mk c8;clear c8;obtain⟨cH,aR⟩:∃y_:List Int,y_=(ad++ [wrap64 ((rd l0 o)+(wrap64 ((wrap64 (1 - a7))*10)))]):=⟨_,rfl⟩;replace H:(spec_l6Rise.l0 k1 l0 a1 cH (wrap64 (o+1)))=some r:=by first|(rw[aR];with_reducible exact H)|(have ae:=(Option.bind_some _ _).symm.trans H;rw[aR];with_reducible exact ae)|(have ae:=(Option.bind_some _ _).symm.trans H;with_reducible exact ae)|with_reducible exact H|(rw[aR];exact H)|exact H
    have cM:=Asd.mk aR;clear aR;have H':=Asd.mk H;clear H;try go_wp2
    replace HO_5:=Asd.mk (Kd.R_drew HO_5.out);replace HB:=Asd.mk (bwD HB.out);have cn:0≤(o:Int):=odt;have cp:o<(l0.length:Int):=odt;obtain⟨cN,dB,ar⟩:=Kd.at_int a6.out o cn cp;have aa:=ar;cases dB;replace ar:=(HB.out.cell (World.block_lt_of_cell? w _ ar)).trans ar;replace cn:=eq_true cn;replace cp:=eq_true cp;refine start_ (n:=14) (S:=fun w'=>w'.cell? (cN.add (o).toNat)=some (.int .i64 (rd l0 o))) (ds:=[]) #[false,false,false,false,false,false,false,false,false,false,false,false,false,false] (by kernel_rfl) rfl rfl (((HB.out.cell (World.block_lt_of_cell? w _ aa)).trans aa)) (fun hHeld=>?_);refine with_tabW spec_l6Rise.tab5 spec_l6Rise.bits5 (fun av dX=>?_);generalize wr.drew=w9 at HO_5 HB ar hHeld⊢;refine pure_ (i:=0) (N:=some 14) (v:=?_) (a':=?_) #[true,false,false,false,false,false,false,false,false,false,false,false,false,false] rfl rfl (any_of av.out (by kernel_rfl)) (fun _ _ _ h=>h) (Or.inl ⟨by rfl,?_⟩) ?_ ?_;rotate_left
    ·intro w';go_simp;with_reducible rfl
    rotate_left
    ·simp only[Act.put,qA,qB,qC,i64_w,i32_w];rfl
    refine pure_ (i:=1) (N:=some 15) (v:=?_) (a':=?_) #[true,true,false,false,false,false,false,false,false,false,false,false,false,false] rfl rfl (any_of av.out (by kernel_rfl)) (fun _ _ _ h=>h) (Or.inl ⟨by rfl,?_⟩) ?_ ?_;rotate_left
    ·intro w';go_simp;with_reducible rfl
    rotate_left
    ·simp only[Act.put,qA,qB,qC,i64_w,i32_w];rfl
    refine pure_ (i:=2) (N:=some 16) (v:=?_) (a':=?_) #[true,true,true,false,false,false,false,false,false,false,false,false,false,false] rfl rfl (any_of av.out (by kernel_rfl)) (fun _ _ _ h=>h) (Or.inl ⟨by rfl,?_⟩) ?_ ?_;rotate_left
    ·intro w';go_simp;with_reducible rfl
    rotate_left
    ·simp only[Act.put,qA,qB,qC,i64_w,i32_w];rfl
    refine pure_ (i:=3) (N:=some 17) (v:=?_) (a':=?_) #[true,true,true,true,false,false,false,false,false,false,false,false,false,false] rfl rfl (any_of av.out (by kernel_rfl)) (fun _ _ _ h=>h) (Or.inl ⟨by rfl,?_⟩) ?_ ?_;rotate_left
    ·intro w';go_simp;with_reducible rfl
    rotate_left
    ·simp only[Act.put,qA,qB,qC,i64_w,i32_w];rfl
    refine pure_ (i:=5) (N:=some 19) (v:=?_) (a':=?_) #[true,true,true,true,false,true,false,false,false,false,false,false,false,false] rfl rfl (any_of av.out (by kernel_rfl)) (fun _ _ _ h=>h) (Or.inl ⟨by rfl,?_⟩) ?_ ?_;rotate_left
    ·intro w';go_simp;with_reducible rfl
    rotate_left
    ·simp only[Act.put,qA,qB,qC,i64_w,i32_w];rfl
    refine pure_ (i:=6) (N:=some 20) (v:=?_) (a':=?_) #[true,true,true,true,false,true,true,false,false,false,false,false,false,false] rfl rfl (any_of av.out (by kernel_rfl)) (fun _ _ _ h=>h) (Or.inl ⟨by rfl,?_⟩) ?_ ?_;rotate_left
    ·intro w';go_simp;with_reducible rfl
    rotate_left
    ·simp only[Act.put,qA,qB,qC,i64_w,i32_w];rfl
    refine take_ (i:=4) (N:=some 18) (v:=?_) (a':=?_) #[true,true,true,true,true,true,true,false,false,false,false,false,false,false] rfl rfl (take_ofW av.out dX.out (by kernel_rfl)) (fun _ _ _ h=>h) (Or.inl ⟨by rfl,?_⟩) hHeld ?_ ?_;rotate_left
    ·intro w' s0;go_simp;with_reducible rfl
    rotate_left
    ·simp only[Act.put,qA,qB,qC,i64_w,i32_w];rfl
    refine one_ (i:=7) (N:=some 21) #[true,true,true,true,true,true,true,true,false,false,false,false,false,false] rfl rfl (one_of av.out (by kernel_rfl)) (by decide) (fun K hK=>?_);refine goes_ Try.func146 (by kernel_rfl) rfl #[.int .i64 a1,.int .i64 o] (by rfl) rfl rfl (by(try simp only[List.map_toArray,List.map_cons,List.map_nil]);first|done|rfl|(simp only[List.length_drop,List.length_take];rfl)) ?_;with_reducible refine(spec_l1Bit.calls a1 o a7 _ A7.out).mono ?_
    rintro e w' ⟨rfl,⟨nd,rfl⟩⟩;refine⟨_,rfl,?_⟩;refine hK.out _ _ (((HB.out.cell (World.block_lt_of_cell? w _ aa)).trans aa)) (fun hHeld=>?_);clear hK K;refine norm_ (a':=?_) ?_ ?_;rotate_left
    ·show Act.put _ (some 21) _=_
     simp only[Act.put,qA,qB,qC,i64_w,i32_w];rfl
    refine pure_ (i:=8) (N:=some 22) (v:=?_) (a':=?_) #[true,true,true,true,true,true,true,true,true,false,false,false,false,false] rfl rfl (any_of av.out (by kernel_rfl)) (fun _ _ _ h=>h) (Or.inl ⟨by rfl,?_⟩) ?_ ?_;rotate_left
    ·intro w';go_simp;with_reducible rfl
    rotate_left
    ·simp only[Act.put,qA,qB,qC,i64_w,i32_w];rfl
    refine pure_ (i:=9) (N:=some 23) (v:=?_) (a':=?_) #[true,true,true,true,true,true,true,true,true,true,false,false,false,false] rfl rfl (any_of av.out (by kernel_rfl)) (fun _ _ _ h=>h) (Or.inl ⟨by rfl,?_⟩) ?_ ?_;rotate_left
    ·intro w';go_simp;with_reducible rfl
    rotate_left
    ·simp only[Act.put,qA,qB,qC,i64_w,i32_w];rfl
    refine pure_ (i:=10) (N:=some 24) (v:=?_) (a':=?_) #[true,true,true,true,true,true,true,true,true,true,true,false,false,false] rfl rfl (any_of av.out (by kernel_rfl)) (fun _ _ _ h=>h) (Or.inl ⟨by rfl,?_⟩) ?_ ?_;rotate_left
    ·intro w';go_simp;with_reducible rfl
    rotate_left
    ·simp only[Act.put,qA,qB,qC,i64_w,i32_w];rfl
    refine one_ (i:=11) (N:=some 25) #[true,true,true,true,true,true,true,true,true,true,true,true,false,false] rfl rfl (one_of av.out (by kernel_rfl)) (by decide) (fun K hK=>?_);refine value_ (w1:=?_) (v:=?_) (by rfl) rfl ?_ ?_;rotate_left 2
    ·go_simp;constructor
     ·rfl
     ·rfl
    refine hK.out _ _ ((World.cell?_alloc_lt _ _ _ (World.block_lt_of_cell? _ _ (((HB.out.cell (World.block_lt_of_cell? w _ aa)).trans aa)))).trans (((HB.out.cell (World.block_lt_of_cell? w _ aa)).trans aa))) (fun hHeld=>?_);clear hK K;refine norm_ (a':=?_) ?_ ?_;rotate_left
    ·show Act.put _ (some 25) _=_
     simp only[Act.put,qA,qB,qC,i64_w,i32_w];rfl
    refine one_ (i:=12) (N:=some 26) #[true,true,true,true,true,true,true,true,true,true,true,true,true,false] rfl rfl (one_of av.out (by kernel_rfl)) (by decide) (fun K hK=>?_);refine Kd.R_append_step (Kd.int .i64) (w0:=w) w.heap.size (by rfl) (.tmp 14) (.tmp 25) 55 3 (.int .i64 0) 8 rfl Try.underlying55 info3 rfl (by decide) (by omega) u5 ad (wrap64 ((rd l0 o)+(wrap64 ((wrap64 (1 - a7))*10)))) [.int .i64 (wrap64 ((rd l0 o)+(wrap64 ((wrap64 (1 - a7))*10))))] (fun _=>True) (fun _=>False) rfl rfl ?aP (fun _ hk=>hk.elim) ?aF ?aO ?aB ?aS ?aL ?_;(case aP=>exact rfl);(case aB=>exact(wZ HB));(case aF=>exact(fun _ _=>trivial));(case aO=>exact(rS HO_5));(case aS=>exact(below_size (wZ HB)));(case aL=>have:=dA.out;omega);intro ep w10 ho hb hg ak
    rw[←cM.out]at ho;replace HB:=Asd.mk (hb);have cO:=Asd.mk (ho);clear HO_5 ho hb hg ak
    refine hK.out _ _ (((HB.out.cell (World.block_lt_of_cell? w _ aa)).trans aa)) (fun hHeld=>?_);clear hK K;refine norm_ (a':=?_) ?_ ?_;rotate_left
    ·show Act.put _ (some 26) _=_
     simp only[Act.put,qA,qB,qC,i64_w,i32_w];rfl
    refine pure_ (i:=13) (N:=some 5) (v:=?_) (a':=?_) #[true,true,true,true,true,true,true,true,true,true,true,true,true,true] rfl rfl (any_of av.out (by kernel_rfl)) (fun _ _ _ h=>h) (Or.inl ⟨by rfl,?_⟩) ?_ ?_;rotate_left
    ·intro w';go_simp;with_reducible rfl
    rotate_left
    ·simp only[Act.put,qA,qB,qC,i64_w,i32_w];rfl
    refine done_ (done_of av.out (by kernel_rfl)) ?_;try go_wp2
    go_roundg k1
    case measure=>have:=af.out;omega
    case rel=>exact⟨(cH),(wrap64 (o+1)),(by first|rfl|(simp;done)|(simp[*];done)),H',⟨by have:=af.out;omega⟩,⟨by(repeat apply Kd.RS);exact cO.out⟩,⟨wZ HB⟩⟩
   ·have cm:=decide_eq_false c5;clear c5;obtain⟨cj,dY,H⟩:=bE H;try dsimp only at H
    obtain rfl:=Option.some.inj H;obtain⟨dC,dD,dE⟩:=Kd.R_slice HO_5.out;subst dE;go_wp2_with (first|((with_reducible refine gate_callee (f:=147) rfl ?_);refine gsM (some 28) rfl rfl Try.func147 (by kernel_rfl) rfl #[.slice dC ad.length dD] rfl ?_;(with_reducible refine(spec_l6Tidy.calls k1 _ _ ad cj _ ?side1 ?side2 dY.out).mono ?_);(case side1=>exact cZ (Kd.R_reads' HO_5.out).2.2);(case side2=>exact(Kd.R_reads' HO_5.out).2.1);rintro e w13 ⟨er,rfl,bb,hb⟩;refine⟨_,rfl,?_⟩;have cP:=Asd.mk (Kd.R_lower (Kd.R_new' bb (Kd.R_lt (rS HO_5))) (below_size (wZ HB)));replace HO_5:=Asd.mk (Kd.R_elder' (rS HO_5) (Kd.R_base bb) hb);replace HB:=bW HB hb;clear hb;(try clear bb)));go_ret;exact⟨_,by first|rfl|(simp[*,errW_none,errW_some]<;>rfl),by(repeat apply Kd.RS);exact Kd.R_mono cP.out (fun _ hk=>trivial),wZ HB⟩

/-! ### spec_l2Least: function 134 -/
mutual
def spec_l2Least.l0:Nat→List Int→Int→Int→Int→Option (Int)
 |0,_,_,_,_=>none
 |k+1,x0,x1,x5,x6=>if x6<(x0.length:Int)then((spec_l1Bit.f x1 x6).bind fun aC=>(if aC=1 then(if 0≤x6 then(spec_l2Least.l0 k x0 x1 (mn x5 (rd x0 x6)) (wrap64 (x6+1)))else(none))else(spec_l2Least.l0 k x0 x1 x5 (wrap64 (x6+1)))))else(spec_l2Least.l1 k x0 x1 x5 0 0)
def spec_l2Least.l1:Nat→List Int→Int→Int→Int→Int→Option (Int)
 |0,_,_,_,_,_=>none
 |k+1,x0,x1,x5,x7,x8=>if x8<(x0.length:Int)then((spec_l1Bit.f x1 x8).bind fun ax=>(if ax=1 then(if 0≤x8 then(if(rd x0 x8)=x5 then(spec_l2Least.l1 k x0 x1 x5 (wrap64 (x7+(shl .i64 1 x8))) (wrap64 (x8+1)))else(spec_l2Least.l1 k x0 x1 x5 x7 (wrap64 (x8+1))))else(none))else(spec_l2Least.l1 k x0 x1 x5 x7 (wrap64 (x8+1)))))else(some x7)
end
def spec_l2Least.f (k:Nat) (l0:List Int) (a1:Int):Option (Int):=spec_l2Least.l0 k l0 a1 10 0
theorem spec_l2Least.mono_l:∀k,(∀y0 y1 y2 y3,LeO (spec_l2Least.l0 k y0 y1 y2 y3) (spec_l2Least.l0 (k+1) y0 y1 y2 y3))∧(∀y0 y1 y2 y3 y4,LeO (spec_l2Least.l1 k y0 y1 y2 y3 y4) (spec_l2Least.l1 (k+1) y0 y1 y2 y3 y4))
 |0=>⟨fun _ _ _ _ r h=>by simp[spec_l2Least.l0]at h,fun _ _ _ _ _ r h=>by simp[spec_l2Least.l1]at h⟩
 |k+1=>by
  obtain⟨al,aZ⟩:=spec_l2Least.mono_l k;refine⟨?_,?_⟩
  ·intro y0 y1 y2 y3;unfold spec_l2Least.l0;repeat' first
   |(with_reducible first|exact al _ _ _ _|exact aZ _ _ _ _ _|exact LeO.refl _|exact LeO.none _|refine LeO.ite ?_ ?_|refine LeO.bind ?_ (fun _=>?_))
   |refine LeO.ite ?_ ?_
   |refine LeO.bind ?_ (fun _=>?_)
  ·intro y0 y1 y2 y3 y4;unfold spec_l2Least.l1;repeat' first
   |(with_reducible first|exact al _ _ _ _|exact aZ _ _ _ _ _|exact LeO.refl _|exact LeO.none _|refine LeO.ite ?_ ?_|refine LeO.bind ?_ (fun _=>?_))
   |refine LeO.ite ?_ ?_
   |refine LeO.bind ?_ (fun _=>?_)
theorem spec_l2Least.mono:∀a0 a1 k,LeO (spec_l2Least.f k a0 a1) (spec_l2Least.f (k+1) a0 a1):=by
 intro a0 a1 k;obtain⟨al,aZ⟩:=spec_l2Least.mono_l k;unfold spec_l2Least.f
 repeat' first
   |(with_reducible first|exact al _ _ _ _|exact aZ _ _ _ _ _|exact LeO.refl _|exact LeO.none _|refine LeO.ite ?_ ?_|refine LeO.bind ?_ (fun _=>?_))
   |refine LeO.ite ?_ ?_
   |refine LeO.bind ?_ (fun _=>?_)
set_option maxHeartbeats 8000000 in
set_option maxRecDepth 100000 in
theorem spec_l2Least.calls (k:Nat) (A0:Option Addr) (c0:Nat) (l0:List Int) (a1:Int) (r:Int) (w:World) (bd:Kd.C (Kd.int .i64) w A0 l0.length l0) (bf:l0.length≤c0) (h:spec_l2Least.f k l0 a1=some r):
  Calls Try.prog 134 #[.slice A0 l0.length c0,.int .i64 a1] w fun e w'=>e= .returned (.int .i64 r)∧Below w.heap.size w w':=by
 have a6:=Asd.mk bd;have da:=Asd.mk bf;clear bd bf;have HB:=Asd.mk (Below.refl w.heap.size w);have H:(spec_l2Least.l0 k l0 a1 10 0)=some r:=h;clear h;have H':=Asd.mk H;clear H;go_enter Try.func134,Try.ntmps134;go_wp2;go_loopg [5,6] k (fun kq v5 v6 w'=>∃(ad:Int) (o:Int),v5= .int .i64 ad∧v6= .int .i64 o∧Asd (spec_l2Least.l0 kq l0 a1 ad o=some r)∧Asd (kq≤k)∧Asd (Below w.heap.size w w'))
 case atStart=>exact⟨(10),(0),(by first|rfl|(simp;done)|(simp[*];done)),(by first|rfl|(simp;done)|(simp[*];done)),H',⟨Nat.le_refl _⟩,⟨wZ HB⟩⟩
 case round=>
  clear H';obtain⟨ad,o,rfl,rfl,HA,af,HB⟩:=hrel;cases gk with
  |zero=>exact absurd HA.out (by simp[spec_l2Least.l0])
  |succ k1=>
   have H:=HA.out;clear HA;simp only[spec_l2Least.l0]at H;rcases iT H with⟨c3,H⟩|⟨c3,H⟩
   ·have dF:=decide_eq_true c3;clear c3;obtain⟨aC,A4,H⟩:=bE H;try dsimp only at H
    rcases iT H with⟨c5,H⟩|⟨c5,H⟩
    ·have cm:(aC==1)=true:=beq_iff_eq.mpr c5;have dG:(aC !=1)=false:=bne_eq_false_iff_eq.mpr c5;clear c5;obtain⟨c6,H⟩:=iN H;have dz:=decide_eq_true c6;clear c6;obtain⟨dH,bl⟩:∃j_:Int,(mn ad (rd l0 o))=j_:=⟨_,rfl⟩;first|rw[bl]at H|simp only[bl]at H
     (try rw[bl]at A4);have dZ:(if(rd l0 o)<ad then(rd l0 o)else ad)=dH:=bl;have H':=Asd.mk H;clear H;go_wp2_with (first|((with_reducible refine gate_callee (f:=146) rfl ?_);refine gsM (some 17) rfl rfl Try.func146 (by kernel_rfl) rfl #[.int .i64 a1,.int .i64 o] rfl ?_;(with_reducible refine(spec_l1Bit.calls a1 o aC _ A4.out).mono ?_);rintro e w' ⟨rfl,⟨nd,rfl⟩⟩;refine⟨_,rfl,?_⟩;have cq:0≤(o:Int):=odt;have cr:o<(l0.length:Int):=odt;obtain⟨ea,dI,aT⟩:=Kd.at_int a6.out o cq cr;cases dI;replace aT:=(HB.out.cell (World.block_lt_of_cell? w _ aT)).trans aT;replace cq:=eq_true cq;replace cr:=eq_true cr));go_roundg k1
     case measure=>have:=af.out;omega
     case rel=>exact⟨(dH),(wrap64 (o+1)),(by first|rfl|(simp;done)|(simp only[←bl]<;>(first|rfl|simp))|(simp[*];done)),(by first|rfl|(simp;done)|(simp[*];done)),H',⟨by have:=af.out;omega⟩,⟨wZ HB⟩⟩
    ·have cm:(aC==1)=false:=beq_eq_false_iff_ne.mpr c5;have dG:(aC !=1)=true:=bne_iff_ne.mpr c5;have H':=Asd.mk H;clear H;go_wp2_with (first|((with_reducible refine gate_callee (f:=146) rfl ?_);refine gsM (some 17) rfl rfl Try.func146 (by kernel_rfl) rfl #[.int .i64 a1,.int .i64 o] rfl ?_;(with_reducible refine(spec_l1Bit.calls a1 o aC _ A4.out).mono ?_);rintro e w' ⟨rfl,⟨nd,rfl⟩⟩;refine⟨_,rfl,?_⟩));go_roundg k1
     case measure=>have:=af.out;omega
     case rel=>exact⟨(ad),(wrap64 (o+1)),(by first|rfl|(simp;done)|(simp[*];done)),(by first|rfl|(simp;done)|(simp[*];done)),H',⟨by have:=af.out;omega⟩,⟨wZ HB⟩⟩
   ·have dF:=decide_eq_false c3;clear c3;have H':=Asd.mk H;clear H;go_wp2;go_loopg [7,8] k1 (fun kq v7 v8 w'=>∃(a8:Int) (j:Int),v7= .int .i64 a8∧v8= .int .i64 j∧Asd (spec_l2Least.l1 kq l0 a1 ad a8 j=some r)∧Asd (kq≤k1)∧Asd (Below w.heap.size w w'))
    case atStart=>exact⟨(0),(0),(by first|rfl|(simp;done)|(simp[*];done)),(by first|rfl|(simp;done)|(simp[*];done)),H',⟨Nat.le_refl _⟩,⟨wZ HB⟩⟩
    case round=>
     clear H';obtain⟨a8,j,rfl,rfl,HA,ao,HB⟩:=hrel;cases gk with
     |zero=>exact absurd HA.out (by simp[spec_l2Least.l1])
     |succ k2=>
      have H:=HA.out;clear HA;simp only[spec_l2Least.l1]at H;rcases iT H with⟨c8,H⟩|⟨c8,H⟩
      ·have cB:=decide_eq_true c8;clear c8;obtain⟨ax,A9,H⟩:=bE H;try dsimp only at H
       rcases iT H with⟨c10,H⟩|⟨c10,H⟩
       ·have aq:(ax==1)=true:=beq_iff_eq.mpr c10;have bH:(ax !=1)=false:=bne_eq_false_iff_eq.mpr c10;clear c10;obtain⟨bk,H⟩:=iN H;have b6:=decide_eq_true bk;clear bk;rcases iT H with⟨aI,H⟩|⟨aI,H⟩
        ·have cQ:((rd l0 j)==ad)=true:=beq_iff_eq.mpr aI;have cR:((rd l0 j) !=ad)=false:=bne_eq_false_iff_eq.mpr aI;clear aI;have eb:=eq_true (odt:0≤j);obtain⟨aU,aA⟩:∃j_:Int,(shl .i64 1 j)=j_:=⟨_,rfl⟩;first|rw[aA]at H|simp only[aA]at H
         (try rw[aA]at A9);have bO:(IntKind.i64.wrap (1*2^min j.toNat 64))=aU:=aA;have bT:j≤64→(IntKind.i64.wrap (1*2^j.toNat))=aU:=shl_small aA;have dN:(IntKind.i64.wrap (2^min j.toNat 64))=aU:=by have h_:=bO;rw[Int.one_mul]at h_;exact h_
         have dO:j≤64→(IntKind.i64.wrap (2^j.toNat))=aU:=fun dJ=>by have h_:=bT dJ;rw[Int.one_mul]at h_;exact h_
         have dP:(wrap64 (1*2^min j.toNat 64))=aU:=(i64_w _).symm.trans bO;have dQ:j≤64→(wrap64 (1*2^j.toNat))=aU:=fun h_=>(i64_w _).symm.trans (bT h_)
         have H':=Asd.mk H;clear H;go_wp2_with (first|((with_reducible refine gate_callee (f:=146) rfl ?_);refine gsM (some 33) rfl rfl Try.func146 (by kernel_rfl) rfl #[.int .i64 a1,.int .i64 j] rfl ?_;(with_reducible refine(spec_l1Bit.calls a1 j ax _ A9.out).mono ?_);rintro e w' ⟨rfl,⟨nd,rfl⟩⟩;refine⟨_,rfl,?_⟩;have aV:0≤(j:Int):=odt;have aW:j<(l0.length:Int):=odt;obtain⟨cS,ct,ag⟩:=Kd.at_int a6.out j aV aW;cases ct;replace ag:=(HB.out.cell (World.block_lt_of_cell? w _ ag)).trans ag;replace aV:=eq_true aV;replace aW:=eq_true aW));go_roundg k2
         case measure=>have:=af.out;have:=ao.out;omega
         case rel=>exact⟨(wrap64 (a8+(aU))),(wrap64 (j+1)),(by first|rfl|(simp;done)|(simp only[←aA]<;>(first|rfl|simp))|(simp[*];done)),(by first|rfl|(simp;done)|(simp[*];done)),H',⟨by have:=af.out;have:=ao.out;omega⟩,⟨wZ HB⟩⟩
        ·have cQ:((rd l0 j)==ad)=false:=beq_eq_false_iff_ne.mpr aI;have cR:((rd l0 j) !=ad)=true:=bne_iff_ne.mpr aI;have H':=Asd.mk H;clear H;go_wp2_with (first|((with_reducible refine gate_callee (f:=146) rfl ?_);refine gsM (some 33) rfl rfl Try.func146 (by kernel_rfl) rfl #[.int .i64 a1,.int .i64 j] rfl ?_;(with_reducible refine(spec_l1Bit.calls a1 j ax _ A9.out).mono ?_);rintro e w' ⟨rfl,⟨nd,rfl⟩⟩;refine⟨_,rfl,?_⟩;have aV:0≤(j:Int):=odt;have aW:j<(l0.length:Int):=odt;obtain⟨cS,ct,ag⟩:=Kd.at_int a6.out j aV aW;cases ct;replace ag:=(HB.out.cell (World.block_lt_of_cell? w _ ag)).trans ag;replace aV:=eq_true aV;replace aW:=eq_true aW));go_roundg k2
         case measure=>have:=af.out;have:=ao.out;omega
         case rel=>exact⟨(a8),(wrap64 (j+1)),(by first|rfl|(simp;done)|(simp[*];done)),(by first|rfl|(simp;done)|(simp[*];done)),H',⟨by have:=af.out;have:=ao.out;omega⟩,⟨wZ HB⟩⟩
       ·have aq:(ax==1)=false:=beq_eq_false_iff_ne.mpr c10;have bH:(ax !=1)=true:=bne_iff_ne.mpr c10;have H':=Asd.mk H;clear H;go_wp2_with (first|((with_reducible refine gate_callee (f:=146) rfl ?_);refine gsM (some 33) rfl rfl Try.func146 (by kernel_rfl) rfl #[.int .i64 a1,.int .i64 j] rfl ?_;(with_reducible refine(spec_l1Bit.calls a1 j ax _ A9.out).mono ?_);rintro e w' ⟨rfl,⟨nd,rfl⟩⟩;refine⟨_,rfl,?_⟩));go_roundg k2
        case measure=>have:=af.out;have:=ao.out;omega
        case rel=>exact⟨(a8),(wrap64 (j+1)),(by first|rfl|(simp;done)|(simp[*];done)),(by first|rfl|(simp;done)|(simp[*];done)),H',⟨by have:=af.out;have:=ao.out;omega⟩,⟨wZ HB⟩⟩
      ·have cB:=decide_eq_false c8;clear c8;obtain rfl:=Option.some.inj H;go_wp2;go_ret;exact⟨by first|rfl|(simp[*,errW_none,errW_some]<;>rfl),wZ HB⟩

/-! ### spec_ChangedBy: function 108 -/
def spec_ChangedBy.j0:Nat→List Int→Int→Int→Bool→Option (List Int×Bool)
 |0,_,_,_,_=>none
 |k+1,x1,x2,x3,x28=>if x28=true then(some ((([]:List Int)),false))else(if x2=0 then((spec_l2Least.f k x1 x3).bind fun bn=>((spec_l6Rise.f k x1 bn).bind fun cu=>(some (cu,true))))else((spec_l6Rise.f k x1 x3).bind fun cv=>(some (cv,true))))
def spec_ChangedBy.f (k:Nat) (a0:Int) (l1:List Int) (a2:Int) (a3:Int):Option (List Int×Bool):=(spec_RankOk.f k a0 l1).bind fun bo=>(if bo=true then((spec_SetOk.f a0 a3).bind fun bp=>(if bp=true then(if a3=0 then(spec_ChangedBy.j0 k l1 a2 a3 true)else((spec_l1In.f a2 0 1).bind fun ba=>(spec_ChangedBy.j0 k l1 a2 a3 (!ba))))else(spec_ChangedBy.j0 k l1 a2 a3 true)))else(spec_ChangedBy.j0 k l1 a2 a3 true))
theorem spec_ChangedBy.mono_l:∀k,(∀y0 y1 y2 y3,LeO (spec_ChangedBy.j0 k y0 y1 y2 y3) (spec_ChangedBy.j0 (k+1) y0 y1 y2 y3))
 |0=>fun _ _ _ _ r h=>by simp[spec_ChangedBy.j0]at h
 |k+1=>by
  have al:=spec_ChangedBy.mono_l k
  ·intro y0 y1 y2 y3;unfold spec_ChangedBy.j0;repeat' first
   |(with_reducible first|exact al _ _ _ _|exact spec_RankOk.mono _ _ _|exact spec_l2Least.mono _ _ _|exact spec_l6Rise.mono _ _ _|exact LeO.refl _|exact LeO.none _|refine LeO.ite ?_ ?_|refine LeO.bind ?_ (fun _=>?_))
   |refine LeO.ite ?_ ?_
   |refine LeO.bind ?_ (fun _=>?_)
theorem spec_ChangedBy.mono:∀a0 a1 a2 a3 k,LeO (spec_ChangedBy.f k a0 a1 a2 a3) (spec_ChangedBy.f (k+1) a0 a1 a2 a3):=by
 intro a0 a1 a2 a3 k;have al:=spec_ChangedBy.mono_l k;unfold spec_ChangedBy.f
 repeat' first
   |(with_reducible first|exact al _ _ _ _|exact spec_RankOk.mono _ _ _|exact spec_l2Least.mono _ _ _|exact spec_l6Rise.mono _ _ _|exact LeO.refl _|exact LeO.none _|refine LeO.ite ?_ ?_|refine LeO.bind ?_ (fun _=>?_))
   |refine LeO.ite ?_ ?_
   |refine LeO.bind ?_ (fun _=>?_)
set_option maxHeartbeats 8000000 in
set_option maxRecDepth 100000 in
theorem spec_ChangedBy.calls (k:Nat) (a0:Int) (A1:Option Addr) (c1:Nat) (l1:List Int) (a2:Int) (a3:Int) (r1:List Int) (r2:Bool) (w:World) (dK:Kd.C (Kd.int .i64) w A1 l1.length l1) (dL:l1.length≤c1) (h:spec_ChangedBy.f k a0 l1 a2 a3=some (r1,r2)):
  Calls Try.prog 108 #[.int .i64 a0,.slice A1 l1.length c1,.int .i64 a2,.int .i64 a3] w fun e w'=>∃bg:Value,e= .returned (.tuple #[bg,.bool r2])∧Kd.R (Kd.int .i64) 3 w' w.heap.size (fun _=>True) bg r1∧Below w.heap.size w w':=by
 have bI:=Asd.mk dK;have bJ:=Asd.mk dL;clear dK dL;have HB:=Asd.mk (Below.refl w.heap.size w);have H:((spec_RankOk.f k a0 l1).bind fun bo=>(if bo=true then((spec_SetOk.f a0 a3).bind fun bp=>(if bp=true then(if a3=0 then(spec_ChangedBy.j0 k l1 a2 a3 true)else((spec_l1In.f a2 0 1).bind fun ba=>(spec_ChangedBy.j0 k l1 a2 a3 (!ba))))else(spec_ChangedBy.j0 k l1 a2 a3 true)))else(spec_ChangedBy.j0 k l1 a2 a3 true)))=some (r1,r2):=h;clear h;have cT:=Asd.mk H;clear H;go_enter Try.func108,Try.ntmps108;go_upto_region 1 with(fail)
 go_cut [28] (fun v28 wc=>∃(kq:Nat) (bc:Bool),v28= .bool bc∧Asd (spec_ChangedBy.j0 kq l1 a2 a3 bc=some (r1,r2))∧Asd (kq≤k)∧Asd (Below w.heap.size w wc))
 case first=>
  have H:=cT.out;clear cT;obtain⟨bo,A6,H⟩:=bE H;try dsimp only at H
  by_cases c7:bo=true
  ·subst c7;rw[if_pos rfl]at H;obtain⟨bp,A8,H⟩:=bE H;try dsimp only at H
   by_cases c9:bp=true
   ·subst c9;rw[if_pos rfl]at H;rcases iT H with⟨c10,H⟩|⟨c10,H⟩
    ·have aq:(a3==0)=true:=beq_iff_eq.mpr c10;have bH:(a3 !=0)=false:=bne_eq_false_iff_eq.mpr c10;clear c10;(first|rw[aq]|(simp only[i64_w,i32_w];rw[aq])|skip);have H':=Asd.mk H;clear H;go_wp2_with (first|((with_reducible refine gate_callee (f:=59) rfl ?_);refine gsM (some 12) rfl rfl Try.func59 (by kernel_rfl) rfl #[.int .i64 a0,.slice A1 l1.length c1] rfl ?_;(with_reducible refine(spec_RankOk.calls k a0 _ _ l1 true _ ?side1 ?side2 A6.out).mono ?_);(case side1=>exact cZ (Kd.C_below bI.out HB.out));(case side2=>exact bJ.out);rintro e w11 ⟨rfl,hb⟩;refine⟨_,rfl,?_⟩;replace HB:=bW HB hb;clear hb)|(go_at_call 132;(with_reducible refine(spec_SetOk.calls a0 a3 true _ A8.out).mono ?_);rintro e w' ⟨rfl,⟨nd,rfl⟩⟩));go_meet
     case rel=>exact⟨_,(true),(by first|rfl|(simp;done)|(simp[*];done)),H',⟨by first|omega|exact Nat.le_refl _⟩,⟨wZ HB⟩⟩
    ·have aq:(a3==0)=false:=beq_eq_false_iff_ne.mpr c10;have bH:(a3 !=0)=true:=bne_iff_ne.mpr c10;(first|rw[aq]|(simp only[i64_w,i32_w];rw[aq])|skip);obtain⟨ba,ec,H⟩:=bE H;try dsimp only at H
     have H':=Asd.mk H;clear H;go_wp2_with (first|((with_reducible refine gate_callee (f:=59) rfl ?_);refine gsM (some 12) rfl rfl Try.func59 (by kernel_rfl) rfl #[.int .i64 a0,.slice A1 l1.length c1] rfl ?_;(with_reducible refine(spec_RankOk.calls k a0 _ _ l1 true _ ?side1 ?side2 A6.out).mono ?_);(case side1=>exact cZ (Kd.C_below bI.out HB.out));(case side2=>exact bJ.out);rintro e w13 ⟨rfl,hb⟩;refine⟨_,rfl,?_⟩;replace HB:=bW HB hb;clear hb)|(go_at_call 132;(with_reducible refine(spec_SetOk.calls a0 a3 true _ A8.out).mono ?_);rintro e w' ⟨rfl,⟨nd,rfl⟩⟩)|(go_at_call 72;(with_reducible refine(spec_l1In.calls a2 0 1 ba _ ec.out).mono ?_);rintro e w' ⟨rfl,⟨nd,rfl⟩⟩));go_meet
     case rel=>exact⟨_,(!ba),(by first|rfl|(simp;done)|(simp[*];done)),H',⟨by first|omega|exact Nat.le_refl _⟩,⟨wZ HB⟩⟩
   ·replace c9:=Bool.eq_false_iff.mpr c9;subst c9;rw[if_neg (show¬(false=true) by decide)]at H;have H':=Asd.mk H;clear H;go_wp2_with (first|((with_reducible refine gate_callee (f:=59) rfl ?_);refine gsM (some 12) rfl rfl Try.func59 (by kernel_rfl) rfl #[.int .i64 a0,.slice A1 l1.length c1] rfl ?_;(with_reducible refine(spec_RankOk.calls k a0 _ _ l1 true _ ?side1 ?side2 A6.out).mono ?_);(case side1=>exact cZ (Kd.C_below bI.out HB.out));(case side2=>exact bJ.out);rintro e w14 ⟨rfl,hb⟩;refine⟨_,rfl,?_⟩;replace HB:=bW HB hb;clear hb)|(go_at_call 132;(with_reducible refine(spec_SetOk.calls a0 a3 false _ A8.out).mono ?_);rintro e w' ⟨rfl,⟨nd,rfl⟩⟩));go_meet
    case rel=>exact⟨_,(true),(by first|rfl|(simp;done)|(simp[*];done)),H',⟨by first|omega|exact Nat.le_refl _⟩,⟨wZ HB⟩⟩
  ·replace c7:=Bool.eq_false_iff.mpr c7;subst c7;rw[if_neg (show¬(false=true) by decide)]at H;have H':=Asd.mk H;clear H;go_wp2_with (first|((with_reducible refine gate_callee (f:=59) rfl ?_);refine gsM (some 12) rfl rfl Try.func59 (by kernel_rfl) rfl #[.int .i64 a0,.slice A1 l1.length c1] rfl ?_;(with_reducible refine(spec_RankOk.calls k a0 _ _ l1 false _ ?side1 ?side2 A6.out).mono ?_);(case side1=>exact cZ (Kd.C_below bI.out HB.out));(case side2=>exact bJ.out);rintro e w15 ⟨rfl,hb⟩;refine⟨_,rfl,?_⟩;replace HB:=bW HB hb;clear hb));go_meet
   case rel=>exact⟨_,(true),(by first|rfl|(simp;done)|(simp[*];done)),H',⟨by first|omega|exact Nat.le_refl _⟩,⟨wZ HB⟩⟩
 case rest=>
  clear cT;obtain⟨kq,bc,rfl,HA,ew,HB⟩:=hcut;cases kq with
  |zero=>exact absurd HA.out (by simp[spec_ChangedBy.j0])
  |succ kj4=>
   have H:=HA.out;clear HA;simp only[spec_ChangedBy.j0]at H;by_cases bw:bc=true
   ·subst bw;rw[if_pos rfl]at H;obtain⟨dM,aY⟩:∃y_:List Int,y_=(([]:List Int)):=⟨_,rfl⟩;replace H:(some (dM,false))=some (r1,r2):=by first|(rw[aY];with_reducible exact H)|(have ae:=(Option.bind_some _ _).symm.trans H;rw[aY];with_reducible exact ae)|(have ae:=(Option.bind_some _ _).symm.trans H;with_reducible exact ae)|with_reducible exact H|(rw[aY];exact H)|exact H
    have cw:=Asd.mk aY;clear aY;obtain⟨rfl,rfl⟩:=s2 H;go_wp2_with (first|((with_reducible refine gate_dst (N:=29) rfl ?_);refine Kd.R_lit (Kd.int .i64) _ 3 ?hg (N:=29) ?hd (xs:=([]:List Int)) (inner:=[]) (ok:=fun _=>True) (okp:=fun _=>True) ?hr ?hp (fun _ hk=>hk) trivial (Below.refl _ _) (Nat.le_refl _) (by simp) ?_;(case hd=>rfl);(case hg=>rfl);(case hr=>first|(go_simp;done)|(go_simp;rfl));(case hp=>exact(Reps.none _ _));intro et w17 bq hb au ab;clear au ab;(first|rw[←cw.out]at bq|(simp only[Int.reduceToNat]at bq;rw[←cw.out]at bq));have cU:=Asd.mk (Kd.R_lower bq (below_size (wZ HB)));replace HB:=bW HB hb;clear hb bq));go_ret2;exact⟨_,by first|rfl|(simp[*,errW_none,errW_some]<;>rfl),by(repeat apply Kd.RS);exact cU.out,wZ HB⟩
   ·replace bw:=Bool.eq_false_iff.mpr bw;subst bw;rw[if_neg (show¬(false=true) by decide)]at H;rcases iT H with⟨bV,H⟩|⟨bV,H⟩
    ·have cV:(a2==0)=true:=beq_iff_eq.mpr bV;have cW:(a2 !=0)=false:=bne_eq_false_iff_eq.mpr bV;clear bV;obtain⟨bn,ed,H⟩:=bE H;try dsimp only at H
     obtain⟨cu,ee,H⟩:=bE H;try dsimp only at H
     obtain⟨rfl,rfl⟩:=s2 H;go_wp2_with (first|((with_reducible refine gate_callee (f:=134) rfl ?_);refine gsM (some 35) rfl rfl Try.func134 (by kernel_rfl) rfl #[.slice A1 l1.length c1,.int .i64 a3] rfl ?_;(with_reducible refine(spec_l2Least.calls kj4 _ _ l1 a3 bn _ ?side1 ?side2 ed.out).mono ?_);(case side1=>exact cZ (Kd.C_below bI.out HB.out));(case side2=>exact bJ.out);rintro e ey ⟨rfl,hb⟩;refine⟨_,rfl,?_⟩;replace HB:=bW HB hb;clear hb)|((with_reducible refine gate_callee (f:=133) rfl ?_);refine gsM (some 36) rfl rfl Try.func133 (by kernel_rfl) rfl #[.slice A1 l1.length c1,.int .i64 bn] rfl ?_;(with_reducible refine(spec_l6Rise.calls kj4 _ _ l1 bn cu _ ?side1 ?side2 ee.out).mono ?_);(case side1=>exact cZ (Kd.C_below bI.out HB.out));(case side2=>exact bJ.out);rintro e ez ⟨eu,rfl,bb,hb⟩;refine⟨_,rfl,?_⟩;have cX:=Asd.mk (Kd.R_lower bb (below_size (wZ HB)));replace HB:=bW HB hb;clear hb;(try clear bb)));go_ret2;exact⟨_,by first|rfl|(simp[*,errW_none,errW_some]<;>rfl),by(repeat apply Kd.RS);exact cX.out,wZ HB⟩
    ·have cV:(a2==0)=false:=beq_eq_false_iff_ne.mpr bV;have cW:(a2 !=0)=true:=bne_iff_ne.mpr bV;obtain⟨cv,ef,H⟩:=bE H;try dsimp only at H
     obtain⟨rfl,rfl⟩:=s2 H;go_wp2_with (first|((with_reducible refine gate_callee (f:=133) rfl ?_);refine gsM (some 39) rfl rfl Try.func133 (by kernel_rfl) rfl #[.slice A1 l1.length c1,.int .i64 a3] rfl ?_;(with_reducible refine(spec_l6Rise.calls kj4 _ _ l1 a3 cv _ ?side1 ?side2 ef.out).mono ?_);(case side1=>exact cZ (Kd.C_below bI.out HB.out));(case side2=>exact bJ.out);rintro e eA ⟨ev,rfl,bb,hb⟩;refine⟨_,rfl,?_⟩;have cY:=Asd.mk (Kd.R_lower bb (below_size (wZ HB)));replace HB:=bW HB hb;clear hb;(try clear bb)));go_ret2;exact⟨_,by first|rfl|(simp[*,errW_none,errW_some]<;>rfl),by(repeat apply Kd.RS);exact cY.out,wZ HB⟩

end Go.Proofs.Ytihgpkohglcijaa.P
