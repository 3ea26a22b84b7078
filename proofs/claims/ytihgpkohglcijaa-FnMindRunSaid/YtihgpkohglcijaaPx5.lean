-- Written by a program of this session (wip/hook.py), which runs the kit's printer; Lean checks it.
import Derived.Test.YtihgpkohglcijaaPx0
import Derived.Test.YtihgpkohglcijaaPx2
import Derived.Test.YtihgpkohglcijaaPx3
import Derived.Test.YtihgpkohglcijaaPx4
namespace Go.Proofs.Ytihgpkohglcijaa.P
open Go.RowKit Go.Proofs.YtihgpkohglcijaaW.PrintWords Go.Proofs.YtihgpkohglcijaaW.PrintLast Go.Proofs.YtihgpkohglcijaaW.PrintMore
attribute [local go_sem] max2_int min2_int max_two min_two max_three min_three max_four min_four   -- for this text's walks alone
set_option linter.unusedVariables false
set_option linter.unusedSimpArgs false

/-! ### spec_l6Tidy: function 147 -/
mutual
def spec_l6Tidy.l0:Nat→List Int→List Int→Int→Option (List Int)
 |0,_,_,_=>none
 |k+1,x0,x3,x4=>if x4<(x0.length:Int)then(spec_l6Tidy.l1 k x0 x3 x4 (([]:List Int)) 0)else(some x3)
def spec_l6Tidy.l1:Nat→List Int→List Int→Int→List Int→Int→Option (List Int)
 |0,_,_,_,_,_=>none
 |k+1,x0,x3,x4,x5,x6=>if x6<(x0.length:Int)then(if 0≤x6 then(if 0≤x4 then(if x4<(x0.length:Int)then(spec_l6Tidy.l2 k x0 x3 x4 x5 x6 (decide ((rd x0 x6)≥(rd x0 x4))) 0)else(none))else(none))else(none))else(if x3.length<17592186044416 then(spec_l6Tidy.l0 k x0 (x3++ [(x5.length:Int)]) (wrap64 (x4+1)))else(none))
def spec_l6Tidy.l2:Nat→List Int→List Int→Int→List Int→Int→Bool→Int→Option (List Int)
 |0,_,_,_,_,_,_,_=>none
 |k+1,x0,x3,x4,x5,x6,x7,x8=>if x8<(x5.length:Int)then(if x7=true then(spec_l6Tidy.l2 k x0 x3 x4 x5 x6 true (wrap64 (x8+1)))else(if 0≤x8 then(if 0≤x6 then(if x6<(x0.length:Int)then(spec_l6Tidy.l2 k x0 x3 x4 x5 x6 ((rd x5 x8)==(rd x0 x6)) (wrap64 (x8+1)))else(none))else(none))else(none)))else(if x7=true then(spec_l6Tidy.l1 k x0 x3 x4 x5 (wrap64 (x6+1)))else(if 0≤x6 then(if x6<(x0.length:Int)then(if x5.length<17592186044416 then(spec_l6Tidy.l1 k x0 x3 x4 (x5++ [rd x0 x6]) (wrap64 (x6+1)))else(none))else(none))else(none)))
end
def spec_l6Tidy.f (k:Nat) (l0:List Int):Option (List Int):=spec_l6Tidy.l0 k l0 (([]:List Int)) 0
theorem spec_l6Tidy.mono_l:∀k,(∀y0 y1 y2,LeO (spec_l6Tidy.l0 k y0 y1 y2) (spec_l6Tidy.l0 (k+1) y0 y1 y2))∧(∀y0 y1 y2 y3 y4,LeO (spec_l6Tidy.l1 k y0 y1 y2 y3 y4) (spec_l6Tidy.l1 (k+1) y0 y1 y2 y3 y4))∧(∀y0 y1 y2 y3 y4 y5 y6,LeO (spec_l6Tidy.l2 k y0 y1 y2 y3 y4 y5 y6) (spec_l6Tidy.l2 (k+1) y0 y1 y2 y3 y4 y5 y6))
 |0=>⟨fun _ _ _ r h=>by simp[spec_l6Tidy.l0]at h,fun _ _ _ _ _ r h=>by simp[spec_l6Tidy.l1]at h,fun _ _ _ _ _ _ _ r h=>by simp[spec_l6Tidy.l2]at h⟩
 |k+1=>by
  obtain⟨ak,aN,bZ⟩:=spec_l6Tidy.mono_l k;refine⟨?_,?_,?_⟩
  ·intro y0 y1 y2;unfold spec_l6Tidy.l0;repeat' first
   |(with_reducible first|exact ak _ _ _|exact aN _ _ _ _ _|exact bZ _ _ _ _ _ _ _|exact LeO.refl _|exact LeO.none _|refine LeO.ite ?_ ?_|refine LeO.bind ?_ (fun _=>?_))
   |refine LeO.ite ?_ ?_
   |refine LeO.bind ?_ (fun _=>?_)
  ·intro y0 y1 y2 y3 y4;unfold spec_l6Tidy.l1;repeat' first
   |(with_reducible first|exact ak _ _ _|exact aN _ _ _ _ _|exact bZ _ _ _ _ _ _ _|exact LeO.refl _|exact LeO.none _|refine LeO.ite ?_ ?_|refine LeO.bind ?_ (fun _=>?_))
   |refine LeO.ite ?_ ?_
   |refine LeO.bind ?_ (fun _=>?_)
  ·intro y0 y1 y2 y3 y4 y5 y6;unfold spec_l6Tidy.l2;repeat' first
   |(with_reducible first|exact ak _ _ _|exact aN _ _ _ _ _|exact bZ _ _ _ _ _ _ _|exact LeO.refl _|exact LeO.none _|refine LeO.ite ?_ ?_|refine LeO.bind ?_ (fun _=>?_))
   |refine LeO.ite ?_ ?_
   |refine LeO.bind ?_ (fun _=>?_)
theorem spec_l6Tidy.mono:∀a0 k,LeO (spec_l6Tidy.f k a0) (spec_l6Tidy.f (k+1) a0):=by
 intro a0 k;obtain⟨ak,aN,bZ⟩:=spec_l6Tidy.mono_l k;unfold spec_l6Tidy.f
 repeat' first
   |(with_reducible first|exact ak _ _ _|exact aN _ _ _ _ _|exact bZ _ _ _ _ _ _ _|exact LeO.refl _|exact LeO.none _|refine LeO.ite ?_ ?_|refine LeO.bind ?_ (fun _=>?_))
   |refine LeO.ite ?_ ?_
   |refine LeO.bind ?_ (fun _=>?_)
set_option maxHeartbeats 8000000 in
set_option maxRecDepth 100000 in
theorem spec_l6Tidy.calls (k:Nat) (A0:Option Addr) (c0:Nat) (l0:List Int) (r:List Int) (w:World) (aY:Kd.C (Kd.int .i64) w A0 l0.length l0) (aZ:l0.length≤c0) (h:spec_l6Tidy.f k l0=some r):
  Calls Try.prog 147 #[.slice A0 l0.length c0] w fun e w'=>∃a6:Value,e= .returned (a6)∧Kd.R (Kd.int .i64) 3 w' w.heap.size (fun _=>True) a6 r∧Below w.heap.size w w':=by
 have aQ:=Asd.mk aY;have da:=Asd.mk aZ;clear aY aZ;have HB:=Asd.mk (Below.refl w.heap.size w);have H:(spec_l6Tidy.l0 k l0 (([]:List Int)) 0)=some r:=h;clear h;obtain⟨cy,bh⟩:∃y_:List Int,y_=(([]:List Int)):=⟨_,rfl⟩;replace H:(spec_l6Tidy.l0 k l0 cy 0)=some r:=by first|(rw[bh];exact H)|exact H
 have ax:=Asd.mk bh;clear bh;have H':=Asd.mk H;clear H;go_enter Try.func147,Try.ntmps147;go_wp2_with (first|((with_reducible refine gate_dst (N:=9) rfl ?_);refine Kd.R_lit (Kd.int .i64) _ 3 ?hg (N:=9) ?hd (xs:=([]:List Int)) (inner:=[]) (ok:=fun _=>True) (okp:=fun _=>True) ?hr ?hp (fun _ hk=>hk) trivial (Below.refl _ _) (Nat.le_refl _) (by simp) ?_;(case hd=>rfl);(case hg=>rfl);(case hr=>first|(go_simp;done)|(go_simp;rfl));(case hp=>exact(Reps.none _ _));intro v236 w2 al hb ar ab;clear ar ab;(first|rw[←ax.out]at al|(simp only[Int.reduceToNat]at al;rw[←ax.out]at al));have bj:=Asd.mk (Kd.R_lower al (below_size (wZ HB)));replace HB:=bW HB hb;clear hb al));repeat(go_quiet (first|((with_reducible refine gate_dst (N:=9) rfl ?_);refine Kd.R_lit (Kd.int .i64) _ 3 ?hg (N:=9) ?hd (xs:=([]:List Int)) (inner:=[]) (ok:=fun _=>True) (okp:=fun _=>True) ?hr ?hp (fun _ hk=>hk) trivial (Below.refl _ _) (Nat.le_refl _) (by simp) ?_;(case hd=>rfl);(case hg=>rfl);(case hr=>first|(go_simp;done)|(go_simp;rfl));(case hp=>exact(Reps.none _ _));intro v236 w2 al hb ar ab;clear ar ab;(first|rw[←ax.out]at al|(simp only[Int.reduceToNat]at al;rw[←ax.out]at al));have bj:=Asd.mk (Kd.R_lower al (below_size (wZ HB)));replace HB:=bW HB hb;clear hb al));try go_wp2_with (first|((with_reducible refine gate_dst (N:=9) rfl ?_);refine Kd.R_lit (Kd.int .i64) _ 3 ?hg (N:=9) ?hd (xs:=([]:List Int)) (inner:=[]) (ok:=fun _=>True) (okp:=fun _=>True) ?hr ?hp (fun _ hk=>hk) trivial (Below.refl _ _) (Nat.le_refl _) (by simp) ?_;(case hd=>rfl);(case hg=>rfl);(case hr=>first|(go_simp;done)|(go_simp;rfl));(case hp=>exact(Reps.none _ _));intro v236 w2 al hb ar ab;clear ar ab;(first|rw[←ax.out]at al|(simp only[Int.reduceToNat]at al;rw[←ax.out]at al));have bj:=Asd.mk (Kd.R_lower al (below_size (wZ HB)));replace HB:=bW HB hb;clear hb al)))
 go_loopg [3,4] k (fun kq v3 v4 w'=>∃(ag:List Int) (ah:Int),v4= .int .i64 ah∧Asd (spec_l6Tidy.l0 kq l0 ag ah=some r)∧Asd (kq≤k)∧Asd (Kd.R (Kd.int .i64) 3 w' w.heap.size (fun _=>True) v3 ag)∧Asd (Below w.heap.size w w'))
 case atStart=>exact⟨(cy),(0),(by first|rfl|(simp;done)|(simp[*];done)),H',⟨Nat.le_refl _⟩,⟨by(repeat apply Kd.RS);exact bj.out⟩,⟨wZ HB⟩⟩
 case round=>
  clear H';obtain⟨ag,ah,rfl,HA,ae,HO_3,HB⟩:=hrel;cases gk with
  |zero=>exact absurd HA.out (by simp[spec_l6Tidy.l0])
  |succ k1=>
   have H:=HA.out;clear HA;simp only[spec_l6Tidy.l0]at H;rcases iT H with⟨c4,H⟩|⟨c4,H⟩
   ·have db:=decide_eq_true c4;clear c4;obtain⟨cz,bk⟩:∃y_:List Int,y_=(([]:List Int)):=⟨_,rfl⟩;replace H:(spec_l6Tidy.l1 k1 l0 ag ah cz 0)=some r:=by first|(rw[bk];exact H)|exact H
    have ay:=Asd.mk bk;clear bk;have H':=Asd.mk H;clear H;go_wp2_with (first|((with_reducible refine gate_dst (N:=16) rfl ?_);refine Kd.R_lit (Kd.int .i64) _ 3 ?hg (N:=16) ?hd (xs:=([]:List Int)) (inner:=[]) (ok:=fun _=>True) (okp:=fun _=>True) ?hr ?hp (fun _ hk=>hk) trivial (Below.refl _ _) (Nat.le_refl _) (by simp) ?_;(case hd=>rfl);(case hg=>rfl);(case hr=>first|(go_simp;done)|(go_simp;rfl));(case hp=>exact(Reps.none _ _));intro cA w5 ai hb ar ab;clear ar ab;(first|rw[←ay.out]at ai|(simp only[Int.reduceToNat]at ai;rw[←ay.out]at ai));have bl:=Asd.mk (Kd.R_lower (Kd.R_new' ai (Kd.R_lt (rS HO_3))) (below_size (wZ HB)));replace HO_3:=Asd.mk (Kd.R_elder' (rS HO_3) (Kd.R_base ai) hb);replace HB:=bW HB hb;clear hb ai));repeat(go_quiet (first|((with_reducible refine gate_dst (N:=16) rfl ?_);refine Kd.R_lit (Kd.int .i64) _ 3 ?hg (N:=16) ?hd (xs:=([]:List Int)) (inner:=[]) (ok:=fun _=>True) (okp:=fun _=>True) ?hr ?hp (fun _ hk=>hk) trivial (Below.refl _ _) (Nat.le_refl _) (by simp) ?_;(case hd=>rfl);(case hg=>rfl);(case hr=>first|(go_simp;done)|(go_simp;rfl));(case hp=>exact(Reps.none _ _));intro cA w5 ai hb ar ab;clear ar ab;(first|rw[←ay.out]at ai|(simp only[Int.reduceToNat]at ai;rw[←ay.out]at ai));have bl:=Asd.mk (Kd.R_lower (Kd.R_new' ai (Kd.R_lt (rS HO_3))) (below_size (wZ HB)));replace HO_3:=Asd.mk (Kd.R_elder' (rS HO_3) (Kd.R_base ai) hb);replace HB:=bW HB hb;clear hb ai));try go_wp2_with (first|((with_reducible refine gate_dst (N:=16) rfl ?_);refine Kd.R_lit (Kd.int .i64) _ 3 ?hg (N:=16) ?hd (xs:=([]:List Int)) (inner:=[]) (ok:=fun _=>True) (okp:=fun _=>True) ?hr ?hp (fun _ hk=>hk) trivial (Below.refl _ _) (Nat.le_refl _) (by simp) ?_;(case hd=>rfl);(case hg=>rfl);(case hr=>first|(go_simp;done)|(go_simp;rfl));(case hp=>exact(Reps.none _ _));intro cA w5 ai hb ar ab;clear ar ab;(first|rw[←ay.out]at ai|(simp only[Int.reduceToNat]at ai;rw[←ay.out]at ai));have bl:=Asd.mk (Kd.R_lower (Kd.R_new' ai (Kd.R_lt (rS HO_3))) (below_size (wZ HB)));replace HO_3:=Asd.mk (Kd.R_elder' (rS HO_3) (Kd.R_base ai) hb);replace HB:=bW HB hb;clear hb ai)))
    go_loopg [5,6] k1 (fun kq v5 v6 w'=>∃(I:List Int) (J:Int),v6= .int .i64 J∧Asd (spec_l6Tidy.l1 kq l0 ag ah I J=some r)∧Asd (kq≤k1)∧Asd (Kd.R (Kd.int .i64) 3 w' w.heap.size (fun k_=>some k_≠(v5:Value).ownBlock) u3 ag)∧Asd (Kd.R (Kd.int .i64) 3 w' w.heap.size (fun k_=>some k_≠(u3:Value).ownBlock) v5 I)∧Asd (Below w.heap.size w w'))
    case atStart=>exact⟨(cz),(0),(by first|rfl|(simp;done)|(simp[*];done)),H',⟨Nat.le_refl _⟩,⟨by(repeat apply Kd.RS);exact Kd.R_mono HO_3.out (fun _ hk=>hk.2)⟩,⟨by(repeat apply Kd.RS);exact Kd.R_mono bl.out (fun _ hk=>hk.2)⟩,⟨wZ HB⟩⟩
    case round=>
     clear H';obtain⟨I,J,rfl,HA,an,HO_3,HO_5,HB⟩:=hrel;cases gk with
     |zero=>exact absurd HA.out (by simp[spec_l6Tidy.l1])
     |succ k2=>
      have H:=HA.out;clear HA;simp only[spec_l6Tidy.l1]at H;rcases iT H with⟨c7,H⟩|⟨c7,H⟩
      ·have dc:=decide_eq_true c7;clear c7;obtain⟨c8,H⟩:=iN H;have cB:=decide_eq_true c8;clear c8;obtain⟨c9,H⟩:=iN H;have eg:=decide_eq_true c9;clear c9;obtain⟨c10,H⟩:=iN H;have ao:=decide_eq_true c10;clear c10;have H':=Asd.mk H;clear H;have b0:0≤(J:Int):=odt;have b1:J<(l0.length:Int):=odt;obtain⟨bn,dd,aC⟩:=Kd.at_int aQ.out J b0 b1;cases dd;replace aC:=(HB.out.cell (World.block_lt_of_cell? w _ aC)).trans aC;replace b0:=eq_true b0;replace b1:=eq_true b1;have b4:0≤(ah:Int):=odt;have b5:ah<(l0.length:Int):=odt;obtain⟨cI,de,aD⟩:=Kd.at_int aQ.out ah b4 b5;obtain rfl:bn=cI:=(by injection de);replace aD:=(HB.out.cell (World.block_lt_of_cell? w _ aD)).trans aD;replace b4:=eq_true b4;replace b5:=eq_true b5;go_wp2;repeat(go_quiet (fail);try go_wp2)
       go_loopg [7,8] k2 (fun kq v7 v8 w'=>∃(a7:Bool) (av:Int),v7= .bool a7∧v8= .int .i64 av∧Asd (spec_l6Tidy.l2 kq l0 ag ah I J a7 av=some r)∧Asd (kq≤k2)∧Asd (Kd.R (Kd.int .i64) 3 w' w.heap.size (fun k_=>some k_≠(u5:Value).ownBlock) u3 ag)∧Asd (Kd.R (Kd.int .i64) 3 w' w.heap.size (fun k_=>some k_≠(u3:Value).ownBlock) u5 I)∧Asd (Below w.heap.size w w'))
       case atStart=>exact⟨(decide ((rd l0 J)≥(rd l0 ah))),(0),(by first|rfl|(simp;done)|(simp[*];done)),(by first|rfl|(simp;done)|(simp[*];done)),H',⟨Nat.le_refl _⟩,⟨by(repeat apply Kd.RS);exact HO_3.out⟩,⟨by(repeat apply Kd.RS);exact HO_5.out⟩,⟨wZ HB⟩⟩
       case round=>
        clear H';obtain⟨a7,av,rfl,rfl,HA,a8,HO_3,HO_5,HB⟩:=hrel;cases gk with
        |zero=>exact absurd HA.out (by simp[spec_l6Tidy.l2])
        |succ k3=>
         have H:=HA.out;clear HA;simp only[spec_l6Tidy.l2]at H;rcases iT H with⟨ba,H⟩|⟨ba,H⟩
         ·have b6:=decide_eq_true ba;clear ba;by_cases aE:a7=true
          ·subst aE;rw[if_pos rfl]at H;have H':=Asd.mk H;clear H;obtain⟨eh,ei,df⟩:=Kd.R_slice HO_5.out;subst df;go_wp2;repeat(go_quiet (fail);try go_wp2)
           go_roundg k3
           case measure=>have:=ae.out;have:=an.out;have:=a8.out;omega
           case rel=>exact⟨(true),(wrap64 (av+1)),(by first|rfl|(simp;done)|(simp[*];done)),(by first|rfl|(simp;done)|(simp[*];done)),H',⟨by have:=ae.out;have:=an.out;have:=a8.out;omega⟩,⟨by(repeat apply Kd.RS);exact HO_3.out⟩,⟨by(repeat apply Kd.RS);exact HO_5.out⟩,⟨wZ HB⟩⟩
          ·replace aE:=Bool.eq_false_iff.mpr aE;subst aE;rw[if_neg (show¬(false=true) by decide)]at H;obtain⟨dg,H⟩:=iN H;have dR:=decide_eq_true dg;clear dg;obtain⟨dh,H⟩:=iN H;have dS:=decide_eq_true dh;clear dh;obtain⟨bo,H⟩:=iN H;have dT:=decide_eq_true bo;clear bo;have H':=Asd.mk H;clear H;obtain⟨ej,ek,di⟩:=Kd.R_slice HO_5.out;subst di;have b7:0≤(av:Int):=odt;have b8:av<(I.length:Int):=odt;obtain⟨dU,dj,dk⟩:=Kd.at_int (Kd.R_reads' HO_5.out).2.2 av b7 b8;cases dj;replace b7:=eq_true b7;replace b8:=eq_true b8;have b9:0≤(J:Int):=odt;have ca:J<(l0.length:Int):=odt;obtain⟨cJ,dm,aG⟩:=Kd.at_int aQ.out J b9 ca;obtain rfl:bn=cJ:=(by injection dm);replace aG:=(HB.out.cell (World.block_lt_of_cell? w _ aG)).trans aG;replace b9:=eq_true b9;replace ca:=eq_true ca;go_wp2;repeat(go_quiet (fail);try go_wp2)
           go_roundg k3
           case measure=>have:=ae.out;have:=an.out;have:=a8.out;omega
           case rel=>exact⟨(((rd I av)==(rd l0 J))),(wrap64 (av+1)),(by first|rfl|(simp;done)|(simp[*];done)),(by first|rfl|(simp;done)|(simp[*];done)),H',⟨by have:=ae.out;have:=an.out;have:=a8.out;omega⟩,⟨by(repeat apply Kd.RS);exact HO_3.out⟩,⟨by(repeat apply Kd.RS);exact HO_5.out⟩,⟨wZ HB⟩⟩
         ·have b6:=decide_eq_false ba;clear ba;by_cases cx:a7=true
          ·subst cx;rw[if_pos rfl]at H;have H':=Asd.mk H;clear H;obtain⟨el,en,dn⟩:=Kd.R_slice HO_5.out;subst dn;go_wp2;repeat(go_quiet (fail);try go_wp2)
           go_roundg k3
           case measure=>have:=ae.out;have:=an.out;have:=a8.out;omega
           case rel=>exact⟨(I),(wrap64 (J+1)),(by first|rfl|(simp;done)|(simp[*];done)),H',⟨by have:=ae.out;have:=an.out;have:=a8.out;omega⟩,⟨by(repeat apply Kd.RS);exact HO_3.out⟩,⟨by(repeat apply Kd.RS);exact HO_5.out⟩,⟨wZ HB⟩⟩
          ·replace cx:=Bool.eq_false_iff.mpr cx;subst cx;rw[if_neg (show¬(false=true) by decide)]at H;obtain⟨dp,H⟩:=iN H;have dV:=decide_eq_true dp;clear dp;obtain⟨dq,H⟩:=iN H;have dW:=decide_eq_true dq;clear dq;obtain⟨dr,H⟩:=iN H;have bp:=Asd.mk dr;clear dr;obtain⟨cC,bq⟩:∃y_:List Int,y_=(I++ [rd l0 J]):=⟨_,rfl⟩;replace H:(spec_l6Tidy.l1 k3 l0 ag ah cC (wrap64 (J+1)))=some r:=by first|(rw[bq];exact H)|exact H
           have br:=Asd.mk bq;clear bq;have H':=Asd.mk H;clear H;obtain⟨cb,cc,dt⟩:=Kd.R_slice HO_5.out;subst dt;have cd:0≤(J:Int):=odt;have cf:J<(l0.length:Int):=odt;obtain⟨cK,du,aH⟩:=Kd.at_int aQ.out J cd cf;obtain rfl:bn=cK:=(by injection du);replace aH:=(HB.out.cell (World.block_lt_of_cell? w _ aH)).trans aH;replace cd:=eq_true cd;replace cf:=eq_true cf;go_wp2_with (first|((with_reducible refine gate_builtin (b:=.append) (xs:= #[.tmp 52,.tmp 57]) rfl ?_);at_builtin;refine Kd.R_append (Kd.int .i64) (w0:=w) w.heap.size rfl (.tmp 52) (.tmp 57) 55 3 (.int .i64 0) 8 rfl Try.underlying55 info3 rfl (by decide) (by omega) (.slice cb I.length cc) I (rd l0 J) [.int .i64 (rd l0 J)] (fun k_=>some k_≠(u3:Value).ownBlock) (fun _=>False) rfl rfl ?aP (fun _ hk=>hk.elim) ?aF ?aO ?aB ?aS ?aL ?_;(case aP=>exact rfl);(case aB=>exact(wZ HB));(case aF=>exact(fun k_ hk=>Kd.fresh' (Kd.R_lt (rS HO_3)) k_ hk));(case aO=>exact(rS HO_5));(case aS=>exact(below_size (wZ HB)));(case aL=>have:=bp.out;omega);intro cD dv ho hb hg aj;rw[←br.out]at ho;replace HO_3:=Asd.mk (Kd.R_after (ok:=(fun _=>True)) (by(repeat apply Kd.RS);exact Kd.R_mono HO_3.out (fun _ hk=>⟨trivial,hk⟩)) hg aj);replace HB:=Asd.mk (hb);have bs:=Asd.mk (ho);clear HO_5;clear ho hb hg aj));repeat(go_quiet (first|((with_reducible refine gate_builtin (b:=.append) (xs:= #[.tmp 52,.tmp 57]) rfl ?_);at_builtin;refine Kd.R_append (Kd.int .i64) (w0:=w) w.heap.size rfl (.tmp 52) (.tmp 57) 55 3 (.int .i64 0) 8 rfl Try.underlying55 info3 rfl (by decide) (by omega) (.slice cb I.length cc) I (rd l0 J) [.int .i64 (rd l0 J)] (fun k_=>some k_≠(u3:Value).ownBlock) (fun _=>False) rfl rfl ?aP (fun _ hk=>hk.elim) ?aF ?aO ?aB ?aS ?aL ?_;(case aP=>exact rfl);(case aB=>exact(wZ HB));(case aF=>exact(fun k_ hk=>Kd.fresh' (Kd.R_lt (rS HO_3)) k_ hk));(case aO=>exact(rS HO_5));(case aS=>exact(below_size (wZ HB)));(case aL=>have:=bp.out;omega);intro cD dv ho hb hg aj;rw[←br.out]at ho;replace HO_3:=Asd.mk (Kd.R_after (ok:=(fun _=>True)) (by(repeat apply Kd.RS);exact Kd.R_mono HO_3.out (fun _ hk=>⟨trivial,hk⟩)) hg aj);replace HB:=Asd.mk (hb);have bs:=Asd.mk (ho);clear HO_5;clear ho hb hg aj));try go_wp2_with (first|((with_reducible refine gate_builtin (b:=.append) (xs:= #[.tmp 52,.tmp 57]) rfl ?_);at_builtin;refine Kd.R_append (Kd.int .i64) (w0:=w) w.heap.size rfl (.tmp 52) (.tmp 57) 55 3 (.int .i64 0) 8 rfl Try.underlying55 info3 rfl (by decide) (by omega) (.slice cb I.length cc) I (rd l0 J) [.int .i64 (rd l0 J)] (fun k_=>some k_≠(u3:Value).ownBlock) (fun _=>False) rfl rfl ?aP (fun _ hk=>hk.elim) ?aF ?aO ?aB ?aS ?aL ?_;(case aP=>exact rfl);(case aB=>exact(wZ HB));(case aF=>exact(fun k_ hk=>Kd.fresh' (Kd.R_lt (rS HO_3)) k_ hk));(case aO=>exact(rS HO_5));(case aS=>exact(below_size (wZ HB)));(case aL=>have:=bp.out;omega);intro cD dv ho hb hg aj;rw[←br.out]at ho;replace HO_3:=Asd.mk (Kd.R_after (ok:=(fun _=>True)) (by(repeat apply Kd.RS);exact Kd.R_mono HO_3.out (fun _ hk=>⟨trivial,hk⟩)) hg aj);replace HB:=Asd.mk (hb);have bs:=Asd.mk (ho);clear HO_5;clear ho hb hg aj)))
           go_roundg k3
           case measure=>have:=ae.out;have:=an.out;have:=a8.out;omega
           case rel=>exact⟨(cC),(wrap64 (J+1)),(by first|rfl|(simp;done)|(simp[*];done)),H',⟨by have:=ae.out;have:=an.out;have:=a8.out;omega⟩,⟨by(repeat apply Kd.RS);exact Kd.R_mono HO_3.out (fun _ hk=>hk.2)⟩,⟨by(repeat apply Kd.RS);exact bs.out⟩,⟨wZ HB⟩⟩
      ·have dc:=decide_eq_false c7;clear c7;obtain⟨dw,H⟩:=iN H;have bu:=Asd.mk dw;clear dw;obtain⟨cE,bw⟩:∃y_:List Int,y_=(ag++ [(I.length:Int)]):=⟨_,rfl⟩;replace H:(spec_l6Tidy.l0 k2 l0 cE (wrap64 (ah+1)))=some r:=by first|(rw[bw];exact H)|exact H
       have bx:=Asd.mk bw;clear bw;have H':=Asd.mk H;clear H;obtain⟨cg,ch,dx⟩:=Kd.R_slice HO_5.out;subst dx;go_wp2_with (first|((with_reducible refine gate_builtin (b:=.append) (xs:= #[.tmp 59,.tmp 62]) rfl ?_);at_builtin;refine Kd.R_append (Kd.int .i64) (w0:=w) w.heap.size rfl (.tmp 59) (.tmp 62) 55 3 (.int .i64 0) 8 rfl Try.underlying55 info3 rfl (by decide) (by omega) u3 ag (I.length:Int) [.int .i64 (I.length:Int)] (fun k_=>some k_≠(.slice cg I.length ch:Value).ownBlock) (fun _=>False) rfl rfl ?aP (fun _ hk=>hk.elim) ?aF ?aO ?aB ?aS ?aL ?_;(case aP=>exact rfl);(case aB=>exact(wZ HB));(case aF=>exact(fun k_ hk=>Kd.fresh' (Kd.R_lt (rS HO_5)) k_ hk));(case aO=>exact(rS HO_3));(case aS=>exact(below_size (wZ HB)));(case aL=>have:=bu.out;omega);intro cF dy ho hb hg aj;rw[←bx.out]at ho;replace HO_5:=Asd.mk (Kd.R_after (ok:=(fun _=>True)) (by(repeat apply Kd.RS);exact Kd.R_mono HO_5.out (fun _ hk=>⟨trivial,hk⟩)) hg aj);replace HB:=Asd.mk (hb);have bz:=Asd.mk (ho);clear HO_3;clear ho hb hg aj));repeat(go_quiet (first|((with_reducible refine gate_builtin (b:=.append) (xs:= #[.tmp 59,.tmp 62]) rfl ?_);at_builtin;refine Kd.R_append (Kd.int .i64) (w0:=w) w.heap.size rfl (.tmp 59) (.tmp 62) 55 3 (.int .i64 0) 8 rfl Try.underlying55 info3 rfl (by decide) (by omega) u3 ag (I.length:Int) [.int .i64 (I.length:Int)] (fun k_=>some k_≠(.slice cg I.length ch:Value).ownBlock) (fun _=>False) rfl rfl ?aP (fun _ hk=>hk.elim) ?aF ?aO ?aB ?aS ?aL ?_;(case aP=>exact rfl);(case aB=>exact(wZ HB));(case aF=>exact(fun k_ hk=>Kd.fresh' (Kd.R_lt (rS HO_5)) k_ hk));(case aO=>exact(rS HO_3));(case aS=>exact(below_size (wZ HB)));(case aL=>have:=bu.out;omega);intro cF dy ho hb hg aj;rw[←bx.out]at ho;replace HO_5:=Asd.mk (Kd.R_after (ok:=(fun _=>True)) (by(repeat apply Kd.RS);exact Kd.R_mono HO_5.out (fun _ hk=>⟨trivial,hk⟩)) hg aj);replace HB:=Asd.mk (hb);have bz:=Asd.mk (ho);clear HO_3;clear ho hb hg aj));try go_wp2_with (first|((with_reducible refine gate_builtin (b:=.append) (xs:= #[.tmp 59,.tmp 62]) rfl ?_);at_builtin;refine Kd.R_append (Kd.int .i64) (w0:=w) w.heap.size rfl (.tmp 59) (.tmp 62) 55 3 (.int .i64 0) 8 rfl Try.underlying55 info3 rfl (by decide) (by omega) u3 ag (I.length:Int) [.int .i64 (I.length:Int)] (fun k_=>some k_≠(.slice cg I.length ch:Value).ownBlock) (fun _=>False) rfl rfl ?aP (fun _ hk=>hk.elim) ?aF ?aO ?aB ?aS ?aL ?_;(case aP=>exact rfl);(case aB=>exact(wZ HB));(case aF=>exact(fun k_ hk=>Kd.fresh' (Kd.R_lt (rS HO_5)) k_ hk));(case aO=>exact(rS HO_3));(case aS=>exact(below_size (wZ HB)));(case aL=>have:=bu.out;omega);intro cF dy ho hb hg aj;rw[←bx.out]at ho;replace HO_5:=Asd.mk (Kd.R_after (ok:=(fun _=>True)) (by(repeat apply Kd.RS);exact Kd.R_mono HO_5.out (fun _ hk=>⟨trivial,hk⟩)) hg aj);replace HB:=Asd.mk (hb);have bz:=Asd.mk (ho);clear HO_3;clear ho hb hg aj)))
       go_roundg k2
       case measure=>have:=ae.out;have:=an.out;omega
       case rel=>exact⟨(cE),(wrap64 (ah+1)),(by first|rfl|(simp;done)|(simp[*];done)),H',⟨by have:=ae.out;have:=an.out;omega⟩,⟨by(repeat apply Kd.RS);exact Kd.R_mono bz.out (fun _ hk=>trivial)⟩,⟨wZ HB⟩⟩
   ·have db:=decide_eq_false c4;clear c4;obtain rfl:=Option.some.inj H;go_wp2;repeat(go_quiet (fail);try go_wp2)
    go_ret;exact⟨_,by first|rfl|(simp[*,errW_none,errW_some]<;>rfl),by(repeat apply Kd.RS);exact HO_3.out,wZ HB⟩

/-! ### spec_l6Rise: function 133 -/
def spec_l6Rise.l0:Nat→List Int→Int→List Int→Int→Option (List Int)
 |0,_,_,_,_=>none
 |k+1,x0,x1,x5,x6=>if x6<(x0.length:Int)then(if 0≤x6 then((spec_l1Bit.f x1 x6).bind fun aR=>(if x5.length<17592186044416 then(spec_l6Rise.l0 k x0 x1 (x5++ [wrap64 ((rd x0 x6)+(wrap64 ((wrap64 (1 - aR))*10)))]) (wrap64 (x6+1)))else(none)))else(none))else((spec_l6Tidy.f k x5).bind fun cj=>(some cj))
def spec_l6Rise.f (k:Nat) (l0:List Int) (a1:Int):Option (List Int):=spec_l6Rise.l0 k l0 a1 (([]:List Int)) 0
theorem spec_l6Rise.mono_l:∀k,(∀y0 y1 y2 y3,LeO (spec_l6Rise.l0 k y0 y1 y2 y3) (spec_l6Rise.l0 (k+1) y0 y1 y2 y3))
 |0=>fun _ _ _ _ r h=>by simp[spec_l6Rise.l0]at h
 |k+1=>by
  have ak:=spec_l6Rise.mono_l k
  ·intro y0 y1 y2 y3;unfold spec_l6Rise.l0;repeat' first
   |(with_reducible first|exact ak _ _ _ _|exact spec_l6Tidy.mono _ _|exact LeO.refl _|exact LeO.none _|refine LeO.ite ?_ ?_|refine LeO.bind ?_ (fun _=>?_))
   |refine LeO.ite ?_ ?_
   |refine LeO.bind ?_ (fun _=>?_)
theorem spec_l6Rise.mono:∀a0 a1 k,LeO (spec_l6Rise.f k a0 a1) (spec_l6Rise.f (k+1) a0 a1):=by
 intro a0 a1 k;have ak:=spec_l6Rise.mono_l k;unfold spec_l6Rise.f
 repeat' first
   |(with_reducible first|exact ak _ _ _ _|exact spec_l6Tidy.mono _ _|exact LeO.refl _|exact LeO.none _|refine LeO.ite ?_ ?_|refine LeO.bind ?_ (fun _=>?_))
   |refine LeO.ite ?_ ?_
   |refine LeO.bind ?_ (fun _=>?_)
def spec_l6Rise.T5:Bool×List (List Nat×List Nat):=(true,[([],[]),([],[]),([],[]),([1,2],[1,2]),([3],[3]),([],[]),([],[]),([5,6],[5,6]),([7],[7]),([8],[8]),([4,9],[4,9]),([10],[10]),([0,11,7],[0,11]),([12,12,0,1,2,3,4,5,6,7,8,9,10,11,12],[0,12])])
def spec_l6Rise.B5:List Nat:=[0,0,0,6,14,0,0,96,224,480,1022,2046,4095,8191]
theorem spec_l6Rise.tab5:rtab .any (opsOf Try.f133 5)=spec_l6Rise.T5:=by kernel_rfl
theorem spec_l6Rise.bits5:waitsOk spec_l6Rise.T5.2 spec_l6Rise.B5=true:=by kernel_rfl
set_option maxHeartbeats 8000000 in
set_option maxRecDepth 100000 in
theorem spec_l6Rise.calls (k:Nat) (A0:Option Addr) (c0:Nat) (l0:List Int) (a1:Int) (r:List Int) (w:World) (aY:Kd.C (Kd.int .i64) w A0 l0.length l0) (aZ:l0.length≤c0) (h:spec_l6Rise.f k l0 a1=some r):
  Calls Try.prog 133 #[.slice A0 l0.length c0,.int .i64 a1] w fun e w'=>∃a6:Value,e= .returned (a6)∧Kd.R (Kd.int .i64) 3 w' w.heap.size (fun _=>True) a6 r∧Below w.heap.size w w':=by
 have aQ:=Asd.mk aY;have da:=Asd.mk aZ;clear aY aZ;have HB:=Asd.mk (Below.refl w.heap.size w);have H:(spec_l6Rise.l0 k l0 a1 (([]:List Int)) 0)=some r:=h;clear h;obtain⟨cG,bA⟩:∃y_:List Int,y_=(([]:List Int)):=⟨_,rfl⟩;replace H:(spec_l6Rise.l0 k l0 a1 cG 0)=some r:=by first|(rw[bA];exact H)|exact H
 have ck:=Asd.mk bA;clear bA;have H':=Asd.mk H;clear H;go_enter Try.func133,Try.ntmps133;go_wp2_with (first|((with_reducible refine gate_dst (N:=7) rfl ?_);refine Kd.R_lit (Kd.int .i64) _ 3 ?hg (N:=7) ?hd (xs:=([]:List Int)) (inner:=[]) (ok:=fun _=>True) (okp:=fun _=>True) ?hr ?hp (fun _ hk=>hk) trivial (Below.refl _ _) (Nat.le_refl _) (by simp) ?_;(case hd=>rfl);(case hg=>rfl);(case hr=>first|(go_simp;done)|(go_simp;rfl));(case hp=>exact(Reps.none _ _));intro eo w3 cl hb ar ab;clear ar ab;(first|rw[←ck.out]at cl|(simp only[Int.reduceToNat]at cl;rw[←ck.out]at cl));have cL:=Asd.mk (Kd.R_lower cl (below_size (wZ HB)));replace HB:=bW HB hb;clear hb cl));go_loopg [5,6] k (fun kq v5 v6 w'=>∃(ad:List Int) (o:Int),v6= .int .i64 o∧Asd (spec_l6Rise.l0 kq l0 a1 ad o=some r)∧Asd (kq≤k)∧Asd (Kd.R (Kd.int .i64) 3 w' w.heap.size (fun _=>True) v5 ad)∧Asd (Below w.heap.size w w'))
 case atStart=>exact⟨(cG),(0),(by first|rfl|(simp;done)|(simp[*];done)),H',⟨Nat.le_refl _⟩,⟨by(repeat apply Kd.RS);exact cL.out⟩,⟨wZ HB⟩⟩
 case round=>
  clear H';obtain⟨ad,o,rfl,HA,ae,HO_5,HB⟩:=hrel;cases gk with
  |zero=>exact absurd HA.out (by simp[spec_l6Rise.l0])
  |succ k1=>
   have H:=HA.out;clear HA;simp only[spec_l6Rise.l0]at H;rcases iT H with⟨c5,H⟩|⟨c5,H⟩
   ·have cm:=decide_eq_true c5;clear c5;obtain⟨c6,H⟩:=iN H;have dz:=decide_eq_true c6;clear c6;obtain⟨aR,A7,H⟩:=bE H;try dsimp only at H
    obtain⟨c8,H⟩:=iN H;have dA:=Asd.mk c8;clear c8;obtain⟨cH,bB⟩:∃y_:List Int,y_=(ad++ [wrap64 ((rd l0 o)+(wrap64 ((wrap64 (1 - aR))*10)))]):=⟨_,rfl⟩;replace H:(spec_l6Rise.l0 k1 l0 a1 cH (wrap64 (o+1)))=some r:=by first|(rw[bB];exact H)|exact H
    have cM:=Asd.mk bB;clear bB;have H':=Asd.mk H;clear H;try go_wp2
    replace HO_5:=Asd.mk (Kd.R_drew HO_5.out);replace HB:=Asd.mk (bwD HB.out);have cn:0≤(o:Int):=odt;have cp:o<(l0.length:Int):=odt;obtain⟨cN,dB,aq⟩:=Kd.at_int aQ.out o cn cp;have aa:=aq;cases dB;replace aq:=(HB.out.cell (World.block_lt_of_cell? w _ aq)).trans aq;replace cn:=eq_true cn;replace cp:=eq_true cp;refine start_ (n:=14) (S:=fun w'=>w'.cell? (cN.add (o).toNat)=some (.int .i64 (rd l0 o))) (ds:=[]) #[false,false,false,false,false,false,false,false,false,false,false,false,false,false] (by kernel_rfl) rfl rfl (((HB.out.cell (World.block_lt_of_cell? w _ aa)).trans aa)) (fun hHeld=>?_);refine with_tabW spec_l6Rise.tab5 spec_l6Rise.bits5 (fun au dX=>?_);generalize wr.drew=w9 at HO_5 HB aq hHeld⊢;refine pure_ (i:=0) (N:=some 14) (v:=?_) (a':=?_) #[true,false,false,false,false,false,false,false,false,false,false,false,false,false] rfl rfl (any_of au.out (by kernel_rfl)) (fun _ _ _ h=>h) (Or.inl ⟨by rfl,?_⟩) ?_ ?_;rotate_left
    ·intro w';go_simp;with_reducible rfl
    rotate_left
    ·simp only[Act.put,qA,qB,qC,i64_w,i32_w];rfl
    refine pure_ (i:=1) (N:=some 15) (v:=?_) (a':=?_) #[true,true,false,false,false,false,false,false,false,false,false,false,false,false] rfl rfl (any_of au.out (by kernel_rfl)) (fun _ _ _ h=>h) (Or.inl ⟨by rfl,?_⟩) ?_ ?_;rotate_left
    ·intro w';go_simp;with_reducible rfl
    rotate_left
    ·simp only[Act.put,qA,qB,qC,i64_w,i32_w];rfl
    refine pure_ (i:=2) (N:=some 16) (v:=?_) (a':=?_) #[true,true,true,false,false,false,false,false,false,false,false,false,false,false] rfl rfl (any_of au.out (by kernel_rfl)) (fun _ _ _ h=>h) (Or.inl ⟨by rfl,?_⟩) ?_ ?_;rotate_left
    ·intro w';go_simp;with_reducible rfl
    rotate_left
    ·simp only[Act.put,qA,qB,qC,i64_w,i32_w];rfl
    refine pure_ (i:=3) (N:=some 17) (v:=?_) (a':=?_) #[true,true,true,true,false,false,false,false,false,false,false,false,false,false] rfl rfl (any_of au.out (by kernel_rfl)) (fun _ _ _ h=>h) (Or.inl ⟨by rfl,?_⟩) ?_ ?_;rotate_left
    ·intro w';go_simp;with_reducible rfl
    rotate_left
    ·simp only[Act.put,qA,qB,qC,i64_w,i32_w];rfl
    refine pure_ (i:=5) (N:=some 19) (v:=?_) (a':=?_) #[true,true,true,true,false,true,false,false,false,false,false,false,false,false] rfl rfl (any_of au.out (by kernel_rfl)) (fun _ _ _ h=>h) (Or.inl ⟨by rfl,?_⟩) ?_ ?_;rotate_left
    ·intro w';go_simp;with_reducible rfl
    rotate_left
    ·simp only[Act.put,qA,qB,qC,i64_w,i32_w];rfl
    refine pure_ (i:=6) (N:=some 20) (v:=?_) (a':=?_) #[true,true,true,true,false,true,true,false,false,false,false,false,false,false] rfl rfl (any_of au.out (by kernel_rfl)) (fun _ _ _ h=>h) (Or.inl ⟨by rfl,?_⟩) ?_ ?_;rotate_left
    ·intro w';go_simp;with_reducible rfl
    rotate_left
    ·simp only[Act.put,qA,qB,qC,i64_w,i32_w];rfl
    refine take_ (i:=4) (N:=some 18) (v:=?_) (a':=?_) #[true,true,true,true,true,true,true,false,false,false,false,false,false,false] rfl rfl (take_ofW au.out dX.out (by kernel_rfl)) (fun _ _ _ h=>h) (Or.inl ⟨by rfl,?_⟩) hHeld ?_ ?_;rotate_left
    ·intro w' s0;go_simp;with_reducible rfl
    rotate_left
    ·simp only[Act.put,qA,qB,qC,i64_w,i32_w];rfl
    refine one_ (i:=7) (N:=some 21) #[true,true,true,true,true,true,true,true,false,false,false,false,false,false] rfl rfl (one_of au.out (by kernel_rfl)) (by decide) (fun K hK=>?_);refine goes_ Try.func146 (by kernel_rfl) rfl #[.int .i64 a1,.int .i64 o] (by rfl) rfl rfl (by(try simp only[List.map_toArray,List.map_cons,List.map_nil]);first|done|rfl|(simp only[List.length_drop,List.length_take];rfl)) ?_;with_reducible refine(spec_l1Bit.calls a1 o aR _ A7.out).mono ?_
    rintro e w' ⟨rfl,⟨nd,rfl⟩⟩;refine⟨_,rfl,?_⟩;refine hK.out _ _ (((HB.out.cell (World.block_lt_of_cell? w _ aa)).trans aa)) (fun hHeld=>?_);clear hK K;refine norm_ (a':=?_) ?_ ?_;rotate_left
    ·show Act.put _ (some 21) _=_
     simp only[Act.put,qA,qB,qC,i64_w,i32_w];rfl
    refine pure_ (i:=8) (N:=some 22) (v:=?_) (a':=?_) #[true,true,true,true,true,true,true,true,true,false,false,false,false,false] rfl rfl (any_of au.out (by kernel_rfl)) (fun _ _ _ h=>h) (Or.inl ⟨by rfl,?_⟩) ?_ ?_;rotate_left
    ·intro w';go_simp;with_reducible rfl
    rotate_left
    ·simp only[Act.put,qA,qB,qC,i64_w,i32_w];rfl
    refine pure_ (i:=9) (N:=some 23) (v:=?_) (a':=?_) #[true,true,true,true,true,true,true,true,true,true,false,false,false,false] rfl rfl (any_of au.out (by kernel_rfl)) (fun _ _ _ h=>h) (Or.inl ⟨by rfl,?_⟩) ?_ ?_;rotate_left
    ·intro w';go_simp;with_reducible rfl
    rotate_left
    ·simp only[Act.put,qA,qB,qC,i64_w,i32_w];rfl
    refine pure_ (i:=10) (N:=some 24) (v:=?_) (a':=?_) #[true,true,true,true,true,true,true,true,true,true,true,false,false,false] rfl rfl (any_of au.out (by kernel_rfl)) (fun _ _ _ h=>h) (Or.inl ⟨by rfl,?_⟩) ?_ ?_;rotate_left
    ·intro w';go_simp;with_reducible rfl
    rotate_left
    ·simp only[Act.put,qA,qB,qC,i64_w,i32_w];rfl
    refine one_ (i:=11) (N:=some 25) #[true,true,true,true,true,true,true,true,true,true,true,true,false,false] rfl rfl (one_of au.out (by kernel_rfl)) (by decide) (fun K hK=>?_);refine value_ (w1:=?_) (v:=?_) (by rfl) rfl ?_ ?_;rotate_left 2
    ·go_simp;constructor
     ·rfl
     ·rfl
    refine hK.out _ _ ((World.cell?_alloc_lt _ _ _ (World.block_lt_of_cell? _ _ (((HB.out.cell (World.block_lt_of_cell? w _ aa)).trans aa)))).trans (((HB.out.cell (World.block_lt_of_cell? w _ aa)).trans aa))) (fun hHeld=>?_);clear hK K;refine norm_ (a':=?_) ?_ ?_;rotate_left
    ·show Act.put _ (some 25) _=_
     simp only[Act.put,qA,qB,qC,i64_w,i32_w];rfl
    refine one_ (i:=12) (N:=some 26) #[true,true,true,true,true,true,true,true,true,true,true,true,true,false] rfl rfl (one_of au.out (by kernel_rfl)) (by decide) (fun K hK=>?_);refine Kd.R_append_step (Kd.int .i64) (w0:=w) w.heap.size (by rfl) (.tmp 14) (.tmp 25) 55 3 (.int .i64 0) 8 rfl Try.underlying55 info3 rfl (by decide) (by omega) u5 ad (wrap64 ((rd l0 o)+(wrap64 ((wrap64 (1 - aR))*10)))) [.int .i64 (wrap64 ((rd l0 o)+(wrap64 ((wrap64 (1 - aR))*10))))] (fun _=>True) (fun _=>False) rfl rfl ?aP (fun _ hk=>hk.elim) ?aF ?aO ?aB ?aS ?aL ?_;(case aP=>exact rfl);(case aB=>exact(wZ HB));(case aF=>exact(fun _ _=>trivial));(case aO=>exact(rS HO_5));(case aS=>exact(below_size (wZ HB)));(case aL=>have:=dA.out;omega);intro ep w10 ho hb hg aj
    rw[←cM.out]at ho;replace HB:=Asd.mk (hb);have cO:=Asd.mk (ho);clear HO_5 ho hb hg aj
    refine hK.out _ _ (((HB.out.cell (World.block_lt_of_cell? w _ aa)).trans aa)) (fun hHeld=>?_);clear hK K;refine norm_ (a':=?_) ?_ ?_;rotate_left
    ·show Act.put _ (some 26) _=_
     simp only[Act.put,qA,qB,qC,i64_w,i32_w];rfl
    refine pure_ (i:=13) (N:=some 5) (v:=?_) (a':=?_) #[true,true,true,true,true,true,true,true,true,true,true,true,true,true] rfl rfl (any_of au.out (by kernel_rfl)) (fun _ _ _ h=>h) (Or.inl ⟨by rfl,?_⟩) ?_ ?_;rotate_left
    ·intro w';go_simp;with_reducible rfl
    rotate_left
    ·simp only[Act.put,qA,qB,qC,i64_w,i32_w];rfl
    refine done_ (done_of au.out (by kernel_rfl)) ?_;try go_wp2
    go_roundg k1
    case measure=>have:=ae.out;omega
    case rel=>exact⟨(cH),(wrap64 (o+1)),(by first|rfl|(simp;done)|(simp[*];done)),H',⟨by have:=ae.out;omega⟩,⟨by(repeat apply Kd.RS);exact cO.out⟩,⟨wZ HB⟩⟩
   ·have cm:=decide_eq_false c5;clear c5;obtain⟨cj,dY,H⟩:=bE H;try dsimp only at H
    obtain rfl:=Option.some.inj H;obtain⟨dC,dD,dE⟩:=Kd.R_slice HO_5.out;subst dE;go_wp2_with (first|((with_reducible refine gate_callee (f:=147) rfl ?_);refine gB (some 28) Try.func147 #[.slice dC ad.length dD] rfl ?_;(with_reducible refine(spec_l6Tidy.calls k1 _ _ ad cj _ ?side1 ?side2 dY.out).mono ?_);(case side1=>exact cZ (Kd.R_reads' HO_5.out).2.2);(case side2=>exact(Kd.R_reads' HO_5.out).2.1);rintro e w13 ⟨er,rfl,aV,hb⟩;refine⟨_,rfl,?_⟩;have cP:=Asd.mk (Kd.R_lower (Kd.R_new' aV (Kd.R_lt (rS HO_5))) (below_size (wZ HB)));replace HO_5:=Asd.mk (Kd.R_elder' (rS HO_5) (Kd.R_base aV) hb);replace HB:=bW HB hb;clear hb;(try clear aV)));go_ret;exact⟨_,by first|rfl|(simp[*,errW_none,errW_some]<;>rfl),by(repeat apply Kd.RS);exact Kd.R_mono cP.out (fun _ hk=>trivial),wZ HB⟩

/-! ### spec_l2Least: function 134 -/
mutual
def spec_l2Least.l0:Nat→List Int→Int→Int→Int→Option (Int)
 |0,_,_,_,_=>none
 |k+1,x0,x1,x5,x6=>if x6<(x0.length:Int)then((spec_l1Bit.f x1 x6).bind fun aA=>(if aA=1 then(if 0≤x6 then(spec_l2Least.l0 k x0 x1 (mn x5 (rd x0 x6)) (wrap64 (x6+1)))else(none))else(spec_l2Least.l0 k x0 x1 x5 (wrap64 (x6+1)))))else(spec_l2Least.l1 k x0 x1 x5 0 0)
def spec_l2Least.l1:Nat→List Int→Int→Int→Int→Int→Option (Int)
 |0,_,_,_,_,_=>none
 |k+1,x0,x1,x5,x7,x8=>if x8<(x0.length:Int)then((spec_l1Bit.f x1 x8).bind fun aw=>(if aw=1 then(if 0≤x8 then(if(rd x0 x8)=x5 then(spec_l2Least.l1 k x0 x1 x5 (wrap64 (x7+(shl .i64 1 x8))) (wrap64 (x8+1)))else(spec_l2Least.l1 k x0 x1 x5 x7 (wrap64 (x8+1))))else(none))else(spec_l2Least.l1 k x0 x1 x5 x7 (wrap64 (x8+1)))))else(some x7)
end
def spec_l2Least.f (k:Nat) (l0:List Int) (a1:Int):Option (Int):=spec_l2Least.l0 k l0 a1 10 0
theorem spec_l2Least.mono_l:∀k,(∀y0 y1 y2 y3,LeO (spec_l2Least.l0 k y0 y1 y2 y3) (spec_l2Least.l0 (k+1) y0 y1 y2 y3))∧(∀y0 y1 y2 y3 y4,LeO (spec_l2Least.l1 k y0 y1 y2 y3 y4) (spec_l2Least.l1 (k+1) y0 y1 y2 y3 y4))
 |0=>⟨fun _ _ _ _ r h=>by simp[spec_l2Least.l0]at h,fun _ _ _ _ _ r h=>by simp[spec_l2Least.l1]at h⟩
 |k+1=>by
  obtain⟨ak,aN⟩:=spec_l2Least.mono_l k;refine⟨?_,?_⟩
  ·intro y0 y1 y2 y3;unfold spec_l2Least.l0;repeat' first
   |(with_reducible first|exact ak _ _ _ _|exact aN _ _ _ _ _|exact LeO.refl _|exact LeO.none _|refine LeO.ite ?_ ?_|refine LeO.bind ?_ (fun _=>?_))
   |refine LeO.ite ?_ ?_
   |refine LeO.bind ?_ (fun _=>?_)
  ·intro y0 y1 y2 y3 y4;unfold spec_l2Least.l1;repeat' first
   |(with_reducible first|exact ak _ _ _ _|exact aN _ _ _ _ _|exact LeO.refl _|exact LeO.none _|refine LeO.ite ?_ ?_|refine LeO.bind ?_ (fun _=>?_))
   |refine LeO.ite ?_ ?_
   |refine LeO.bind ?_ (fun _=>?_)
theorem spec_l2Least.mono:∀a0 a1 k,LeO (spec_l2Least.f k a0 a1) (spec_l2Least.f (k+1) a0 a1):=by
 intro a0 a1 k;obtain⟨ak,aN⟩:=spec_l2Least.mono_l k;unfold spec_l2Least.f
 repeat' first
   |(with_reducible first|exact ak _ _ _ _|exact aN _ _ _ _ _|exact LeO.refl _|exact LeO.none _|refine LeO.ite ?_ ?_|refine LeO.bind ?_ (fun _=>?_))
   |refine LeO.ite ?_ ?_
   |refine LeO.bind ?_ (fun _=>?_)
set_option maxHeartbeats 8000000 in
set_option maxRecDepth 100000 in
theorem spec_l2Least.calls (k:Nat) (A0:Option Addr) (c0:Nat) (l0:List Int) (a1:Int) (r:Int) (w:World) (aY:Kd.C (Kd.int .i64) w A0 l0.length l0) (aZ:l0.length≤c0) (h:spec_l2Least.f k l0 a1=some r):
  Calls Try.prog 134 #[.slice A0 l0.length c0,.int .i64 a1] w fun e w'=>e= .returned (.int .i64 r)∧Below w.heap.size w w':=by
 have aQ:=Asd.mk aY;have da:=Asd.mk aZ;clear aY aZ;have HB:=Asd.mk (Below.refl w.heap.size w);have H:(spec_l2Least.l0 k l0 a1 10 0)=some r:=h;clear h;have H':=Asd.mk H;clear H;go_enter Try.func134,Try.ntmps134;go_wp2;go_loopg [5,6] k (fun kq v5 v6 w'=>∃(ad:Int) (o:Int),v5= .int .i64 ad∧v6= .int .i64 o∧Asd (spec_l2Least.l0 kq l0 a1 ad o=some r)∧Asd (kq≤k)∧Asd (Below w.heap.size w w'))
 case atStart=>exact⟨(10),(0),(by first|rfl|(simp;done)|(simp[*];done)),(by first|rfl|(simp;done)|(simp[*];done)),H',⟨Nat.le_refl _⟩,⟨wZ HB⟩⟩
 case round=>
  clear H';obtain⟨ad,o,rfl,rfl,HA,ae,HB⟩:=hrel;cases gk with
  |zero=>exact absurd HA.out (by simp[spec_l2Least.l0])
  |succ k1=>
   have H:=HA.out;clear HA;simp only[spec_l2Least.l0]at H;rcases iT H with⟨c3,H⟩|⟨c3,H⟩
   ·have dF:=decide_eq_true c3;clear c3;obtain⟨aA,A4,H⟩:=bE H;try dsimp only at H
    rcases iT H with⟨c5,H⟩|⟨c5,H⟩
    ·have cm:(aA==1)=true:=beq_iff_eq.mpr c5;have dG:(aA !=1)=false:=bne_eq_false_iff_eq.mpr c5;clear c5;obtain⟨c6,H⟩:=iN H;have dz:=decide_eq_true c6;clear c6;obtain⟨dH,bb⟩:∃j_:Int,(mn ad (rd l0 o))=j_:=⟨_,rfl⟩;first|rw[bb]at H|simp only[bb]at H
     (try rw[bb]at A4);have dZ:(if(rd l0 o)<ad then(rd l0 o)else ad)=dH:=bb;have H':=Asd.mk H;clear H;go_wp2_with (first|((with_reducible refine gate_callee (f:=146) rfl ?_);refine gB (some 17) Try.func146 #[.int .i64 a1,.int .i64 o] rfl ?_;(with_reducible refine(spec_l1Bit.calls a1 o aA _ A4.out).mono ?_);rintro e w' ⟨rfl,⟨nd,rfl⟩⟩;refine⟨_,rfl,?_⟩;have cq:0≤(o:Int):=odt;have cr:o<(l0.length:Int):=odt;obtain⟨ea,dI,aI⟩:=Kd.at_int aQ.out o cq cr;cases dI;replace aI:=(HB.out.cell (World.block_lt_of_cell? w _ aI)).trans aI;replace cq:=eq_true cq;replace cr:=eq_true cr));go_roundg k1
     case measure=>have:=ae.out;omega
     case rel=>exact⟨(dH),(wrap64 (o+1)),(by first|rfl|(simp;done)|(simp only[←bb]<;>(first|rfl|simp))|(simp[*];done)),(by first|rfl|(simp;done)|(simp[*];done)),H',⟨by have:=ae.out;omega⟩,⟨wZ HB⟩⟩
    ·have cm:(aA==1)=false:=beq_eq_false_iff_ne.mpr c5;have dG:(aA !=1)=true:=bne_iff_ne.mpr c5;have H':=Asd.mk H;clear H;go_wp2_with (first|((with_reducible refine gate_callee (f:=146) rfl ?_);refine gB (some 17) Try.func146 #[.int .i64 a1,.int .i64 o] rfl ?_;(with_reducible refine(spec_l1Bit.calls a1 o aA _ A4.out).mono ?_);rintro e w' ⟨rfl,⟨nd,rfl⟩⟩;refine⟨_,rfl,?_⟩));go_roundg k1
     case measure=>have:=ae.out;omega
     case rel=>exact⟨(ad),(wrap64 (o+1)),(by first|rfl|(simp;done)|(simp[*];done)),(by first|rfl|(simp;done)|(simp[*];done)),H',⟨by have:=ae.out;omega⟩,⟨wZ HB⟩⟩
   ·have dF:=decide_eq_false c3;clear c3;have H':=Asd.mk H;clear H;go_wp2;go_loopg [7,8] k1 (fun kq v7 v8 w'=>∃(aT:Int) (j:Int),v7= .int .i64 aT∧v8= .int .i64 j∧Asd (spec_l2Least.l1 kq l0 a1 ad aT j=some r)∧Asd (kq≤k1)∧Asd (Below w.heap.size w w'))
    case atStart=>exact⟨(0),(0),(by first|rfl|(simp;done)|(simp[*];done)),(by first|rfl|(simp;done)|(simp[*];done)),H',⟨Nat.le_refl _⟩,⟨wZ HB⟩⟩
    case round=>
     clear H';obtain⟨aT,j,rfl,rfl,HA,an,HB⟩:=hrel;cases gk with
     |zero=>exact absurd HA.out (by simp[spec_l2Least.l1])
     |succ k2=>
      have H:=HA.out;clear HA;simp only[spec_l2Least.l1]at H;rcases iT H with⟨c8,H⟩|⟨c8,H⟩
      ·have cB:=decide_eq_true c8;clear c8;obtain⟨aw,A9,H⟩:=bE H;try dsimp only at H
       rcases iT H with⟨c10,H⟩|⟨c10,H⟩
       ·have ao:(aw==1)=true:=beq_iff_eq.mpr c10;have bD:(aw !=1)=false:=bne_eq_false_iff_eq.mpr c10;clear c10;obtain⟨ba,H⟩:=iN H;have b6:=decide_eq_true ba;clear ba;rcases iT H with⟨aE,H⟩|⟨aE,H⟩
        ·have cQ:((rd l0 j)==ad)=true:=beq_iff_eq.mpr aE;have cR:((rd l0 j) !=ad)=false:=bne_eq_false_iff_eq.mpr aE;clear aE;have eb:=eq_true (odt:0≤j);obtain⟨aJ,az⟩:∃j_:Int,(shl .i64 1 j)=j_:=⟨_,rfl⟩;first|rw[az]at H|simp only[az]at H
         (try rw[az]at A9);have bO:(IntKind.i64.wrap (1*2^min j.toNat 64))=aJ:=az;have bT:j≤64→(IntKind.i64.wrap (1*2^j.toNat))=aJ:=shl_small az;have dN:(IntKind.i64.wrap (2^min j.toNat 64))=aJ:=by have h_:=bO;rw[Int.one_mul]at h_;exact h_
         have dO:j≤64→(IntKind.i64.wrap (2^j.toNat))=aJ:=fun dJ=>by have h_:=bT dJ;rw[Int.one_mul]at h_;exact h_
         have dP:(wrap64 (1*2^min j.toNat 64))=aJ:=(i64_w _).symm.trans bO;have dQ:j≤64→(wrap64 (1*2^j.toNat))=aJ:=fun h_=>(i64_w _).symm.trans (bT h_)
         have H':=Asd.mk H;clear H;go_wp2_with (first|((with_reducible refine gate_callee (f:=146) rfl ?_);refine gB (some 33) Try.func146 #[.int .i64 a1,.int .i64 j] rfl ?_;(with_reducible refine(spec_l1Bit.calls a1 j aw _ A9.out).mono ?_);rintro e w' ⟨rfl,⟨nd,rfl⟩⟩;refine⟨_,rfl,?_⟩;have aK:0≤(j:Int):=odt;have aM:j<(l0.length:Int):=odt;obtain⟨cS,ct,af⟩:=Kd.at_int aQ.out j aK aM;cases ct;replace af:=(HB.out.cell (World.block_lt_of_cell? w _ af)).trans af;replace aK:=eq_true aK;replace aM:=eq_true aM));go_roundg k2
         case measure=>have:=ae.out;have:=an.out;omega
         case rel=>exact⟨(wrap64 (aT+(aJ))),(wrap64 (j+1)),(by first|rfl|(simp;done)|(simp only[←az]<;>(first|rfl|simp))|(simp[*];done)),(by first|rfl|(simp;done)|(simp[*];done)),H',⟨by have:=ae.out;have:=an.out;omega⟩,⟨wZ HB⟩⟩
        ·have cQ:((rd l0 j)==ad)=false:=beq_eq_false_iff_ne.mpr aE;have cR:((rd l0 j) !=ad)=true:=bne_iff_ne.mpr aE;have H':=Asd.mk H;clear H;go_wp2_with (first|((with_reducible refine gate_callee (f:=146) rfl ?_);refine gB (some 33) Try.func146 #[.int .i64 a1,.int .i64 j] rfl ?_;(with_reducible refine(spec_l1Bit.calls a1 j aw _ A9.out).mono ?_);rintro e w' ⟨rfl,⟨nd,rfl⟩⟩;refine⟨_,rfl,?_⟩;have aK:0≤(j:Int):=odt;have aM:j<(l0.length:Int):=odt;obtain⟨cS,ct,af⟩:=Kd.at_int aQ.out j aK aM;cases ct;replace af:=(HB.out.cell (World.block_lt_of_cell? w _ af)).trans af;replace aK:=eq_true aK;replace aM:=eq_true aM));go_roundg k2
         case measure=>have:=ae.out;have:=an.out;omega
         case rel=>exact⟨(aT),(wrap64 (j+1)),(by first|rfl|(simp;done)|(simp[*];done)),(by first|rfl|(simp;done)|(simp[*];done)),H',⟨by have:=ae.out;have:=an.out;omega⟩,⟨wZ HB⟩⟩
       ·have ao:(aw==1)=false:=beq_eq_false_iff_ne.mpr c10;have bD:(aw !=1)=true:=bne_iff_ne.mpr c10;have H':=Asd.mk H;clear H;go_wp2_with (first|((with_reducible refine gate_callee (f:=146) rfl ?_);refine gB (some 33) Try.func146 #[.int .i64 a1,.int .i64 j] rfl ?_;(with_reducible refine(spec_l1Bit.calls a1 j aw _ A9.out).mono ?_);rintro e w' ⟨rfl,⟨nd,rfl⟩⟩;refine⟨_,rfl,?_⟩));go_roundg k2
        case measure=>have:=ae.out;have:=an.out;omega
        case rel=>exact⟨(aT),(wrap64 (j+1)),(by first|rfl|(simp;done)|(simp[*];done)),(by first|rfl|(simp;done)|(simp[*];done)),H',⟨by have:=ae.out;have:=an.out;omega⟩,⟨wZ HB⟩⟩
      ·have cB:=decide_eq_false c8;clear c8;obtain rfl:=Option.some.inj H;go_wp2;go_ret;exact⟨by first|rfl|(simp[*,errW_none,errW_some]<;>rfl),wZ HB⟩

/-! ### spec_ChangedBy: function 108 -/
def spec_ChangedBy.j0:Nat→List Int→Int→Int→Bool→Option (List Int×Bool)
 |0,_,_,_,_=>none
 |k+1,x1,x2,x3,x28=>if x28=true then(some ((([]:List Int)),false))else(if x2=0 then((spec_l2Least.f k x1 x3).bind fun bc=>((spec_l6Rise.f k x1 bc).bind fun cu=>(some (cu,true))))else((spec_l6Rise.f k x1 x3).bind fun cv=>(some (cv,true))))
def spec_ChangedBy.f (k:Nat) (a0:Int) (l1:List Int) (a2:Int) (a3:Int):Option (List Int×Bool):=(spec_RankOk.f k a0 l1).bind fun bd=>(if bd=true then((spec_SetOk.f a0 a3).bind fun bf=>(if bf=true then(if a3=0 then(spec_ChangedBy.j0 k l1 a2 a3 true)else((spec_l1In.f a2 0 1).bind fun aU=>(spec_ChangedBy.j0 k l1 a2 a3 (!aU))))else(spec_ChangedBy.j0 k l1 a2 a3 true)))else(spec_ChangedBy.j0 k l1 a2 a3 true))
theorem spec_ChangedBy.mono_l:∀k,(∀y0 y1 y2 y3,LeO (spec_ChangedBy.j0 k y0 y1 y2 y3) (spec_ChangedBy.j0 (k+1) y0 y1 y2 y3))
 |0=>fun _ _ _ _ r h=>by simp[spec_ChangedBy.j0]at h
 |k+1=>by
  have ak:=spec_ChangedBy.mono_l k
  ·intro y0 y1 y2 y3;unfold spec_ChangedBy.j0;repeat' first
   |(with_reducible first|exact ak _ _ _ _|exact spec_RankOk.mono _ _ _|exact spec_l2Least.mono _ _ _|exact spec_l6Rise.mono _ _ _|exact LeO.refl _|exact LeO.none _|refine LeO.ite ?_ ?_|refine LeO.bind ?_ (fun _=>?_))
   |refine LeO.ite ?_ ?_
   |refine LeO.bind ?_ (fun _=>?_)
theorem spec_ChangedBy.mono:∀a0 a1 a2 a3 k,LeO (spec_ChangedBy.f k a0 a1 a2 a3) (spec_ChangedBy.f (k+1) a0 a1 a2 a3):=by
 intro a0 a1 a2 a3 k;have ak:=spec_ChangedBy.mono_l k;unfold spec_ChangedBy.f
 repeat' first
   |(with_reducible first|exact ak _ _ _ _|exact spec_RankOk.mono _ _ _|exact spec_l2Least.mono _ _ _|exact spec_l6Rise.mono _ _ _|exact LeO.refl _|exact LeO.none _|refine LeO.ite ?_ ?_|refine LeO.bind ?_ (fun _=>?_))
   |refine LeO.ite ?_ ?_
   |refine LeO.bind ?_ (fun _=>?_)
set_option maxHeartbeats 8000000 in
set_option maxRecDepth 100000 in
theorem spec_ChangedBy.calls (k:Nat) (a0:Int) (A1:Option Addr) (c1:Nat) (l1:List Int) (a2:Int) (a3:Int) (r1:List Int) (r2:Bool) (w:World) (dK:Kd.C (Kd.int .i64) w A1 l1.length l1) (dL:l1.length≤c1) (h:spec_ChangedBy.f k a0 l1 a2 a3=some (r1,r2)):
  Calls Try.prog 108 #[.int .i64 a0,.slice A1 l1.length c1,.int .i64 a2,.int .i64 a3] w fun e w'=>∃a6:Value,e= .returned (.tuple #[a6,.bool r2])∧Kd.R (Kd.int .i64) 3 w' w.heap.size (fun _=>True) a6 r1∧Below w.heap.size w w':=by
 have bF:=Asd.mk dK;have bH:=Asd.mk dL;clear dK dL;have HB:=Asd.mk (Below.refl w.heap.size w);have H:((spec_RankOk.f k a0 l1).bind fun bd=>(if bd=true then((spec_SetOk.f a0 a3).bind fun bf=>(if bf=true then(if a3=0 then(spec_ChangedBy.j0 k l1 a2 a3 true)else((spec_l1In.f a2 0 1).bind fun aU=>(spec_ChangedBy.j0 k l1 a2 a3 (!aU))))else(spec_ChangedBy.j0 k l1 a2 a3 true)))else(spec_ChangedBy.j0 k l1 a2 a3 true)))=some (r1,r2):=h;clear h;have cT:=Asd.mk H;clear H;go_enter Try.func108,Try.ntmps108;go_upto_region 1 with(fail)
 go_cut [28] (fun v28 wc=>∃(kq:Nat) (aW:Bool),v28= .bool aW∧Asd (spec_ChangedBy.j0 kq l1 a2 a3 aW=some (r1,r2))∧Asd (kq≤k)∧Asd (Below w.heap.size w wc))
 case first=>
  have H:=cT.out;clear cT;obtain⟨bd,A6,H⟩:=bE H;try dsimp only at H
  by_cases c7:bd=true
  ·subst c7;rw[if_pos rfl]at H;obtain⟨bf,A8,H⟩:=bE H;try dsimp only at H
   by_cases c9:bf=true
   ·subst c9;rw[if_pos rfl]at H;rcases iT H with⟨c10,H⟩|⟨c10,H⟩
    ·have ao:(a3==0)=true:=beq_iff_eq.mpr c10;have bD:(a3 !=0)=false:=bne_eq_false_iff_eq.mpr c10;clear c10;(first|rw[ao]|(simp only[i64_w,i32_w];rw[ao])|skip);have H':=Asd.mk H;clear H;go_wp2_with (first|((with_reducible refine gate_callee (f:=59) rfl ?_);refine gB (some 12) Try.func59 #[.int .i64 a0,.slice A1 l1.length c1] rfl ?_;(with_reducible refine(spec_RankOk.calls k a0 _ _ l1 true _ ?side1 ?side2 A6.out).mono ?_);(case side1=>exact cZ (Kd.C_below bF.out HB.out));(case side2=>exact bH.out);rintro e w11 ⟨rfl,hb⟩;refine⟨_,rfl,?_⟩;replace HB:=bW HB hb;clear hb)|(go_at_call 132;(with_reducible refine(spec_SetOk.calls a0 a3 true _ A8.out).mono ?_);rintro e w' ⟨rfl,⟨nd,rfl⟩⟩));go_meet
     case rel=>exact⟨_,(true),(by first|rfl|(simp;done)|(simp[*];done)),H',⟨by first|omega|exact Nat.le_refl _⟩,⟨wZ HB⟩⟩
    ·have ao:(a3==0)=false:=beq_eq_false_iff_ne.mpr c10;have bD:(a3 !=0)=true:=bne_iff_ne.mpr c10;(first|rw[ao]|(simp only[i64_w,i32_w];rw[ao])|skip);obtain⟨aU,ec,H⟩:=bE H;try dsimp only at H
     have H':=Asd.mk H;clear H;go_wp2_with (first|((with_reducible refine gate_callee (f:=59) rfl ?_);refine gB (some 12) Try.func59 #[.int .i64 a0,.slice A1 l1.length c1] rfl ?_;(with_reducible refine(spec_RankOk.calls k a0 _ _ l1 true _ ?side1 ?side2 A6.out).mono ?_);(case side1=>exact cZ (Kd.C_below bF.out HB.out));(case side2=>exact bH.out);rintro e w13 ⟨rfl,hb⟩;refine⟨_,rfl,?_⟩;replace HB:=bW HB hb;clear hb)|(go_at_call 132;(with_reducible refine(spec_SetOk.calls a0 a3 true _ A8.out).mono ?_);rintro e w' ⟨rfl,⟨nd,rfl⟩⟩)|(go_at_call 72;(with_reducible refine(spec_l1In.calls a2 0 1 aU _ ec.out).mono ?_);rintro e w' ⟨rfl,⟨nd,rfl⟩⟩));go_meet
     case rel=>exact⟨_,(!aU),(by first|rfl|(simp;done)|(simp[*];done)),H',⟨by first|omega|exact Nat.le_refl _⟩,⟨wZ HB⟩⟩
   ·replace c9:=Bool.eq_false_iff.mpr c9;subst c9;rw[if_neg (show¬(false=true) by decide)]at H;have H':=Asd.mk H;clear H;go_wp2_with (first|((with_reducible refine gate_callee (f:=59) rfl ?_);refine gB (some 12) Try.func59 #[.int .i64 a0,.slice A1 l1.length c1] rfl ?_;(with_reducible refine(spec_RankOk.calls k a0 _ _ l1 true _ ?side1 ?side2 A6.out).mono ?_);(case side1=>exact cZ (Kd.C_below bF.out HB.out));(case side2=>exact bH.out);rintro e w14 ⟨rfl,hb⟩;refine⟨_,rfl,?_⟩;replace HB:=bW HB hb;clear hb)|(go_at_call 132;(with_reducible refine(spec_SetOk.calls a0 a3 false _ A8.out).mono ?_);rintro e w' ⟨rfl,⟨nd,rfl⟩⟩));go_meet
    case rel=>exact⟨_,(true),(by first|rfl|(simp;done)|(simp[*];done)),H',⟨by first|omega|exact Nat.le_refl _⟩,⟨wZ HB⟩⟩
  ·replace c7:=Bool.eq_false_iff.mpr c7;subst c7;rw[if_neg (show¬(false=true) by decide)]at H;have H':=Asd.mk H;clear H;go_wp2_with (first|((with_reducible refine gate_callee (f:=59) rfl ?_);refine gB (some 12) Try.func59 #[.int .i64 a0,.slice A1 l1.length c1] rfl ?_;(with_reducible refine(spec_RankOk.calls k a0 _ _ l1 false _ ?side1 ?side2 A6.out).mono ?_);(case side1=>exact cZ (Kd.C_below bF.out HB.out));(case side2=>exact bH.out);rintro e w15 ⟨rfl,hb⟩;refine⟨_,rfl,?_⟩;replace HB:=bW HB hb;clear hb));go_meet
   case rel=>exact⟨_,(true),(by first|rfl|(simp;done)|(simp[*];done)),H',⟨by first|omega|exact Nat.le_refl _⟩,⟨wZ HB⟩⟩
 case rest=>
  clear cT;obtain⟨kq,aW,rfl,HA,ew,HB⟩:=hcut;cases kq with
  |zero=>exact absurd HA.out (by simp[spec_ChangedBy.j0])
  |succ kj4=>
   have H:=HA.out;clear HA;simp only[spec_ChangedBy.j0]at H;by_cases bo:aW=true
   ·subst bo;rw[if_pos rfl]at H;obtain⟨dM,bJ⟩:∃y_:List Int,y_=(([]:List Int)):=⟨_,rfl⟩;replace H:(some (dM,false))=some (r1,r2):=by first|(rw[bJ];exact H)|exact H
    have cw:=Asd.mk bJ;clear bJ;obtain⟨rfl,rfl⟩:=s2 H;go_wp2_with (first|((with_reducible refine gate_dst (N:=29) rfl ?_);refine Kd.R_lit (Kd.int .i64) _ 3 ?hg (N:=29) ?hd (xs:=([]:List Int)) (inner:=[]) (ok:=fun _=>True) (okp:=fun _=>True) ?hr ?hp (fun _ hk=>hk) trivial (Below.refl _ _) (Nat.le_refl _) (by simp) ?_;(case hd=>rfl);(case hg=>rfl);(case hr=>first|(go_simp;done)|(go_simp;rfl));(case hp=>exact(Reps.none _ _));intro et w17 bg hb ar ab;clear ar ab;(first|rw[←cw.out]at bg|(simp only[Int.reduceToNat]at bg;rw[←cw.out]at bg));have cU:=Asd.mk (Kd.R_lower bg (below_size (wZ HB)));replace HB:=bW HB hb;clear hb bg));go_ret2;exact⟨_,by first|rfl|(simp[*,errW_none,errW_some]<;>rfl),by(repeat apply Kd.RS);exact cU.out,wZ HB⟩
   ·replace bo:=Bool.eq_false_iff.mpr bo;subst bo;rw[if_neg (show¬(false=true) by decide)]at H;rcases iT H with⟨bV,H⟩|⟨bV,H⟩
    ·have cV:(a2==0)=true:=beq_iff_eq.mpr bV;have cW:(a2 !=0)=false:=bne_eq_false_iff_eq.mpr bV;clear bV;obtain⟨bc,ed,H⟩:=bE H;try dsimp only at H
     obtain⟨cu,ee,H⟩:=bE H;try dsimp only at H
     obtain⟨rfl,rfl⟩:=s2 H;go_wp2_with (first|((with_reducible refine gate_callee (f:=134) rfl ?_);refine gB (some 35) Try.func134 #[.slice A1 l1.length c1,.int .i64 a3] rfl ?_;(with_reducible refine(spec_l2Least.calls kj4 _ _ l1 a3 bc _ ?side1 ?side2 ed.out).mono ?_);(case side1=>exact cZ (Kd.C_below bF.out HB.out));(case side2=>exact bH.out);rintro e ey ⟨rfl,hb⟩;refine⟨_,rfl,?_⟩;replace HB:=bW HB hb;clear hb)|((with_reducible refine gate_callee (f:=133) rfl ?_);refine gB (some 36) Try.func133 #[.slice A1 l1.length c1,.int .i64 bc] rfl ?_;(with_reducible refine(spec_l6Rise.calls kj4 _ _ l1 bc cu _ ?side1 ?side2 ee.out).mono ?_);(case side1=>exact cZ (Kd.C_below bF.out HB.out));(case side2=>exact bH.out);rintro e ez ⟨eu,rfl,aV,hb⟩;refine⟨_,rfl,?_⟩;have cX:=Asd.mk (Kd.R_lower aV (below_size (wZ HB)));replace HB:=bW HB hb;clear hb;(try clear aV)));go_ret2;exact⟨_,by first|rfl|(simp[*,errW_none,errW_some]<;>rfl),by(repeat apply Kd.RS);exact cX.out,wZ HB⟩
    ·have cV:(a2==0)=false:=beq_eq_false_iff_ne.mpr bV;have cW:(a2 !=0)=true:=bne_iff_ne.mpr bV;obtain⟨cv,ef,H⟩:=bE H;try dsimp only at H
     obtain⟨rfl,rfl⟩:=s2 H;go_wp2_with (first|((with_reducible refine gate_callee (f:=133) rfl ?_);refine gB (some 39) Try.func133 #[.slice A1 l1.length c1,.int .i64 a3] rfl ?_;(with_reducible refine(spec_l6Rise.calls kj4 _ _ l1 a3 cv _ ?side1 ?side2 ef.out).mono ?_);(case side1=>exact cZ (Kd.C_below bF.out HB.out));(case side2=>exact bH.out);rintro e eA ⟨ev,rfl,aV,hb⟩;refine⟨_,rfl,?_⟩;have cY:=Asd.mk (Kd.R_lower aV (below_size (wZ HB)));replace HB:=bW HB hb;clear hb;(try clear aV)));go_ret2;exact⟨_,by first|rfl|(simp[*,errW_none,errW_some]<;>rfl),by(repeat apply Kd.RS);exact cY.out,wZ HB⟩

end Go.Proofs.Ytihgpkohglcijaa.P
