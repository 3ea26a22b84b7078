import Derived.Test.YtihgpkohglcijaaGreatDoorPx0
import Derived.Test.YtihgpkohglcijaaGreatDoorPx14
import Derived.Test.YtihgpkohglcijaaGreatDoorPx15
namespace Go.Proofs.YtihgpkohglcijaaGreatDoor.P
open Go.RowKit Go.Proofs.YtihgpkohglcijaaGreatDoorW.PrintWords Go.Proofs.YtihgpkohglcijaaGreatDoorW.PrintLast Go.Proofs.YtihgpkohglcijaaGreatDoorW.PrintMore
attribute [local go_sem] max2_int min2_int max_two min_two max_three min_three max_four min_four   -- for this text's walks alone
set_option linter.unusedVariables false
set_option linter.unusedSimpArgs false
set_option maxHeartbeats 8000000
set_option maxRecDepth 100000
mutual
def spec_SameOrder.j0:Nat→Int→List Int→List Int→Bool→Option (Bool)
 |0,_,_,_,_=>none
 |k+1,x0,x1,x2,x19=>if x19=true then(some false)else((spec_TidyRank.f k x0 x1).bind fun I=>((spec_TidyRank.f k x0 x2).bind fun J=>(spec_SameOrder.l0 k I J 0)))
def spec_SameOrder.l0:Nat→List Int→List Int→Int→Option (Bool)
 |0,_,_,_=>none
 |k+1,x7,x8,x9=>if x9<(x7.length:Int)then(if 0≤x9 then(if x9<(x8.length:Int)then(if(rd x7 x9)=(rd x8 x9)then(spec_SameOrder.l0 k x7 x8 (wrap64 (x9+1)))else(some false))else(none))else(none))else(some true)
end
def spec_SameOrder.f (k:Nat) (a0:Int) (l1:List Int) (l2:List Int):Option (Bool):=(spec_RankOk.f k a0 l1).bind fun ak=>(if ak=true then((spec_RankOk.f k a0 l2).bind fun ab=>(spec_SameOrder.j0 k a0 l1 l2 (!ab)))else(spec_SameOrder.j0 k a0 l1 l2 true))
theorem spec_SameOrder.mono_l:∀k,(∀y0 y1 y2 y3,MoR (spec_SameOrder.j0 k y0 y1 y2 y3) (spec_SameOrder.j0 (k+1) y0 y1 y2 y3))∧(∀y0 y1 y2,MoR (spec_SameOrder.l0 k y0 y1 y2) (spec_SameOrder.l0 (k+1) y0 y1 y2))
 |0=>⟨fun _ _ _ _=> .z (by simp only[spec_SameOrder.j0]),fun _ _ _=> .z (by simp only[spec_SameOrder.l0])⟩
 |k+1=>by
  have⟨i0,i1⟩:=spec_SameOrder.mono_l k;exact⟨fun _ _ _ _=>by unfold spec_SameOrder.j0;infer_instance,fun _ _ _=>by unfold spec_SameOrder.l0;infer_instance⟩
instance spec_SameOrder.mo {k a0 a1 a2}:MoR (spec_SameOrder.f k a0 a1 a2) (spec_SameOrder.f (k+1) a0 a1 a2):=by have⟨i0,i1⟩:=spec_SameOrder.mono_l k;unfold spec_SameOrder.f;infer_instance
theorem spec_SameOrder.calls (k:Nat) (a0:Int) (A1:Option Addr) (c1:Nat) (l1:List Int) (A2:Option Addr) (c2:Nat) (l2:List Int) (r:Bool) (w:World) (aJ:Kd.C (Kd.int .i64) w A1 l1.length l1) (aK:l1.length≤c1) (aL:Kd.C (Kd.int .i64) w A2 l2.length l2) (aM:l2.length≤c2) (h:spec_SameOrder.f k a0 l1 l2=some r):
  Calls Tryz.prog 102 #[.int .i64 a0,.slice A1 l1.length c1,.slice A2 l2.length c2] w fun e w'=>e= .returned (.bool r)∧Below w.heap.size w w':=by
 have ah:=Asd.mk aJ;have ai:=Asd.mk aK;clear aJ aK;have aq:=Asd.mk aL;have ar:=Asd.mk aM;clear aL aM;have HB:=Asd.mk (Below.refl w.heap.size w);have H:((spec_RankOk.f k a0 l1).bind fun ak=>(if ak=true then((spec_RankOk.f k a0 l2).bind fun ab=>(spec_SameOrder.j0 k a0 l1 l2 (!ab)))else(spec_SameOrder.j0 k a0 l1 l2 true)))=some r:=h;clear h;have aB:=Asd.mk H;clear H;go_enter Tryz.func102,Tryz.ntmps102;go_upto_region 1 with(fail)
 repeat(go_quiet (fail);go_upto_region 1 with(fail))
 go_cut [19] (fun a6 wc=>∃(kq:Nat) (aj:Bool),a6= .bool aj∧Asd (spec_SameOrder.j0 kq a0 l1 l2 aj=some r)∧Asd (kq≤k)∧Asd (Below w.heap.size w wc))
 case first=>
  have H:=aB.out;clear aB;obtain⟨ak,A5,H⟩:=bE H;try dsimp only at H
  by_cases c6:ak=true
  ·subst c6;rw[if_pos rfl]at H;obtain⟨ab,A7,H⟩:=bE H;try dsimp only at H
   have H':=Asd.mk H;clear H;go_wp2_with (first|(go_at_call 103;(with_reducible refine(spec_RankOk.calls k a0 _ _ l1 true _ ?side1 ?side2 A5.out).mono ?_);(case side1=>exact cY ah HB);(case side2=>exact ai.out);rintro e w8 ⟨rfl,hb⟩;replace HB:=bW HB hb;clear hb)|(go_at_call 103;(with_reducible refine(spec_RankOk.calls k a0 _ _ l2 ab _ ?side1 ?side2 A7.out).mono ?_);(case side1=>exact cY aq HB);(case side2=>exact ar.out);rintro e w9 ⟨rfl,hb⟩;replace HB:=bW HB hb;clear hb));repeat(go_quiet (first|(go_at_call 103;(with_reducible refine(spec_RankOk.calls k a0 _ _ l1 true _ ?side1 ?side2 A5.out).mono ?_);(case side1=>exact cY ah HB);(case side2=>exact ai.out);rintro e w8 ⟨rfl,hb⟩;replace HB:=bW HB hb;clear hb)|(go_at_call 103;(with_reducible refine(spec_RankOk.calls k a0 _ _ l2 ab _ ?side1 ?side2 A7.out).mono ?_);(case side1=>exact cY aq HB);(case side2=>exact ar.out);rintro e w9 ⟨rfl,hb⟩;replace HB:=bW HB hb;clear hb));try go_wp2_with (first|(go_at_call 103;(with_reducible refine(spec_RankOk.calls k a0 _ _ l1 true _ ?side1 ?side2 A5.out).mono ?_);(case side1=>exact cY ah HB);(case side2=>exact ai.out);rintro e w8 ⟨rfl,hb⟩;replace HB:=bW HB hb;clear hb)|(go_at_call 103;(with_reducible refine(spec_RankOk.calls k a0 _ _ l2 ab _ ?side1 ?side2 A7.out).mono ?_);(case side1=>exact cY aq HB);(case side2=>exact ar.out);rintro e w9 ⟨rfl,hb⟩;replace HB:=bW HB hb;clear hb)))
   go_meet
   case rel=>exact⟨_,(!ab),(by first|rfl|(simp;done)|(simp[*];done)),H',⟨by first|omega|exact Nat.le_refl _⟩,⟨wZ HB⟩⟩
  ·replace c6:=Bool.eq_false_iff.mpr c6;subst c6;rw[if_neg (show¬(false=true) by decide)]at H;have H':=Asd.mk H;clear H;go_wp2_with (first|(go_at_call 103;(with_reducible refine(spec_RankOk.calls k a0 _ _ l1 false _ ?side1 ?side2 A5.out).mono ?_);(case side1=>exact cY ah HB);(case side2=>exact ai.out);rintro e aN ⟨rfl,hb⟩;replace HB:=bW HB hb;clear hb));repeat(go_quiet (first|(go_at_call 103;(with_reducible refine(spec_RankOk.calls k a0 _ _ l1 false _ ?side1 ?side2 A5.out).mono ?_);(case side1=>exact cY ah HB);(case side2=>exact ai.out);rintro e aN ⟨rfl,hb⟩;replace HB:=bW HB hb;clear hb));try go_wp2_with (first|(go_at_call 103;(with_reducible refine(spec_RankOk.calls k a0 _ _ l1 false _ ?side1 ?side2 A5.out).mono ?_);(case side1=>exact cY ah HB);(case side2=>exact ai.out);rintro e aN ⟨rfl,hb⟩;replace HB:=bW HB hb;clear hb)))
   go_meet
   case rel=>exact⟨_,(true),(by first|rfl|(simp;done)|(simp[*];done)),H',⟨by first|omega|exact Nat.le_refl _⟩,⟨wZ HB⟩⟩
 case rest=>
  clear aB;obtain⟨kq,aj,rfl,HA,aO,HB⟩:=hcut;cases kq with
  |zero=>exact absurd HA.out (by simp[spec_SameOrder.j0])
  |succ kj3=>
   have H:=HA.out;clear HA;simp only[spec_SameOrder.j0]at H;by_cases aA:aj=true
   ·subst aA;rw[if_pos rfl]at H;obtain rfl:=Option.some.inj H;go_wp2;repeat(go_quiet (fail);try go_wp2)
    go_ret;exact⟨by first|rfl|(simp[*,errW_none,errW_some]<;>rfl),wZ HB⟩
   ·replace aA:=Bool.eq_false_iff.mpr aA;subst aA;rw[if_neg (show¬(false=true) by decide)]at H;obtain⟨I,aC,H⟩:=bE H;try dsimp only at H
    obtain⟨J,aD,H⟩:=bE H;try dsimp only at H
    have H':=Asd.mk H;clear H;go_wp2_with (first|(go_at_call 114;(with_reducible refine(spec_TidyRank.calls kj3 a0 _ _ l1 I _ ?side1 ?side2 aC.out).mono ?_);(case side1=>exact cY ah HB);(case side2=>exact ai.out);rintro e aP ⟨an,rfl,aa,hb⟩;have o:=Asd.mk (Kd.R_lower aa (below_size (wZ HB)));replace HB:=bW HB hb;clear hb;(try clear aa))|(go_at_call 114;(with_reducible refine(spec_TidyRank.calls kj3 a0 _ _ l2 J _ ?side1 ?side2 aD.out).mono ?_);(case side1=>exact cY aq HB);(case side2=>exact ar.out);rintro e aQ ⟨ao,rfl,aa,hb⟩;have al:=Asd.mk (Kd.R_lower (Kd.R_new' aa (Kd.R_lt (rS o))) (below_size (wZ HB)));replace o:=Asd.mk (Kd.R_elder' (rS o) (Kd.R_base aa) hb);replace HB:=bW HB hb;clear hb;(try clear aa)));repeat(go_quiet (first|(go_at_call 114;(with_reducible refine(spec_TidyRank.calls kj3 a0 _ _ l1 I _ ?side1 ?side2 aC.out).mono ?_);(case side1=>exact cY ah HB);(case side2=>exact ai.out);rintro e aP ⟨an,rfl,aa,hb⟩;have o:=Asd.mk (Kd.R_lower aa (below_size (wZ HB)));replace HB:=bW HB hb;clear hb;(try clear aa))|(go_at_call 114;(with_reducible refine(spec_TidyRank.calls kj3 a0 _ _ l2 J _ ?side1 ?side2 aD.out).mono ?_);(case side1=>exact cY aq HB);(case side2=>exact ar.out);rintro e aQ ⟨ao,rfl,aa,hb⟩;have al:=Asd.mk (Kd.R_lower (Kd.R_new' aa (Kd.R_lt (rS o))) (below_size (wZ HB)));replace o:=Asd.mk (Kd.R_elder' (rS o) (Kd.R_base aa) hb);replace HB:=bW HB hb;clear hb;(try clear aa)));try go_wp2_with (first|(go_at_call 114;(with_reducible refine(spec_TidyRank.calls kj3 a0 _ _ l1 I _ ?side1 ?side2 aC.out).mono ?_);(case side1=>exact cY ah HB);(case side2=>exact ai.out);rintro e aP ⟨an,rfl,aa,hb⟩;have o:=Asd.mk (Kd.R_lower aa (below_size (wZ HB)));replace HB:=bW HB hb;clear hb;(try clear aa))|(go_at_call 114;(with_reducible refine(spec_TidyRank.calls kj3 a0 _ _ l2 J _ ?side1 ?side2 aD.out).mono ?_);(case side1=>exact cY aq HB);(case side2=>exact ar.out);rintro e aQ ⟨ao,rfl,aa,hb⟩;have al:=Asd.mk (Kd.R_lower (Kd.R_new' aa (Kd.R_lt (rS o))) (below_size (wZ HB)));replace o:=Asd.mk (Kd.R_elder' (rS o) (Kd.R_base aa) hb);replace HB:=bW HB hb;clear hb;(try clear aa))))
    go_loopg [9] kj3 (fun kq v9 w'=>∃(j:Int),v9= .int .i64 j∧Asd (spec_SameOrder.l0 kq I J j=some r)∧Asd (kq≤kj3)∧Asd (Kd.R (Kd.int .i64) 3 w' w.heap.size (fun k_=>some k_≠(ao:Value).ownBlock) an I)∧Asd (Kd.R (Kd.int .i64) 3 w' w.heap.size (fun k_=>some k_≠(an:Value).ownBlock) ao J)∧Asd (Below w.heap.size w w'))
    case atStart=>exact⟨(0),(by first|rfl|(simp;done)|(simp[*];done)),H',⟨Nat.le_refl _⟩,⟨by(repeat apply Kd.RS);exact Kd.R_mono o.out (fun _ hk=>hk.2)⟩,⟨by(repeat apply Kd.RS);exact Kd.R_mono al.out (fun _ hk=>hk.2)⟩,⟨wZ HB⟩⟩
    case round=>
     clear H';obtain⟨j,rfl,HA,aR,HO_7,HO_8,HB⟩:=hrel;cases gk with
     |zero=>exact absurd HA.out (by simp[spec_SameOrder.l0])
     |succ k2=>
      have H:=HA.out;clear HA;simp only[spec_SameOrder.l0]at H;rcases iT H with⟨av,H⟩|⟨av,H⟩
      ·have aE:=decide_eq_true av;clear av;obtain⟨aS,H⟩:=iN H;have a7:=decide_eq_true aS;clear aS;obtain⟨aT,H⟩:=iN H;have a8:=decide_eq_true aT;clear aT;rcases iT H with⟨au,H⟩|⟨au,H⟩
       ·have aF:((rd I j)==(rd J j))=true:=beq_iff_eq.mpr au;have aG:((rd I j) !=(rd J j))=false:=bne_eq_false_iff_eq.mpr au;clear au;have H':=Asd.mk H;clear H;obtain⟨ba,bb,aU⟩:=Kd.R_slice HO_7.out;subst aU;have ad:0≤(j:Int):=odt;have ae:j<(I.length:Int):=odt;obtain⟨aH,aw,ax⟩:=Kd.at_int (Kd.R_reads' HO_7.out).2.2 j ad ae;cases aw;replace ad:=eq_true ad;replace ae:=eq_true ae;obtain⟨bc,bd,aV⟩:=Kd.R_slice HO_8.out;subst aV;have af:0≤(j:Int):=odt;have ag:j<(J.length:Int):=odt;obtain⟨aI,ay,az⟩:=Kd.at_int (Kd.R_reads' HO_8.out).2.2 j af ag;cases ay;replace af:=eq_true af;replace ag:=eq_true ag;go_wp2;repeat(go_quiet (fail);try go_wp2)
        go_roundg k2
        case measure=>have:=aO.out;have:=aR.out;omega
        case rel=>exact⟨(wrap64 (j+1)),(by first|rfl|(simp;done)|(simp[*];done)),H',⟨by have:=aO.out;have:=aR.out;omega⟩,⟨by(repeat apply Kd.RS);exact HO_7.out⟩,⟨by(repeat apply Kd.RS);exact HO_8.out⟩,⟨wZ HB⟩⟩
       ·have aF:((rd I j)==(rd J j))=false:=beq_eq_false_iff_ne.mpr au;have aG:((rd I j) !=(rd J j))=true:=bne_iff_ne.mpr au;obtain rfl:=Option.some.inj H;obtain⟨bf,bg,aW⟩:=Kd.R_slice HO_7.out;subst aW;have ad:0≤(j:Int):=odt;have ae:j<(I.length:Int):=odt;obtain⟨aH,aw,ax⟩:=Kd.at_int (Kd.R_reads' HO_7.out).2.2 j ad ae;cases aw;replace ad:=eq_true ad;replace ae:=eq_true ae;obtain⟨bh,bj,aY⟩:=Kd.R_slice HO_8.out;subst aY;have af:0≤(j:Int):=odt;have ag:j<(J.length:Int):=odt;obtain⟨aI,ay,az⟩:=Kd.at_int (Kd.R_reads' HO_8.out).2.2 j af ag;cases ay;replace af:=eq_true af;replace ag:=eq_true ag;go_wp2;repeat(go_quiet (fail);try go_wp2)
        go_ret;exact⟨by first|rfl|(simp[*,errW_none,errW_some]<;>rfl),wZ HB⟩
      ·have aE:=decide_eq_false av;clear av;obtain rfl:=Option.some.inj H;obtain⟨bk,bl,aZ⟩:=Kd.R_slice HO_7.out;subst aZ;go_wp2;repeat(go_quiet (fail);try go_wp2)
       go_ret;exact⟨by first|rfl|(simp[*,errW_none,errW_some]<;>rfl),wZ HB⟩
end Go.Proofs.YtihgpkohglcijaaGreatDoor.P
