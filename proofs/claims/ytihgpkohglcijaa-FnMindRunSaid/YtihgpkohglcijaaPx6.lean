-- Written by a program of this session (wip/hook.py), which runs the kit's printer; Lean checks it.
import Derived.Test.YtihgpkohglcijaaPx0
import Derived.Test.YtihgpkohglcijaaPx2
namespace Go.Proofs.Ytihgpkohglcijaa.P
open Go.RowKit Go.Proofs.YtihgpkohglcijaaW.PrintWords Go.Proofs.YtihgpkohglcijaaW.PrintLast Go.Proofs.YtihgpkohglcijaaW.PrintMore
attribute [local go_sem] max2_int min2_int max_two min_two max_three min_three max_four min_four   -- for this text's walks alone
set_option linter.unusedVariables false
set_option linter.unusedSimpArgs false

/-! ### spec_SameOrder: function 109 -/
mutual
def spec_SameOrder.j0:Nat→Int→List Int→List Int→Bool→Option (Bool)
 |0,_,_,_,_=>none
 |k+1,x0,x1,x2,x19=>if x19=true then(some false)else((spec_TidyRank.f k x0 x1).bind fun I=>((spec_TidyRank.f k x0 x2).bind fun J=>(spec_SameOrder.l0 k I J 0)))
def spec_SameOrder.l0:Nat→List Int→List Int→Int→Option (Bool)
 |0,_,_,_=>none
 |k+1,x7,x8,x9=>if x9<(x7.length:Int)then(if 0≤x9 then(if x9<(x8.length:Int)then(if(rd x7 x9)=(rd x8 x9)then(spec_SameOrder.l0 k x7 x8 (wrap64 (x9+1)))else(some false))else(none))else(none))else(some true)
end
def spec_SameOrder.f (k:Nat) (a0:Int) (l1:List Int) (l2:List Int):Option (Bool):=(spec_RankOk.f k a0 l1).bind fun ak=>(if ak=true then((spec_RankOk.f k a0 l2).bind fun ab=>(spec_SameOrder.j0 k a0 l1 l2 (!ab)))else(spec_SameOrder.j0 k a0 l1 l2 true))
theorem spec_SameOrder.mono_l:∀k,(∀y0 y1 y2 y3,LeO (spec_SameOrder.j0 k y0 y1 y2 y3) (spec_SameOrder.j0 (k+1) y0 y1 y2 y3))∧(∀y0 y1 y2,LeO (spec_SameOrder.l0 k y0 y1 y2) (spec_SameOrder.l0 (k+1) y0 y1 y2))
 |0=>⟨fun _ _ _ _ r h=>by simp[spec_SameOrder.j0]at h,fun _ _ _ r h=>by simp[spec_SameOrder.l0]at h⟩
 |k+1=>by
  obtain⟨aA,aB⟩:=spec_SameOrder.mono_l k;refine⟨?_,?_⟩
  ·intro y0 y1 y2 y3;unfold spec_SameOrder.j0;repeat' first
   |(with_reducible first|exact aA _ _ _ _|exact aB _ _ _|exact spec_RankOk.mono _ _ _|exact spec_TidyRank.mono _ _ _|exact LeO.refl _|exact LeO.none _|refine LeO.ite ?_ ?_|refine LeO.bind ?_ (fun _=>?_))
   |refine LeO.ite ?_ ?_
   |refine LeO.bind ?_ (fun _=>?_)
  ·intro y0 y1 y2;unfold spec_SameOrder.l0;repeat' first
   |(with_reducible first|exact aA _ _ _ _|exact aB _ _ _|exact spec_RankOk.mono _ _ _|exact spec_TidyRank.mono _ _ _|exact LeO.refl _|exact LeO.none _|refine LeO.ite ?_ ?_|refine LeO.bind ?_ (fun _=>?_))
   |refine LeO.ite ?_ ?_
   |refine LeO.bind ?_ (fun _=>?_)
theorem spec_SameOrder.mono:∀a0 a1 a2 k,LeO (spec_SameOrder.f k a0 a1 a2) (spec_SameOrder.f (k+1) a0 a1 a2):=by
 intro a0 a1 a2 k;obtain⟨aA,aB⟩:=spec_SameOrder.mono_l k;unfold spec_SameOrder.f
 repeat' first
   |(with_reducible first|exact aA _ _ _ _|exact aB _ _ _|exact spec_RankOk.mono _ _ _|exact spec_TidyRank.mono _ _ _|exact LeO.refl _|exact LeO.none _|refine LeO.ite ?_ ?_|refine LeO.bind ?_ (fun _=>?_))
   |refine LeO.ite ?_ ?_
   |refine LeO.bind ?_ (fun _=>?_)
set_option maxHeartbeats 8000000 in
set_option maxRecDepth 100000 in
theorem spec_SameOrder.calls (k:Nat) (a0:Int) (A1:Option Addr) (c1:Nat) (l1:List Int) (A2:Option Addr) (c2:Nat) (l2:List Int) (r:Bool) (w:World) (aL:Kd.C (Kd.int .i64) w A1 l1.length l1) (aM:l1.length≤c1) (aN:Kd.C (Kd.int .i64) w A2 l2.length l2) (aO:l2.length≤c2) (h:spec_SameOrder.f k a0 l1 l2=some r):
  Calls Try.prog 109 #[.int .i64 a0,.slice A1 l1.length c1,.slice A2 l2.length c2] w fun e w'=>e= .returned (.bool r)∧Below w.heap.size w w':=by
 have ah:=Asd.mk aL;have ai:=Asd.mk aM;clear aL aM;have aq:=Asd.mk aN;have ar:=Asd.mk aO;clear aN aO;have HB:=Asd.mk (Below.refl w.heap.size w);have H:((spec_RankOk.f k a0 l1).bind fun ak=>(if ak=true then((spec_RankOk.f k a0 l2).bind fun ab=>(spec_SameOrder.j0 k a0 l1 l2 (!ab)))else(spec_SameOrder.j0 k a0 l1 l2 true)))=some r:=h;clear h;have aD:=Asd.mk H;clear H;go_enter Try.func109,Try.ntmps109;go_upto_region 1 with(fail)
 repeat(go_quiet (fail);go_upto_region 1 with(fail))
 go_cut [19] (fun aZ wc=>∃(kq:Nat) (aj:Bool),aZ= .bool aj∧Asd (spec_SameOrder.j0 kq a0 l1 l2 aj=some r)∧Asd (kq≤k)∧Asd (Below w.heap.size w wc))
 case first=>
  have H:=aD.out;clear aD;obtain⟨ak,A5,H⟩:=bE H;try dsimp only at H
  by_cases c6:ak=true
  ·subst c6;rw[if_pos rfl]at H;obtain⟨ab,A7,H⟩:=bE H;try dsimp only at H
   have H':=Asd.mk H;clear H;go_wp2_with (first|(go_at_call 59;(with_reducible refine(spec_RankOk.calls k a0 _ _ l1 true _ ?side1 ?side2 A5.out).mono ?_);(case side1=>exact cZ (Kd.C_below ah.out HB.out));(case side2=>exact ai.out);rintro e w8 ⟨rfl,hb⟩;replace HB:=bW HB hb;clear hb)|(go_at_call 59;(with_reducible refine(spec_RankOk.calls k a0 _ _ l2 ab _ ?side1 ?side2 A7.out).mono ?_);(case side1=>exact cZ (Kd.C_below aq.out HB.out));(case side2=>exact ar.out);rintro e w9 ⟨rfl,hb⟩;replace HB:=bW HB hb;clear hb));repeat(go_quiet (first|(go_at_call 59;(with_reducible refine(spec_RankOk.calls k a0 _ _ l1 true _ ?side1 ?side2 A5.out).mono ?_);(case side1=>exact cZ (Kd.C_below ah.out HB.out));(case side2=>exact ai.out);rintro e w8 ⟨rfl,hb⟩;replace HB:=bW HB hb;clear hb)|(go_at_call 59;(with_reducible refine(spec_RankOk.calls k a0 _ _ l2 ab _ ?side1 ?side2 A7.out).mono ?_);(case side1=>exact cZ (Kd.C_below aq.out HB.out));(case side2=>exact ar.out);rintro e w9 ⟨rfl,hb⟩;replace HB:=bW HB hb;clear hb));try go_wp2_with (first|(go_at_call 59;(with_reducible refine(spec_RankOk.calls k a0 _ _ l1 true _ ?side1 ?side2 A5.out).mono ?_);(case side1=>exact cZ (Kd.C_below ah.out HB.out));(case side2=>exact ai.out);rintro e w8 ⟨rfl,hb⟩;replace HB:=bW HB hb;clear hb)|(go_at_call 59;(with_reducible refine(spec_RankOk.calls k a0 _ _ l2 ab _ ?side1 ?side2 A7.out).mono ?_);(case side1=>exact cZ (Kd.C_below aq.out HB.out));(case side2=>exact ar.out);rintro e w9 ⟨rfl,hb⟩;replace HB:=bW HB hb;clear hb)))
   go_meet
   case rel=>exact⟨_,(!ab),(by first|rfl|(simp;done)|(simp[*];done)),H',⟨by first|omega|exact Nat.le_refl _⟩,⟨wZ HB⟩⟩
  ·replace c6:=Bool.eq_false_iff.mpr c6;subst c6;rw[if_neg (show¬(false=true) by decide)]at H;have H':=Asd.mk H;clear H;go_wp2_with (first|(go_at_call 59;(with_reducible refine(spec_RankOk.calls k a0 _ _ l1 false _ ?side1 ?side2 A5.out).mono ?_);(case side1=>exact cZ (Kd.C_below ah.out HB.out));(case side2=>exact ai.out);rintro e w10 ⟨rfl,hb⟩;replace HB:=bW HB hb;clear hb));repeat(go_quiet (first|(go_at_call 59;(with_reducible refine(spec_RankOk.calls k a0 _ _ l1 false _ ?side1 ?side2 A5.out).mono ?_);(case side1=>exact cZ (Kd.C_below ah.out HB.out));(case side2=>exact ai.out);rintro e w10 ⟨rfl,hb⟩;replace HB:=bW HB hb;clear hb));try go_wp2_with (first|(go_at_call 59;(with_reducible refine(spec_RankOk.calls k a0 _ _ l1 false _ ?side1 ?side2 A5.out).mono ?_);(case side1=>exact cZ (Kd.C_below ah.out HB.out));(case side2=>exact ai.out);rintro e w10 ⟨rfl,hb⟩;replace HB:=bW HB hb;clear hb)))
   go_meet
   case rel=>exact⟨_,(true),(by first|rfl|(simp;done)|(simp[*];done)),H',⟨by first|omega|exact Nat.le_refl _⟩,⟨wZ HB⟩⟩
 case rest=>
  clear aD;obtain⟨kq,aj,rfl,HA,aP,HB⟩:=hcut;cases kq with
  |zero=>exact absurd HA.out (by simp[spec_SameOrder.j0])
  |succ kj3=>
   have H:=HA.out;clear HA;simp only[spec_SameOrder.j0]at H;by_cases aC:aj=true
   ·subst aC;rw[if_pos rfl]at H;obtain rfl:=Option.some.inj H;go_wp2;repeat(go_quiet (fail);try go_wp2)
    go_ret;exact⟨by first|rfl|(simp[*,errW_none,errW_some]<;>rfl),wZ HB⟩
   ·replace aC:=Bool.eq_false_iff.mpr aC;subst aC;rw[if_neg (show¬(false=true) by decide)]at H;obtain⟨I,aE,H⟩:=bE H;try dsimp only at H
    obtain⟨J,aF,H⟩:=bE H;try dsimp only at H
    have H':=Asd.mk H;clear H;go_wp2_with (first|(go_at_call 89;(with_reducible refine(spec_TidyRank.calls kj3 a0 _ _ l1 I _ ?side1 ?side2 aE.out).mono ?_);(case side1=>exact cZ (Kd.C_below ah.out HB.out));(case side2=>exact ai.out);rintro e w14 ⟨an,rfl,aa,hb⟩;have o:=Asd.mk (Kd.R_lower aa (below_size (wZ HB)));replace HB:=bW HB hb;clear hb;(try clear aa))|(go_at_call 89;(with_reducible refine(spec_TidyRank.calls kj3 a0 _ _ l2 J _ ?side1 ?side2 aF.out).mono ?_);(case side1=>exact cZ (Kd.C_below aq.out HB.out));(case side2=>exact ar.out);rintro e w15 ⟨ao,rfl,aa,hb⟩;have al:=Asd.mk (Kd.R_lower (Kd.R_new' aa (Kd.R_lt (rS o))) (below_size (wZ HB)));replace o:=Asd.mk (Kd.R_elder' (rS o) (Kd.R_base aa) hb);replace HB:=bW HB hb;clear hb;(try clear aa)));repeat(go_quiet (first|(go_at_call 89;(with_reducible refine(spec_TidyRank.calls kj3 a0 _ _ l1 I _ ?side1 ?side2 aE.out).mono ?_);(case side1=>exact cZ (Kd.C_below ah.out HB.out));(case side2=>exact ai.out);rintro e w14 ⟨an,rfl,aa,hb⟩;have o:=Asd.mk (Kd.R_lower aa (below_size (wZ HB)));replace HB:=bW HB hb;clear hb;(try clear aa))|(go_at_call 89;(with_reducible refine(spec_TidyRank.calls kj3 a0 _ _ l2 J _ ?side1 ?side2 aF.out).mono ?_);(case side1=>exact cZ (Kd.C_below aq.out HB.out));(case side2=>exact ar.out);rintro e w15 ⟨ao,rfl,aa,hb⟩;have al:=Asd.mk (Kd.R_lower (Kd.R_new' aa (Kd.R_lt (rS o))) (below_size (wZ HB)));replace o:=Asd.mk (Kd.R_elder' (rS o) (Kd.R_base aa) hb);replace HB:=bW HB hb;clear hb;(try clear aa)));try go_wp2_with (first|(go_at_call 89;(with_reducible refine(spec_TidyRank.calls kj3 a0 _ _ l1 I _ ?side1 ?side2 aE.out).mono ?_);(case side1=>exact cZ (Kd.C_below ah.out HB.out));(case side2=>exact ai.out);rintro e w14 ⟨an,rfl,aa,hb⟩;have o:=Asd.mk (Kd.R_lower aa (below_size (wZ HB)));replace HB:=bW HB hb;clear hb;(try clear aa))|(go_at_call 89;(with_reducible refine(spec_TidyRank.calls kj3 a0 _ _ l2 J _ ?side1 ?side2 aF.out).mono ?_);(case side1=>exact cZ (Kd.C_below aq.out HB.out));(case side2=>exact ar.out);rintro e w15 ⟨ao,rfl,aa,hb⟩;have al:=Asd.mk (Kd.R_lower (Kd.R_new' aa (Kd.R_lt (rS o))) (below_size (wZ HB)));replace o:=Asd.mk (Kd.R_elder' (rS o) (Kd.R_base aa) hb);replace HB:=bW HB hb;clear hb;(try clear aa))))
    go_loopg [9] kj3 (fun kq v9 w'=>∃(j:Int),v9= .int .i64 j∧Asd (spec_SameOrder.l0 kq I J j=some r)∧Asd (kq≤kj3)∧Asd (Kd.R (Kd.int .i64) 3 w' w.heap.size (fun k_=>some k_≠(ao:Value).ownBlock) an I)∧Asd (Kd.R (Kd.int .i64) 3 w' w.heap.size (fun k_=>some k_≠(an:Value).ownBlock) ao J)∧Asd (Below w.heap.size w w'))
    case atStart=>exact⟨(0),(by first|rfl|(simp;done)|(simp[*];done)),H',⟨Nat.le_refl _⟩,⟨by(repeat apply Kd.RS);exact Kd.R_mono o.out (fun _ hk=>hk.2)⟩,⟨by(repeat apply Kd.RS);exact Kd.R_mono al.out (fun _ hk=>hk.2)⟩,⟨wZ HB⟩⟩
    case round=>
     clear H';obtain⟨j,rfl,HA,aQ,HO_7,HO_8,HB⟩:=hrel;cases gk with
     |zero=>exact absurd HA.out (by simp[spec_SameOrder.l0])
     |succ k2=>
      have H:=HA.out;clear HA;simp only[spec_SameOrder.l0]at H;rcases iT H with⟨av,H⟩|⟨av,H⟩
      ·have aG:=decide_eq_true av;clear av;obtain⟨aR,H⟩:=iN H;have a6:=decide_eq_true aR;clear aR;obtain⟨aS,H⟩:=iN H;have a7:=decide_eq_true aS;clear aS;rcases iT H with⟨au,H⟩|⟨au,H⟩
       ·have aH:((rd I j)==(rd J j))=true:=beq_iff_eq.mpr au;have aI:((rd I j) !=(rd J j))=false:=bne_eq_false_iff_eq.mpr au;clear au;have H':=Asd.mk H;clear H;obtain⟨a8,ba,aT⟩:=Kd.R_slice HO_7.out;subst aT;have ad:0≤(j:Int):=odt;have ae:j<(I.length:Int):=odt;obtain⟨aJ,aw,ax⟩:=Kd.at_int (Kd.R_reads' HO_7.out).2.2 j ad ae;cases aw;replace ad:=eq_true ad;replace ae:=eq_true ae;obtain⟨bb,bc,aU⟩:=Kd.R_slice HO_8.out;subst aU;have af:0≤(j:Int):=odt;have ag:j<(J.length:Int):=odt;obtain⟨aK,ay,az⟩:=Kd.at_int (Kd.R_reads' HO_8.out).2.2 j af ag;cases ay;replace af:=eq_true af;replace ag:=eq_true ag;go_wp2;repeat(go_quiet (fail);try go_wp2)
        go_roundg k2
        case measure=>have:=aP.out;have:=aQ.out;omega
        case rel=>exact⟨(wrap64 (j+1)),(by first|rfl|(simp;done)|(simp[*];done)),H',⟨by have:=aP.out;have:=aQ.out;omega⟩,⟨by(repeat apply Kd.RS);exact HO_7.out⟩,⟨by(repeat apply Kd.RS);exact HO_8.out⟩,⟨wZ HB⟩⟩
       ·have aH:((rd I j)==(rd J j))=false:=beq_eq_false_iff_ne.mpr au;have aI:((rd I j) !=(rd J j))=true:=bne_iff_ne.mpr au;obtain rfl:=Option.some.inj H;obtain⟨bd,bf,aV⟩:=Kd.R_slice HO_7.out;subst aV;have ad:0≤(j:Int):=odt;have ae:j<(I.length:Int):=odt;obtain⟨aJ,aw,ax⟩:=Kd.at_int (Kd.R_reads' HO_7.out).2.2 j ad ae;cases aw;replace ad:=eq_true ad;replace ae:=eq_true ae;obtain⟨bg,bh,aW⟩:=Kd.R_slice HO_8.out;subst aW;have af:0≤(j:Int):=odt;have ag:j<(J.length:Int):=odt;obtain⟨aK,ay,az⟩:=Kd.at_int (Kd.R_reads' HO_8.out).2.2 j af ag;cases ay;replace af:=eq_true af;replace ag:=eq_true ag;go_wp2;repeat(go_quiet (fail);try go_wp2)
        go_ret;exact⟨by first|rfl|(simp[*,errW_none,errW_some]<;>rfl),wZ HB⟩
      ·have aG:=decide_eq_false av;clear av;obtain rfl:=Option.some.inj H;obtain⟨bj,bk,aY⟩:=Kd.R_slice HO_7.out;subst aY;go_wp2;repeat(go_quiet (fail);try go_wp2)
       go_ret;exact⟨by first|rfl|(simp[*,errW_none,errW_some]<;>rfl),wZ HB⟩

end Go.Proofs.Ytihgpkohglcijaa.P
