import Derived.Test.YtihgpkohglcijaaGreatDoorPx0
import Derived.Test.YtihgpkohglcijaaGreatDoorPx15
namespace Go.Proofs.YtihgpkohglcijaaGreatDoor.P
open Go.RowKit Go.Proofs.YtihgpkohglcijaaGreatDoorW.PrintWords Go.Proofs.YtihgpkohglcijaaGreatDoorW.PrintLast Go.Proofs.YtihgpkohglcijaaGreatDoorW.PrintMore
attribute [local go_sem] max2_int min2_int max_two min_two max_three min_three max_four min_four   -- for this text's walks alone
set_option linter.unusedVariables false
set_option linter.unusedSimpArgs false
set_option maxHeartbeats 8000000
set_option maxRecDepth 100000
mutual
def kJ.j0:Nat→Int→List Int→List Int→Bool→Option (Bool)
 |0,_,_,_,_=>none
 |k+1,x0,x1,x2,x19=>if x19=true then(some false)else((jP.f k x0 x1).bind fun I=>((jP.f k x0 x2).bind fun J=>(kJ.l0 k I J 0)))
def kJ.l0:Nat→List Int→List Int→Int→Option (Bool)
 |0,_,_,_=>none
 |k+1,x7,x8,x9=>if x9<(x7.length:Int)then(if 0≤x9 then(if x9<(x8.length:Int)then(if(rd x7 x9)=(rd x8 x9)then(kJ.l0 k x7 x8 (wrap64 (x9+1)))else(some false))else(none))else(none))else(some true)
end
def kJ.f (k:Nat) (a0:Int) (l1:List Int) (l2:List Int):Option (Bool):=(kc.f k a0 l1).bind fun ak=>(if ak=true then((kc.f k a0 l2).bind fun ab=>(kJ.j0 k a0 l1 l2 (!ab)))else(kJ.j0 k a0 l1 l2 true))
theorem kJ.jQ:∀k,(∀y0 y1 y2 y3,qg (kJ.j0 k y0 y1 y2 y3) (kJ.j0 (k+1) y0 y1 y2 y3))∧(∀y0 y1 y2,qg (kJ.l0 k y0 y1 y2) (kJ.l0 (k+1) y0 y1 y2))
 |0=>⟨fun _ _ _ _=> .z (by simp only[kJ.j0]),fun _ _ _=> .z (by simp only[kJ.l0])⟩
 |k+1=>by
  have⟨i0,i1⟩:=kJ.jQ k;exact⟨fun _ _ _ _=>by unfold kJ.j0;infer_instance,fun _ _ _=>by unfold kJ.l0;infer_instance⟩
instance kJ.mo {k a0 a1 a2}:qg (kJ.f k a0 a1 a2) (kJ.f (k+1) a0 a1 a2):=by have⟨i0,i1⟩:=kJ.jQ k;unfold kJ.f;infer_instance
theorem kJ.calls (k:Nat) (a0:Int) (A1:Option Addr) (c1:Nat) (l1:List Int) (A2:Option Addr) (c2:Nat) (l2:List Int) (r:Bool) (w:World) (aJ:Kd.C (Kd.int .i64) w A1 l1.length l1) (aK:l1.length≤c1) (aL:Kd.C (Kd.int .i64) w A2 l2.length l2) (aM:l2.length≤c2) (h:kJ.f k a0 l1 l2=some r):
  Calls Tryz.prog 102 #[.int .i64 a0,.slice A1 l1.length c1,.slice A2 l2.length c2] w fun e w'=>e= .returned (.bool r)∧Below w.heap.size w w':=by
 have ah:=bm aJ;have ai:=bm aK;clear aJ aK;have aq:=bm aL;have ar:=bm aM;clear aL aM;have HB:=bm (Below.refl w.heap.size w);have H:=h;clear h;unfold kJ.f at H;have aB:=bm H;clear H;go_enter Tryz.func102,Tryz.ntmps102;go_upto_region 1 with(fail)
 repeat(go_quiet (fail);go_upto_region 1 with(fail))
 go_cut [19] (fun a6 wc=>∃(kq:Nat) (aj:Bool),a6= .bool aj∧jX (kJ.j0 kq a0 l1 l2 aj=some r)∧jX (kq≤k)∧jX (Below w.heap.size w wc))
 case first=>
  have H:=aB.out;clear aB;obtain⟨ak,A5,H⟩:=bE H;try dsimp only at H
  by_cases c6:ak=true
  ·subst c6;rw[if_pos rfl]at H;obtain⟨ab,A7,H⟩:=bE H;try dsimp only at H
   have H':=bm H;clear H;go_wp2_with (first|(go_at_call 103;(with_reducible refine(kc.calls k a0 _ _ l1 true _ ?_ ?_ A5.out).mono ?_);exact cY ah HB;exact ai.out;rintro e w8 ⟨rfl,hb⟩;replace HB:=bW HB hb;clear hb)|(go_at_call 103;(with_reducible refine(kc.calls k a0 _ _ l2 ab _ ?_ ?_ A7.out).mono ?_);exact cY aq HB;exact ar.out;rintro e w9 ⟨rfl,hb⟩;replace HB:=bW HB hb;clear hb));repeat(go_quiet (first|(go_at_call 103;(with_reducible refine(kc.calls k a0 _ _ l1 true _ ?_ ?_ A5.out).mono ?_);exact cY ah HB;exact ai.out;rintro e w8 ⟨rfl,hb⟩;replace HB:=bW HB hb;clear hb)|(go_at_call 103;(with_reducible refine(kc.calls k a0 _ _ l2 ab _ ?_ ?_ A7.out).mono ?_);exact cY aq HB;exact ar.out;rintro e w9 ⟨rfl,hb⟩;replace HB:=bW HB hb;clear hb));try go_wp2_with (first|(go_at_call 103;(with_reducible refine(kc.calls k a0 _ _ l1 true _ ?_ ?_ A5.out).mono ?_);exact cY ah HB;exact ai.out;rintro e w8 ⟨rfl,hb⟩;replace HB:=bW HB hb;clear hb)|(go_at_call 103;(with_reducible refine(kc.calls k a0 _ _ l2 ab _ ?_ ?_ A7.out).mono ?_);exact cY aq HB;exact ar.out;rintro e w9 ⟨rfl,hb⟩;replace HB:=bW HB hb;clear hb)))
   go_meet
   case rel=>exact⟨_,(!ab),(by first|rfl|(simp;done)|(simp[*];done)),H',⟨by first|omega|exact Nat.le_refl _⟩,⟨wZ HB⟩⟩
  ·replace c6:=uZ c6;subst c6;rw[if_neg vM]at H;have H':=bm H;clear H;go_wp2_with (first|(go_at_call 103;(with_reducible refine(kc.calls k a0 _ _ l1 false _ ?_ ?_ A5.out).mono ?_);exact cY ah HB;exact ai.out;rintro e aN ⟨rfl,hb⟩;replace HB:=bW HB hb;clear hb));repeat(go_quiet (first|(go_at_call 103;(with_reducible refine(kc.calls k a0 _ _ l1 false _ ?_ ?_ A5.out).mono ?_);exact cY ah HB;exact ai.out;rintro e aN ⟨rfl,hb⟩;replace HB:=bW HB hb;clear hb));try go_wp2_with (first|(go_at_call 103;(with_reducible refine(kc.calls k a0 _ _ l1 false _ ?_ ?_ A5.out).mono ?_);exact cY ah HB;exact ai.out;rintro e aN ⟨rfl,hb⟩;replace HB:=bW HB hb;clear hb)))
   go_meet
   case rel=>exact⟨_,(true),(by first|rfl|(simp;done)|(simp[*];done)),H',⟨by first|omega|exact Nat.le_refl _⟩,⟨wZ HB⟩⟩
 case rest=>
  clear aB;obtain⟨kq,aj,rfl,HA,aO,HB⟩:=hcut;cases kq with
  |zero=>exact absurd HA.out (by simp[kJ.j0])
  |succ xQ=>
   have H:=HA.out;clear HA;simp only[kJ.j0]at H;by_cases aA:aj=true
   ·subst aA;rw[if_pos rfl]at H;obtain rfl:=vU H;go_wp2;repeat(go_quiet (fail);try go_wp2)
    go_ret;exact vZ HB
   ·replace aA:=uZ aA;subst aA;rw[if_neg vM]at H;obtain⟨I,aC,H⟩:=bE H;try dsimp only at H
    obtain⟨J,aD,H⟩:=bE H;try dsimp only at H
    have H':=bm H;clear H;go_wp2_with (first|(go_at_call 114;(with_reducible refine(jP.calls xQ a0 _ _ l1 I _ ?_ ?_ aC.out).mono ?_);exact cY ah HB;exact ai.out;rintro e aP ⟨an,rfl,aa,hb⟩;have o:=vX aa HB;replace HB:=bW HB hb;clear hb;(try clear aa))|(go_at_call 114;(with_reducible refine(jP.calls xQ a0 _ _ l2 J _ ?_ ?_ aD.out).mono ?_);exact cY aq HB;exact ar.out;rintro e aQ ⟨ao,rfl,aa,hb⟩;have al:=bm (Kd.R_lower (Kd.R_new' aa (Kd.R_lt (rS o))) (below_size (wZ HB)));replace o:=bm (Kd.R_elder' (rS o) (Kd.R_base aa) hb);replace HB:=bW HB hb;clear hb;(try clear aa)));repeat(go_quiet (first|(go_at_call 114;(with_reducible refine(jP.calls xQ a0 _ _ l1 I _ ?_ ?_ aC.out).mono ?_);exact cY ah HB;exact ai.out;rintro e aP ⟨an,rfl,aa,hb⟩;have o:=vX aa HB;replace HB:=bW HB hb;clear hb;(try clear aa))|(go_at_call 114;(with_reducible refine(jP.calls xQ a0 _ _ l2 J _ ?_ ?_ aD.out).mono ?_);exact cY aq HB;exact ar.out;rintro e aQ ⟨ao,rfl,aa,hb⟩;have al:=bm (Kd.R_lower (Kd.R_new' aa (Kd.R_lt (rS o))) (below_size (wZ HB)));replace o:=bm (Kd.R_elder' (rS o) (Kd.R_base aa) hb);replace HB:=bW HB hb;clear hb;(try clear aa)));try go_wp2_with (first|(go_at_call 114;(with_reducible refine(jP.calls xQ a0 _ _ l1 I _ ?_ ?_ aC.out).mono ?_);exact cY ah HB;exact ai.out;rintro e aP ⟨an,rfl,aa,hb⟩;have o:=vX aa HB;replace HB:=bW HB hb;clear hb;(try clear aa))|(go_at_call 114;(with_reducible refine(jP.calls xQ a0 _ _ l2 J _ ?_ ?_ aD.out).mono ?_);exact cY aq HB;exact ar.out;rintro e aQ ⟨ao,rfl,aa,hb⟩;have al:=bm (Kd.R_lower (Kd.R_new' aa (Kd.R_lt (rS o))) (below_size (wZ HB)));replace o:=bm (Kd.R_elder' (rS o) (Kd.R_base aa) hb);replace HB:=bW HB hb;clear hb;(try clear aa))))
    go_loopg [9] xQ (fun kq v9 w'=>∃(j:Int),v9= .int .i64 j∧jX (kJ.l0 kq I J j=some r)∧jX (kq≤xQ)∧jX (Kd.R (Kd.int .i64) 3 w' w.heap.size (fun k_=>some k_≠(ao:Value).ownBlock) an I)∧jX (Kd.R (Kd.int .i64) 3 w' w.heap.size (fun k_=>some k_≠(an:Value).ownBlock) ao J)∧jX (Below w.heap.size w w'))
    case atStart=>exact⟨(0),(by first|rfl|(simp;done)|(simp[*];done)),H',⟨Nat.le_refl _⟩,⟨by(repeat apply Kd.RS);exact Kd.R_mono o.out (fun _ hk=>hk.2)⟩,⟨by(repeat apply Kd.RS);exact Kd.R_mono al.out (fun _ hk=>hk.2)⟩,⟨wZ HB⟩⟩
    case round=>
     clear H';obtain⟨j,rfl,HA,aR,CN,DC,HB⟩:=hrel;cases gk with
     |zero=>exact absurd HA.out (by simp[kJ.l0])
     |succ k2=>
      have H:=HA.out;clear HA;simp only[kJ.l0]at H;rcases vG H with⟨aE,H⟩|⟨aE,H⟩
      ·obtain⟨a7,H⟩:=vE H;obtain⟨a8,H⟩:=vE H;rcases iT H with⟨au,H⟩|⟨au,H⟩
       ·obtain⟨aF,aG⟩:=vW au;clear au;have H':=bm H;clear H;obtain⟨ba,bb,aU⟩:=Kd.R_slice CN.out;subst aU;have ad:0≤(j:Int):=pG;have ae:j<(I.length:Int):=pG;obtain⟨aH,aw,ax⟩:=Kd.at_int (Kd.R_reads' CN.out).2.2 j ad ae;cases aw;replace ad:=vD ad;replace ae:=vD ae;obtain⟨bc,bd,aV⟩:=Kd.R_slice DC.out;subst aV;have af:0≤(j:Int):=pG;have ag:j<(J.length:Int):=pG;obtain⟨aI,ay,az⟩:=Kd.at_int (Kd.R_reads' DC.out).2.2 j af ag;cases ay;replace af:=vD af;replace ag:=vD ag;go_wp2;repeat(go_quiet (fail);try go_wp2)
        go_roundg k2
        case measure=>have:=aO.out;have:=aR.out;omega
        case rel=>exact⟨(wrap64 (j+1)),(by first|rfl|(simp;done)|(simp[*];done)),H',⟨by have:=aO.out;have:=aR.out;omega⟩,⟨by(repeat apply Kd.RS);exact CN.out⟩,⟨by(repeat apply Kd.RS);exact DC.out⟩,⟨wZ HB⟩⟩
       ·obtain⟨aF,aG⟩:=vV au;obtain rfl:=vU H;obtain⟨bf,bg,aW⟩:=Kd.R_slice CN.out;subst aW;have ad:0≤(j:Int):=pG;have ae:j<(I.length:Int):=pG;obtain⟨aH,aw,ax⟩:=Kd.at_int (Kd.R_reads' CN.out).2.2 j ad ae;cases aw;replace ad:=vD ad;replace ae:=vD ae;obtain⟨bh,bj,aY⟩:=Kd.R_slice DC.out;subst aY;have af:0≤(j:Int):=pG;have ag:j<(J.length:Int):=pG;obtain⟨aI,ay,az⟩:=Kd.at_int (Kd.R_reads' DC.out).2.2 j af ag;cases ay;replace af:=vD af;replace ag:=vD ag;go_wp2;repeat(go_quiet (fail);try go_wp2)
        go_ret;exact vZ HB
      ·obtain rfl:=vU H;obtain⟨bk,bl,aZ⟩:=Kd.R_slice CN.out;subst aZ;go_wp2;repeat(go_quiet (fail);try go_wp2)
       go_ret;exact vZ HB
end Go.Proofs.YtihgpkohglcijaaGreatDoor.P
