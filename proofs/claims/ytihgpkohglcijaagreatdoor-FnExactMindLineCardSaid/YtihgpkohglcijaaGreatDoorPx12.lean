import Derived.Test.YtihgpkohglcijaaGreatDoorPx0
import Derived.Test.YtihgpkohglcijaaGreatDoorPx6
import Derived.Test.YtihgpkohglcijaaGreatDoorPx11
namespace Go.Proofs.YtihgpkohglcijaaGreatDoor.P
open Go.RowKit Go.Proofs.YtihgpkohglcijaaGreatDoorW.PrintWords Go.Proofs.YtihgpkohglcijaaGreatDoorW.PrintLast Go.Proofs.YtihgpkohglcijaaGreatDoorW.PrintMore
attribute [local go_sem] max2_int min2_int max_two min_two max_three min_three max_four min_four   -- for this text's walks alone
set_option linter.unusedVariables false
set_option linter.unusedSimpArgs false
set_option maxHeartbeats 8000000
set_option maxRecDepth 100000
def impl_NearestOf.j0:Nat→Int→Int→Int→Bool→Option (Int)
 |0,_,_,_,_=>none
 |k+1,x0,x1,x2,x16=>if x16=true then(some (-1))else(if x1=0 then(some x2)else((impl_farFrom.f k x0 x1).bind fun J=>((impl_revisedBy.f k x0 J x2).bind fun ab=>(some ab))))
def impl_NearestOf.f (k:Nat) (a0:Int) (a1:Int) (a2:Int):Option (Int):=(impl_isSet.f a0 a1).bind fun aa=>(if aa=true then((impl_isSet.f a0 a2).bind fun o=>(impl_NearestOf.j0 k a0 a1 a2 (!o)))else(impl_NearestOf.j0 k a0 a1 a2 true))
theorem impl_NearestOf.mono_l:∀k,(∀y0 y1 y2 y3,MoR (impl_NearestOf.j0 k y0 y1 y2 y3) (impl_NearestOf.j0 (k+1) y0 y1 y2 y3))
 |0=>fun _ _ _ _=> .z (by simp only[impl_NearestOf.j0])
 |k+1=>by
  have i0:=impl_NearestOf.mono_l k;exact fun _ _ _ _=>by unfold impl_NearestOf.j0;infer_instance
instance impl_NearestOf.mo {k a0 a1 a2}:MoR (impl_NearestOf.f k a0 a1 a2) (impl_NearestOf.f (k+1) a0 a1 a2):=by have i0:=impl_NearestOf.mono_l k;unfold impl_NearestOf.f;infer_instance
theorem impl_NearestOf.calls (k:Nat) (a0:Int) (a1:Int) (a2:Int) (r:Int) (w:World) (h:impl_NearestOf.f k a0 a1 a2=some r):
  Calls Tryz.prog 137 #[.int .i64 a0,.int .i64 a1,.int .i64 a2] w fun e w'=>e= .returned (.int .i64 r)∧Below w.heap.size w w':=by
 have HB:=Asd.mk (Below.refl w.heap.size w);have H:((impl_isSet.f a0 a1).bind fun aa=>(if aa=true then((impl_isSet.f a0 a2).bind fun o=>(impl_NearestOf.j0 k a0 a1 a2 (!o)))else(impl_NearestOf.j0 k a0 a1 a2 true)))=some r:=h;clear h;have ad:=Asd.mk H;clear H;go_enter Tryz.func137,Tryz.ntmps137;go_upto_region 1 with(fail)
 go_cut [16] (fun ak wc=>∃(kq:Nat) (I:Bool),ak= .bool I∧Asd (impl_NearestOf.j0 kq a0 a1 a2 I=some r)∧Asd (kq≤k)∧Asd (Below w.heap.size w wc))
 case first=>
  have H:=ad.out;clear ad;obtain⟨aa,A5,H⟩:=bE H;try dsimp only at H
  by_cases c6:aa=true
  ·subst c6;rw[if_pos rfl]at H;obtain⟨o,A7,H⟩:=bE H;try dsimp only at H
   have H':=Asd.mk H;clear H;go_wp2_with (first|(refine gB (some 9) Tryz.func154 #[.int .i64 a0,.int .i64 a1] rfl ?_;(with_reducible refine(impl_isSet.calls a0 a1 true _ A5.out).mono ?_);rintro e w' ⟨rfl,⟨nd,rfl⟩⟩;refine⟨_,rfl,?_⟩)|(go_at_call 154;(with_reducible refine(impl_isSet.calls a0 a2 o _ A7.out).mono ?_);rintro e w' ⟨rfl,⟨nd,rfl⟩⟩));go_meet
   case rel=>exact⟨_,(!o),(by first|rfl|(simp;done)|(simp[*];done)),H',⟨by first|omega|exact Nat.le_refl _⟩,⟨wZ HB⟩⟩
  ·replace c6:=Bool.eq_false_iff.mpr c6;subst c6;rw[if_neg (show¬(false=true) by decide)]at H;have H':=Asd.mk H;clear H;go_wp2_with (first|(refine gB (some 9) Tryz.func154 #[.int .i64 a0,.int .i64 a1] rfl ?_;(with_reducible refine(impl_isSet.calls a0 a1 false _ A5.out).mono ?_);rintro e w' ⟨rfl,⟨nd,rfl⟩⟩;refine⟨_,rfl,?_⟩));go_meet
   case rel=>exact⟨_,(true),(by first|rfl|(simp;done)|(simp[*];done)),H',⟨by first|omega|exact Nat.le_refl _⟩,⟨wZ HB⟩⟩
 case rest=>
  clear ad;obtain⟨kq,I,rfl,HA,aq,HB⟩:=hcut;cases kq with
  |zero=>exact absurd HA.out (by simp[impl_NearestOf.j0])
  |succ kj3=>
   have H:=HA.out;clear HA;simp only[impl_NearestOf.j0]at H;by_cases c8:I=true
   ·subst c8;rw[if_pos rfl]at H;obtain rfl:=Option.some.inj H;go_wp2;go_ret;exact⟨by first|rfl|(simp[*,errW_none,errW_some]<;>rfl),wZ HB⟩
   ·replace c8:=Bool.eq_false_iff.mpr c8;subst c8;rw[if_neg (show¬(false=true) by decide)]at H;rcases iT H with⟨c9,H⟩|⟨c9,H⟩
    ·have ae:(a1==0)=true:=beq_iff_eq.mpr c9;have af:(a1 !=0)=false:=bne_eq_false_iff_eq.mpr c9;clear c9;obtain rfl:=Option.some.inj H;go_wp2;go_ret;exact⟨by first|rfl|(simp[*,errW_none,errW_some]<;>rfl),wZ HB⟩
    ·have ae:(a1==0)=false:=beq_eq_false_iff_ne.mpr c9;have af:(a1 !=0)=true:=bne_iff_ne.mpr c9;obtain⟨J,al,H⟩:=bE H;try dsimp only at H
     obtain⟨ab,an,H⟩:=bE H;try dsimp only at H
     obtain rfl:=Option.some.inj H;go_wp2_with (first|(refine gB (some 23) Tryz.func155 #[.int .i64 a0,.int .i64 a1] rfl ?_;(with_reducible refine(impl_farFrom.calls kj3 a0 a1 J _ al.out).mono ?_);rintro e ar ⟨ao,rfl,ag,hb⟩;refine⟨_,rfl,?_⟩;have j:=Asd.mk (Kd.R_lower ag (below_size (wZ HB)));replace HB:=bW HB hb;clear hb;(try clear ag);obtain⟨ah,ai,aj⟩:=Kd.R_slice j.out;subst aj)|(refine gB (some 25) Tryz.func144 #[.int .i64 a0,.slice ah J.length ai,.int .i64 a2] rfl ?_;(with_reducible refine(impl_revisedBy.calls kj3 a0 _ _ J a2 ab _ ?side1 ?side2 an.out).mono ?_);(case side1=>exact cZ (Kd.R_reads' j.out).2.2);(case side2=>exact(Kd.R_reads' j.out).2.1);rintro e au ⟨rfl,hb⟩;refine⟨_,rfl,?_⟩;replace j:=bR j hb;replace HB:=bW HB hb;clear hb));go_ret;exact⟨by first|rfl|(simp[*,errW_none,errW_some]<;>rfl),wZ HB⟩
end Go.Proofs.YtihgpkohglcijaaGreatDoor.P
