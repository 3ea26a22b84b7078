import Derived.Test.YtihgpkohglcijaaGreatDoorPx0
import Derived.Test.YtihgpkohglcijaaGreatDoorPx18
import Derived.Test.YtihgpkohglcijaaGreatDoorPx23
namespace Go.Proofs.YtihgpkohglcijaaGreatDoor.P
open Go.RowKit YtihgpkohglcijaaGreatDoorW PrintWords PrintLast PrintMore
attribute [local go_sem] max2_int min2_int max_two min_two max_three min_three max_four min_four
set_option linter.unusedVariables false
set_option linter.unusedSimpArgs false
set_option maxHeartbeats 8000000
set_option maxRecDepth 100000
def jt.j0:Nat→Int→Int→Int→Bool→Option (Int)
 |0,_,_,_,_=>none
 |k+1,x0,x1,x2,x16=>if x16=true then(some (-1))else(if x1=0 then(some x2)else((iC.f k x0 x1).bind fun J=>((iO.f k x0 J x2).bind fun ab=>(some ab))))
def jt.f (k:Nat) (a0:Int) (a1:Int) (a2:Int):Option (Int):=(lK.f a0 a1).bind fun aa=>(if aa=true then((lK.f a0 a2).bind fun o=>(jt.j0 k a0 a1 a2 (!o)))else(jt.j0 k a0 a1 a2 true))
theorem jt.gF:∀k,(∀y0 y1 y2 y3,ku (jt.j0 k y0 y1 y2 y3) (jt.j0 (k+1) y0 y1 y2 y3))
 |0=>fun _ _ _ _=> .z (by simp only[jt.j0])
 |k+1=>by
  have i0:=jt.gF k;exact fun _ _ _ _=>by unfold jt.j0;infer_instance
instance jt.mo {k a0 a1 a2}:ku (jt.f k a0 a1 a2) (jt.f (k+1) a0 a1 a2):=by have i0:=jt.gF k;unfold jt.f;infer_instance
theorem jt.calls (k:Nat) (a0:Int) (a1:Int) (a2:Int) (r:Int) (w:World) (h:jt.f k a0 a1 a2=some r):
  Calls Tryz.prog 137 #[.int .i64 a0,.int .i64 a1,.int .i64 a2] w fun e w'=>e= .returned (.int .i64 r)∧Below w.heap.size w w':=by
 have HB:=bm (Below.refl w.heap.size w);have H:=h;clear h;unfold jt.f at H;have ad:=bm H;clear H;go_enter Tryz.func137,Tryz.ntmps137;go_upto_region 1 with(fail)
 go_cut [16] (fun ak wc=>∃(kq:Nat) (I:Bool),ak= .bool I∧gm (jt.j0 kq a0 a1 a2 I=some r)∧gm (kq≤k)∧gm (Below w.heap.size w wc))
 case first=>
  have H:=ad.out;clear ad;obtain⟨aa,A5,H⟩:=bE H;try dsimp only at H
  by_cases c6:aa=true
  ·subst c6;rw[if_pos rfl]at H;obtain⟨o,A7,H⟩:=bE H;try dsimp only at H
   have H':=bm H;clear H;go_wp2_with (first|(refine gB (some 9) Tryz.func154 #[.int .i64 a0,.int .i64 a1] rfl ?_;(with_reducible refine(lK.calls a0 a1 true _ A5.out).mono ?_);rintro e w' ⟨rfl,⟨nd,rfl⟩⟩;refine⟨_,rfl,?_⟩)|(go_at_call 154;(with_reducible refine(lK.calls a0 a2 o _ A7.out).mono ?_);rintro e w' ⟨rfl,⟨nd,rfl⟩⟩));go_meet
   case rel=>exact⟨_,(!o),(by first|rfl|(simp;done)|(simp[*];done)),H',⟨by first|omega|exact Nat.le_refl _⟩,⟨wZ HB⟩⟩
  ·replace c6:=uZ c6;subst c6;rw[if_neg vR]at H;have H':=bm H;clear H;go_wp2_with (first|(refine gB (some 9) Tryz.func154 #[.int .i64 a0,.int .i64 a1] rfl ?_;(with_reducible refine(lK.calls a0 a1 false _ A5.out).mono ?_);rintro e w' ⟨rfl,⟨nd,rfl⟩⟩;refine⟨_,rfl,?_⟩));go_meet
   case rel=>exact⟨_,(true),(by first|rfl|(simp;done)|(simp[*];done)),H',⟨by first|omega|exact Nat.le_refl _⟩,⟨wZ HB⟩⟩
 case rest=>
  clear ad;obtain⟨kq,I,rfl,HA,aq,HB⟩:=hcut;cases kq with
  |zero=>exact absurd HA.out (by simp[jt.j0])
  |succ oW=>
   have H:=HA.out;clear HA;simp only[jt.j0]at H;by_cases c8:I=true
   ·subst c8;rw[if_pos rfl]at H;obtain rfl:=vZ H;go_wp2;go_ret;exact vo HB
   ·replace c8:=uZ c8;subst c8;rw[if_neg vR]at H;rcases iT H with⟨c9,H⟩|⟨c9,H⟩
    ·obtain⟨ae,af⟩:=vl c9;clear c9;obtain rfl:=vZ H;go_wp2;go_ret;exact vo HB
    ·obtain⟨ae,af⟩:=vk c9;obtain⟨J,al,H⟩:=bE H;try dsimp only at H
     obtain⟨ab,an,H⟩:=bE H;try dsimp only at H
     obtain rfl:=vZ H;go_wp2_with (first|(refine gB (some 23) Tryz.func155 #[.int .i64 a0,.int .i64 a1] rfl ?_;(with_reducible refine(iC.calls oW a0 a1 J _ al.out).mono ?_);rintro e _ ⟨_,rfl,ag,hb⟩;refine⟨_,rfl,?_⟩;have j:=vm ag HB;replace HB:=bW HB hb;clear hb;(try clear ag);obtain⟨ah,ai,aj⟩:=Kd.R_slice j.out;subst aj)|(refine gB (some 25) Tryz.func144 #[.int .i64 a0,.slice ah J.length ai,.int .i64 a2] rfl ?_;(with_reducible refine(iO.calls oW a0 _ _ J a2 ab _ ?_ ?_ an.out).mono ?_);exact cZ (Kd.R_reads' j.out).2.2;exact(Kd.R_reads' j.out).2.1;rintro e _ ⟨rfl,hb⟩;refine⟨_,rfl,?_⟩;replace j:=bR j hb;replace HB:=bW HB hb;clear hb));go_ret;exact vo HB
end Go.Proofs.YtihgpkohglcijaaGreatDoor.P
