import Derived.Test.YtigeaokfhnlkcaaGreatDoorPx0
import Derived.Test.YtigeaokfhnlkcaaGreatDoorPx17
import Derived.Test.YtigeaokfhnlkcaaGreatDoorPx22
namespace Go.Proofs.YtigeaokfhnlkcaaGreatDoor.P
open Go.RowKit YtigeaokfhnlkcaaGreatDoorW PrintWords PrintLast PrintMore
attribute [local go_sem] max2_int min2_int max_two min_two max_three min_three max_four min_four
set_option linter.unusedVariables false
set_option linter.unusedSimpArgs false
set_option maxHeartbeats 8000000
set_option maxRecDepth 100000
def kd.j0:Nat→Int→Int→Int→Bool→Option (Int)
 |0,_,_,_,_=>none
 |k+1,x0,x1,x2,x16=>if x16=true then(some (-1))else(if x1=0 then(some x2)else((iX.f k x0 x1).bind fun J=>((jw.f k x0 J x2).bind fun ab=>(some ab))))
def kd.f (k:Nat) (a0:Int) (a1:Int) (a2:Int):Option (Int):=(pr.f a0 a1).bind fun aa=>(if aa=true then((pr.f a0 a2).bind fun o=>(kd.j0 k a0 a1 a2 (!o)))else(kd.j0 k a0 a1 a2 true))
theorem kd.hZ:∀k,(∀y0 y1 y2 y3,lS (kd.j0 k y0 y1 y2 y3) (kd.j0 (k+1) y0 y1 y2 y3))
 |0=>fun _ _ _ _=> .z (by simp only[kd.j0])
 |k+1=>by
  have i0:=kd.hZ k;exact fun _ _ _ _=>by unfold kd.j0;infer_instance
instance kd.mo {k a0 a1 a2}:lS (kd.f k a0 a1 a2) (kd.f (k+1) a0 a1 a2):=by have i0:=kd.hZ k;unfold kd.f;infer_instance
theorem kd.calls (k:Nat) (a0:Int) (a1:Int) (a2:Int) (r:Int) (w:World) (h:kd.f k a0 a1 a2=some r):
  Calls Tryz.prog 94 #[.int .i64 a0,.int .i64 a1,.int .i64 a2] w fun e w'=>e= .returned (.int .i64 r)∧Below w.heap.size w w':=by
 have HB:=bm (Below.refl w.heap.size w);have H:=h;clear h;unfold kd.f at H;have ad:=bm H;clear H;go_enter Tryz.func94,Tryz.ntmps94;go_upto_region 1 with(fail)
 go_cut [16] (fun ak wc=>∃(kq:Nat) (I:Bool),ak= .bool I∧hJ (kd.j0 kq a0 a1 a2 I=some r)∧hJ (kq≤k)∧hJ (Below w.heap.size w wc))
 case first=>
  have H:=ad.out;clear ad;obtain⟨aa,A5,H⟩:=bE H;try dsimp only at H
  by_cases c6:aa=true
  ·subst c6;rw[if_pos rfl]at H;obtain⟨o,A7,H⟩:=bE H;try dsimp only at H
   have H':=bm H;clear H;go_wp2_with (first|(refine gB (some 9) Tryz.func123 #[.int .i64 a0,.int .i64 a1] rfl ?_;(refine(pr.calls a0 a1 true _ A5.out).mono ?_);rintro e w' ⟨rfl,⟨nd,rfl⟩⟩;refine⟨_,rfl,?_⟩)|(go_at_call 123;(with_reducible refine(pr.calls a0 a2 o _ A7.out).mono ?_);rintro e w' ⟨rfl,⟨nd,rfl⟩⟩));go_meet
   case rel=>exact⟨_,(!o),eA,H',⟨by first|omega|exact Nat.le_refl _⟩,⟨wZ HB⟩⟩
  ·replace c6:=pD c6;subst c6;rw[if_neg pV]at H;have H':=bm H;clear H;go_wp2_with (first|(refine gB (some 9) Tryz.func123 #[.int .i64 a0,.int .i64 a1] rfl ?_;(refine(pr.calls a0 a1 false _ A5.out).mono ?_);rintro e w' ⟨rfl,⟨nd,rfl⟩⟩;refine⟨_,rfl,?_⟩));go_meet
   case rel=>exact⟨_,(true),eA,H',⟨by first|omega|exact Nat.le_refl _⟩,⟨wZ HB⟩⟩
 case rest=>
  clear ad;obtain⟨kq,I,rfl,HA,aq,HB⟩:=hcut;cases kq with
  |zero=>exact absurd HA.out (by simp[kd.j0])
  |succ sO=>
   have H:=HA.out;clear HA;simp only[kd.j0]at H;by_cases c8:I=true
   ·subst c8;rw[if_pos rfl]at H;obtain rfl:=pd H;go_wp2;go_ret;exact⟨eF,wZ HB⟩
   ·replace c8:=pD c8;subst c8;rw[if_neg pV]at H;rcases iT H with⟨c9,H⟩|⟨c9,H⟩
    ·obtain⟨ae,af⟩:=pf c9;clear c9;obtain rfl:=pd H;go_wp2;go_ret;exact⟨eF,wZ HB⟩
    ·obtain⟨ae,af⟩:=pe c9;obtain⟨J,al,H⟩:=bE H;try dsimp only at H
     obtain⟨ab,an,H⟩:=bE H;try dsimp only at H
     obtain rfl:=pd H;go_wp2_with (first|(refine gB (some 23) Tryz.func124 #[.int .i64 a0,.int .i64 a1] rfl ?_;(refine(iX.calls sO a0 a1 J _ al.out).mono ?_);rintro e _ ⟨_,rfl,ag,hb⟩;refine⟨_,rfl,?_⟩;have j:=rL ag HB;replace HB:=bW HB hb;clear hb;(try clear ag);obtain⟨ah,ai,aj⟩:=Kd.R_slice j.out;subst aj)|(refine gB (some 25) Tryz.func107 #[.int .i64 a0,.slice ah J.length ai,.int .i64 a2] rfl ?_;(refine(jw.calls sO a0 _ _ J a2 ab _ ?_ ?_ an.out).mono ?_);exact cZ (Kd.R_reads' j.out).2.2;exact(Kd.R_reads' j.out).2.1;rintro e _ ⟨rfl,hb⟩;refine⟨_,rfl,?_⟩;replace j:=bR j hb;replace HB:=bW HB hb;clear hb));go_ret;exact⟨eF,wZ HB⟩
end Go.Proofs.YtigeaokfhnlkcaaGreatDoor.P
