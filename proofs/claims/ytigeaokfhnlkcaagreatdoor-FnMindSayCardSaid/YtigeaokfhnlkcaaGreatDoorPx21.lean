import Derived.Test.YtigeaokfhnlkcaaGreatDoorPx0
import Derived.Test.YtigeaokfhnlkcaaGreatDoorPx15
import Derived.Test.YtigeaokfhnlkcaaGreatDoorPx20
namespace Go.Proofs.YtigeaokfhnlkcaaGreatDoor.P
open Go.RowKit YtigeaokfhnlkcaaGreatDoorW PrintWords PrintLast PrintMore
attribute [local go_sem] max2_int min2_int max_two min_two max_three min_three max_four min_four
set_option linter.unusedVariables false
set_option linter.unusedSimpArgs false
set_option maxHeartbeats 8000000
set_option maxRecDepth 100000
def gS.l0:Nat→Int→Int→BA→Int→Option (BA)
 |0,_,_,_,_=>none
 |k+1,x0,x1,x5,x6=>if x6≥0 then(if 0≤x6 then(if(Go.bits .and .i64 (shr .i64 x1 x6) 1)=0 then(gS.l0 k x0 x1 x5 (wrap64 (x6 - 1)))else((ky.f k x0 x6 0).bind fun j=>(if x5.toList=([]:List UInt8)then(gS.l0 k x0 x1 j (wrap64 (x6 - 1)))else(if 1+j.size≤9223372036854775807 then(if((⟨#[40]⟩:BA)++j).size+1≤9223372036854775807 then(if(((⟨#[40]⟩:BA)++j)++(⟨#[124]⟩:BA)).size+x5.size≤9223372036854775807 then(if((((⟨#[40]⟩:BA)++j)++(⟨#[124]⟩:BA))++x5).size+1≤9223372036854775807 then(gS.l0 k x0 x1 (((((⟨#[40]⟩:BA)++j)++(⟨#[124]⟩:BA))++x5)++(⟨#[41]⟩:BA)) (wrap64 (x6 - 1)))else(none))else(none))else(none))else(none)))))else(none))else(some x5)
def gS.f (k:Nat) (a0:Int) (a1:Int):Option (BA):=if a1=0 then(some (⟨#[48]⟩:BA))else((kt.f a0).bind fun J=>(if a1=J then(some (⟨#[49]⟩:BA))else(if 0≤a0 then(gS.l0 k a0 a1 (⟨#[]⟩:BA) (wrap64 ((shl .i64 1 a0) - 1)))else(none))))
theorem gS.hZ:∀k,(∀y0 y1 y2 y3,lS (gS.l0 k y0 y1 y2 y3) (gS.l0 (k+1) y0 y1 y2 y3))
 |0=>fun _ _ _ _=> .z (by simp only[gS.l0])
 |k+1=>by
  have i0:=gS.hZ k;exact fun _ _ _ _=>by unfold gS.l0;infer_instance
instance gS.mo {k a0 a1}:lS (gS.f k a0 a1) (gS.f (k+1) a0 a1):=by have i0:=gS.hZ k;unfold gS.f;infer_instance
theorem gS.mono:∀a0 a1 k,LeO (gS.f k a0 a1) (gS.f (k+1) a0 a1):=fun _ _ _=>gS.mo.h
theorem gS.calls (k:Nat) (a0:Int) (a1:Int) (r:BA) (w:World) (h:gS.f k a0 a1=some r):
  Calls Tryz.prog 85 #[.int .i64 a0,.int .i64 a1] w fun e w'=>e= .returned (.string r)∧Drawn0 w w':=by
 have H:=h;clear h;unfold gS.f at H;rcases iT H with⟨c3,H⟩|⟨c3,H⟩
 ·obtain⟨aw,ax⟩:=pf c3;clear c3;obtain rfl:=pd H;go_enter Tryz.func85,Tryz.ntmps85;go_wp2;go_ret;exact rq
 obtain⟨aw,ax⟩:=pe c3;obtain⟨J,A4,H⟩:=bE H;try dsimp only at H
 rcases iT H with⟨c5,H⟩|⟨c5,H⟩
 obtain⟨ay,az⟩:=pf c5;clear c5;obtain rfl:=pd H
 rotate_left
 obtain⟨ay,az⟩:=pe c5;obtain⟨aZ,a6,H⟩:=pO H;obtain⟨ae,aa⟩:∃j_:Int,(shl .i64 1 a0)=j_:=⟨_,rfl⟩;first|rw[aa]at H|simp only[aa]at H
 (try rw[aa]at A4);have ai:(IntKind.i64.wrap (1*2^min a0.toNat 64))=ae:=aa;have aj:a0≤64→(IntKind.i64.wrap (1*2^a0.toNat))=ae:=shl_small aa;have aF:(IntKind.i64.wrap (2^min a0.toNat 64))=ae:=by have h_:=ai;rw[Int.one_mul]at h_;exact h_
 have aG:a0≤64→(IntKind.i64.wrap (2^a0.toNat))=ae:=fun aA=>by have h_:=aj aA;rw[Int.one_mul]at h_;exact h_
 have aH:(wrap64 (1*2^min a0.toNat 64))=ae:=(i64_w _).symm.trans ai;have aI:a0≤64→(wrap64 (1*2^a0.toNat))=ae:=fun h_=>(i64_w _).symm.trans (aj h_)
 have H':=bm H;clear H
 rotate_left
 all_goals(go_enter Tryz.func85,Tryz.ntmps85;go_wp2_with (first|(refine gB (some 13) Tryz.func116 #[.int .i64 a0] rfl ?_;(refine(kt.calls a0 J _ A4.out).mono ?_);rintro e w' ⟨rfl,⟨nd,rfl⟩⟩;refine⟨_,rfl,?_⟩)))
 ·go_ret;exact rq
 ·go_loopg [5,6] k (fun kq v5 v6 w'=>∃(I:BA) (o:Int),v5= .string I∧v6= .int .i64 o∧hJ (gS.l0 kq a0 a1 I o=some r)∧hJ (kq≤k)∧Drawn0 w w')
  case atStart=>exact⟨((⟨#[]⟩:BA)),(wrap64 ((ae) - 1)),eA,(by first|rfl|(simp;done)|(simp only[←aa]<;>(first|rfl|simp))|(simp[*];done)),H',⟨Nat.le_refl _⟩,by repeat(first|exact Drawn0.refl _|apply Drawn0.step)⟩
  case round=>
   clear H';obtain⟨I,o,rfl,rfl,HA,af,⟨m1,rfl⟩⟩:=hrel;cases gk with
   |zero=>exact absurd HA.out (by simp[gS.l0])
   |succ k1=>
    have H:=HA.out;clear HA;simp only[gS.l0]at H;rcases pP H with⟨aB,H⟩|⟨aB,H⟩
    ·obtain⟨a7,a8,H⟩:=pO H;obtain⟨ab,ad⟩:∃j_:Int,(shr .i64 a1 o)=j_:=⟨_,rfl⟩;first|rw[ad]at H|simp only[ad]at H
     have aD:(a1/2^min o.toNat 64)=ab:=ad;have aE:o≤64→(a1/2^o.toNat)=ab:=shr_small ad;rcases iT H with⟨ag,H⟩|⟨ag,H⟩
     ·obtain⟨ao,aq⟩:=pf ag;clear ag;have H':=bm H;clear H;go_wp2;go_roundg k1
      case measure=>have:=af.out;omega
      case rel=>exact⟨(I),(wrap64 (o - 1)),eA,eA,H',⟨by have:=af.out;omega⟩,by repeat(first|exact Drawn0.refl _|apply Drawn0.step)⟩
     ·obtain⟨ao,aq⟩:=pe ag;obtain⟨j,aC,H⟩:=bE H;try dsimp only at H
      rcases iT H with⟨ah,H⟩|⟨ah,H⟩
      ·obtain⟨ar,au⟩:=pf ah;clear ah;have H':=bm H;clear H;go_wp2_with (first|(refine gB (some 29) Tryz.func117 #[.int .i64 a0,.int .i64 o,.int .i64 0] rfl ?_;(refine(ky.calls k1 a0 o 0 j _ aC.out).mono ?_);rintro e w' ⟨rfl,⟨nd,rfl⟩⟩;refine⟨_,rfl,?_⟩));go_roundg k1
       case measure=>have:=af.out;omega
       case rel=>exact⟨(j),(wrap64 (o - 1)),eA,eA,H',⟨by have:=af.out;omega⟩,by repeat(first|exact Drawn0.refl _|apply Drawn0.step)⟩
      ·obtain⟨ar,au⟩:=pe ah;obtain⟨av,H⟩:=iN H;have aJ:=pM av;have aK:=pK av;try have aL:(9223372036854775807<1+j.size)=False:=eq_false (Nat.not_lt.2 av)
       obtain⟨ak,H⟩:=iN H;have aM:=pM ak;have aN:=pK ak;try have aO:(9223372036854775807<((⟨#[40]⟩:BA)++j).size+1)=False:=eq_false (Nat.not_lt.2 ak)
       (try have aP:(9223372036854775807<1+j.size+1)=False:=eq_false (by have h_:=ak;(repeat rw[ByteArray.size_append]at h_);exact Nat.not_lt.2 h_));obtain⟨al,H⟩:=iN H;have aQ:=pM al;have aR:=pK al;try have aS:(9223372036854775807<(((⟨#[40]⟩:BA)++j)++(⟨#[124]⟩:BA)).size+I.size)=False:=eq_false (Nat.not_lt.2 al)
       (try have aT:(9223372036854775807<1+j.size+1+I.size)=False:=eq_false (by have h_:=al;(repeat rw[ByteArray.size_append]at h_);exact Nat.not_lt.2 h_));obtain⟨an,H⟩:=iN H;have aU:=pM an;have aV:=pK an;try have aW:(9223372036854775807<((((⟨#[40]⟩:BA)++j)++(⟨#[124]⟩:BA))++I).size+1)=False:=eq_false (Nat.not_lt.2 an)
       (try have aY:(9223372036854775807<1+j.size+1+I.size+1)=False:=eq_false (by have h_:=an;(repeat rw[ByteArray.size_append]at h_);exact Nat.not_lt.2 h_));have H':=bm H;clear H;go_wp2_with (first|(refine gB (some 29) Tryz.func117 #[.int .i64 a0,.int .i64 o,.int .i64 0] rfl ?_;(refine(ky.calls k1 a0 o 0 j _ aC.out).mono ?_);rintro e w' ⟨rfl,⟨nd,rfl⟩⟩;refine⟨_,rfl,?_⟩));go_roundg k1
       case measure=>have:=af.out;omega
       case rel=>exact⟨(((((⟨#[40]⟩:BA)++j)++(⟨#[124]⟩:BA))++I)++(⟨#[41]⟩:BA)),(wrap64 (o - 1)),eA,eA,H',⟨by have:=af.out;omega⟩,by repeat(first|exact Drawn0.refl _|apply Drawn0.step)⟩
    ·obtain rfl:=pd H;go_wp2;go_ret;exact⟨by first|rfl|(simp;done)|(simp only[←aa]<;>(first|rfl|simp))|(simp[*];done),by repeat(first|exact Drawn0.refl _|apply Drawn0.step)⟩
end Go.Proofs.YtigeaokfhnlkcaaGreatDoor.P
