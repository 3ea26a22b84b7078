import Derived.Test.YtihgpkohglcijaaGreatDoorPx0
import Derived.Test.YtihgpkohglcijaaGreatDoorPx4
import Derived.Test.YtihgpkohglcijaaGreatDoorPx9
namespace Go.Proofs.YtihgpkohglcijaaGreatDoor.P
open Go.RowKit Go.Proofs.YtihgpkohglcijaaGreatDoorW.PrintWords Go.Proofs.YtihgpkohglcijaaGreatDoorW.PrintLast Go.Proofs.YtihgpkohglcijaaGreatDoorW.PrintMore
attribute [local go_sem] max2_int min2_int max_two min_two max_three min_three max_four min_four   -- for this text's walks alone
set_option linter.unusedVariables false
set_option linter.unusedSimpArgs false
set_option maxHeartbeats 8000000
set_option maxRecDepth 100000
def impl_sentenceOf.l0:Nat→Int→Int→ByteArray→Int→Option (ByteArray)
 |0,_,_,_,_=>none
 |k+1,x0,x1,x5,x6=>if x6≥0 then(if 0≤x6 then(if(Go.bits .and .i64 (shr .i64 x1 x6) 1)=0 then(impl_sentenceOf.l0 k x0 x1 x5 (wrap64 (x6 - 1)))else((impl_worldText.f k x0 x6 0).bind fun t233=>(if x5.toList=([]:List UInt8)then(impl_sentenceOf.l0 k x0 x1 t233 (wrap64 (x6 - 1)))else(if 1+t233.size≤9223372036854775807 then(if((⟨#[40]⟩:ByteArray)++t233).size+1≤9223372036854775807 then(if(((⟨#[40]⟩:ByteArray)++t233)++(⟨#[124]⟩:ByteArray)).size+x5.size≤9223372036854775807 then(if((((⟨#[40]⟩:ByteArray)++t233)++(⟨#[124]⟩:ByteArray))++x5).size+1≤9223372036854775807 then(impl_sentenceOf.l0 k x0 x1 (((((⟨#[40]⟩:ByteArray)++t233)++(⟨#[124]⟩:ByteArray))++x5)++(⟨#[41]⟩:ByteArray)) (wrap64 (x6 - 1)))else(none))else(none))else(none))else(none)))))else(none))else(some x5)
def impl_sentenceOf.f (k:Nat) (a0:Int) (a1:Int):Option (ByteArray):=if a1=0 then(some (⟨#[48]⟩:ByteArray))else((impl_allWorlds.f a0).bind fun t232=>(if a1=t232 then(some (⟨#[49]⟩:ByteArray))else(if 0≤a0 then(impl_sentenceOf.l0 k a0 a1 (⟨#[]⟩:ByteArray) (wrap64 ((shl .i64 1 a0) - 1)))else(none))))
theorem impl_sentenceOf.mono_l:∀k,(∀y0 y1 y2 y3,MoR (impl_sentenceOf.l0 k y0 y1 y2 y3) (impl_sentenceOf.l0 (k+1) y0 y1 y2 y3))
 |0=>fun _ _ _ _=> .z (by simp only[impl_sentenceOf.l0])
 |k+1=>by
  have i0:=impl_sentenceOf.mono_l k;exact fun _ _ _ _=>by unfold impl_sentenceOf.l0;infer_instance
instance impl_sentenceOf.mo {k a0 a1}:MoR (impl_sentenceOf.f k a0 a1) (impl_sentenceOf.f (k+1) a0 a1):=by have i0:=impl_sentenceOf.mono_l k;unfold impl_sentenceOf.f;infer_instance
theorem impl_sentenceOf.mono:∀a0 a1 k,LeO (impl_sentenceOf.f k a0 a1) (impl_sentenceOf.f (k+1) a0 a1):=fun _ _ _=>impl_sentenceOf.mo.h
theorem impl_sentenceOf.calls (k:Nat) (a0:Int) (a1:Int) (r:ByteArray) (w:World) (h:impl_sentenceOf.f k a0 a1=some r):
  Calls Tryz.prog 128 #[.int .i64 a0,.int .i64 a1] w fun e w'=>e= .returned (.string r)∧Drawn0 w w':=by
 have H:(if a1=0 then(some (⟨#[48]⟩:ByteArray))else((impl_allWorlds.f a0).bind fun t232=>(if a1=t232 then(some (⟨#[49]⟩:ByteArray))else(if 0≤a0 then(impl_sentenceOf.l0 k a0 a1 (⟨#[]⟩:ByteArray) (wrap64 ((shl .i64 1 a0) - 1)))else(none)))))=some r:=h;clear h;rcases iT H with⟨c3,H⟩|⟨c3,H⟩
 ·have au:(a1==0)=true:=beq_iff_eq.mpr c3;have av:(a1 !=0)=false:=bne_eq_false_iff_eq.mpr c3;clear c3;obtain rfl:=Option.some.inj H;go_enter Tryz.func128,Tryz.ntmps128;go_wp2;go_ret;exact⟨by first|rfl|(simp;done)|(simp[*];done),by repeat(first|exact Drawn0.refl _|apply Drawn0.step)⟩
 ·have au:(a1==0)=false:=beq_eq_false_iff_ne.mpr c3;have av:(a1 !=0)=true:=bne_iff_ne.mpr c3;obtain⟨t232,A4,H⟩:=bE H;try dsimp only at H
  rcases iT H with⟨c5,H⟩|⟨c5,H⟩
  ·have aw:(a1==t232)=true:=beq_iff_eq.mpr c5;have ax:(a1 !=t232)=false:=bne_eq_false_iff_eq.mpr c5;clear c5;obtain rfl:=Option.some.inj H;go_enter Tryz.func128,Tryz.ntmps128;go_wp2_with (first|(refine gB (some 13) Tryz.func140 #[.int .i64 a0] rfl ?_;(with_reducible refine(impl_allWorlds.calls a0 t232 _ A4.out).mono ?_);rintro e w' ⟨rfl,⟨nd,rfl⟩⟩;refine⟨_,rfl,?_⟩));go_ret;exact⟨by first|rfl|(simp;done)|(simp[*];done),by repeat(first|exact Drawn0.refl _|apply Drawn0.step)⟩
  ·have aw:(a1==t232)=false:=beq_eq_false_iff_ne.mpr c5;have ax:(a1 !=t232)=true:=bne_iff_ne.mpr c5;obtain⟨c6,H⟩:=iN H;have aW:=eq_true c6;have aY:=decide_eq_true c6;clear c6;obtain⟨ab,I⟩:∃j_:Int,(shl .i64 1 a0)=j_:=⟨_,rfl⟩;first|rw[I]at H|simp only[I]at H
   (try rw[I]at A4);have ag:(IntKind.i64.wrap (1*2^min a0.toNat 64))=ab:=I;have ah:a0≤64→(IntKind.i64.wrap (1*2^a0.toNat))=ab:=shl_small I;have aD:(IntKind.i64.wrap (2^min a0.toNat 64))=ab:=by have h_:=ag;rw[Int.one_mul]at h_;exact h_
   have aE:a0≤64→(IntKind.i64.wrap (2^a0.toNat))=ab:=fun ay=>by have h_:=ah ay;rw[Int.one_mul]at h_;exact h_
   have aF:(wrap64 (1*2^min a0.toNat 64))=ab:=(i64_w _).symm.trans ag;have aG:a0≤64→(wrap64 (1*2^a0.toNat))=ab:=fun h_=>(i64_w _).symm.trans (ah h_)
   have H':=Asd.mk H;clear H;go_enter Tryz.func128,Tryz.ntmps128;go_wp2_with (first|(refine gB (some 13) Tryz.func140 #[.int .i64 a0] rfl ?_;(with_reducible refine(impl_allWorlds.calls a0 t232 _ A4.out).mono ?_);rintro e w' ⟨rfl,⟨nd,rfl⟩⟩;refine⟨_,rfl,?_⟩));go_loopg [5,6] k (fun kq v5 v6 w'=>∃(o:ByteArray) (j:Int),v5= .string o∧v6= .int .i64 j∧Asd (impl_sentenceOf.l0 kq a0 a1 o j=some r)∧Asd (kq≤k)∧Drawn0 w w')
   case atStart=>exact⟨((⟨#[]⟩:ByteArray)),(wrap64 ((ab) - 1)),(by first|rfl|(simp;done)|(simp[*];done)),(by first|rfl|(simp;done)|(simp only[←I]<;>(first|rfl|simp))|(simp[*];done)),H',⟨Nat.le_refl _⟩,by repeat(first|exact Drawn0.refl _|apply Drawn0.step)⟩
   case round=>
    clear H';obtain⟨o,j,rfl,rfl,HA,ad,⟨m1,rfl⟩⟩:=hrel;cases gk with
    |zero=>exact absurd HA.out (by simp[impl_sentenceOf.l0])
    |succ k1=>
     have H:=HA.out;clear HA;simp only[impl_sentenceOf.l0]at H;rcases iT H with⟨c8,H⟩|⟨c8,H⟩
     ·have az:=decide_eq_true c8;clear c8;obtain⟨c9,H⟩:=iN H;have aZ:=eq_true c9;have a6:=decide_eq_true c9;clear c9;obtain⟨J,aa⟩:∃j_:Int,(shr .i64 a1 j)=j_:=⟨_,rfl⟩;first|rw[aa]at H|simp only[aa]at H
      have aB:(a1/2^min j.toNat 64)=J:=aa;have aC:j≤64→(a1/2^j.toNat)=J:=shr_small aa;rcases iT H with⟨ae,H⟩|⟨ae,H⟩
      ·have al:((Go.bits .and .i64 (J) 1)==0)=true:=beq_iff_eq.mpr ae;have an:((Go.bits .and .i64 (J) 1) !=0)=false:=bne_eq_false_iff_eq.mpr ae;clear ae;have H':=Asd.mk H;clear H;go_wp2;go_roundg k1
       case measure=>have:=ad.out;omega
       case rel=>exact⟨(o),(wrap64 (j - 1)),(by first|rfl|(simp;done)|(simp[*];done)),(by first|rfl|(simp;done)|(simp[*];done)),H',⟨by have:=ad.out;omega⟩,by repeat(first|exact Drawn0.refl _|apply Drawn0.step)⟩
      ·have al:((Go.bits .and .i64 (J) 1)==0)=false:=beq_eq_false_iff_ne.mpr ae;have an:((Go.bits .and .i64 (J) 1) !=0)=true:=bne_iff_ne.mpr ae;obtain⟨t233,aA,H⟩:=bE H;try dsimp only at H
       rcases iT H with⟨af,H⟩|⟨af,H⟩
       ·have ao:(o.toList==([]:List UInt8))=true:=beq_iff_eq.mpr af;have aq:(o.toList !=([]:List UInt8))=false:=bne_eq_false_iff_eq.mpr af;clear af;have H':=Asd.mk H;clear H;go_wp2_with (first|(refine gB (some 29) Tryz.func148 #[.int .i64 a0,.int .i64 j,.int .i64 0] rfl ?_;(with_reducible refine(impl_worldText.calls k1 a0 j 0 t233 _ aA.out).mono ?_);rintro e w' ⟨rfl,⟨nd,rfl⟩⟩;refine⟨_,rfl,?_⟩));go_roundg k1
        case measure=>have:=ad.out;omega
        case rel=>exact⟨(t233),(wrap64 (j - 1)),(by first|rfl|(simp;done)|(simp[*];done)),(by first|rfl|(simp;done)|(simp[*];done)),H',⟨by have:=ad.out;omega⟩,by repeat(first|exact Drawn0.refl _|apply Drawn0.step)⟩
       ·have ao:(o.toList==([]:List UInt8))=false:=beq_eq_false_iff_ne.mpr af;have aq:(o.toList !=([]:List UInt8))=true:=bne_iff_ne.mpr af;obtain⟨ar,H⟩:=iN H;have aH:=eq_true ar;have aI:=decide_eq_true ar;try have aJ:(9223372036854775807<1+t233.size)=False:=eq_false (Nat.not_lt.2 ar)
        obtain⟨ai,H⟩:=iN H;have aK:=eq_true ai;have aL:=decide_eq_true ai;try have aM:(9223372036854775807<((⟨#[40]⟩:ByteArray)++t233).size+1)=False:=eq_false (Nat.not_lt.2 ai)
        (try have aN:(9223372036854775807<1+t233.size+1)=False:=eq_false (by have h_:=ai;(repeat rw[ByteArray.size_append]at h_);exact Nat.not_lt.2 h_));obtain⟨aj,H⟩:=iN H;have aO:=eq_true aj;have aP:=decide_eq_true aj;try have aQ:(9223372036854775807<(((⟨#[40]⟩:ByteArray)++t233)++(⟨#[124]⟩:ByteArray)).size+o.size)=False:=eq_false (Nat.not_lt.2 aj)
        (try have aR:(9223372036854775807<1+t233.size+1+o.size)=False:=eq_false (by have h_:=aj;(repeat rw[ByteArray.size_append]at h_);exact Nat.not_lt.2 h_));obtain⟨ak,H⟩:=iN H;have aS:=eq_true ak;have aT:=decide_eq_true ak;try have aU:(9223372036854775807<((((⟨#[40]⟩:ByteArray)++t233)++(⟨#[124]⟩:ByteArray))++o).size+1)=False:=eq_false (Nat.not_lt.2 ak)
        (try have aV:(9223372036854775807<1+t233.size+1+o.size+1)=False:=eq_false (by have h_:=ak;(repeat rw[ByteArray.size_append]at h_);exact Nat.not_lt.2 h_));have H':=Asd.mk H;clear H;go_wp2_with (first|(refine gB (some 29) Tryz.func148 #[.int .i64 a0,.int .i64 j,.int .i64 0] rfl ?_;(with_reducible refine(impl_worldText.calls k1 a0 j 0 t233 _ aA.out).mono ?_);rintro e w' ⟨rfl,⟨nd,rfl⟩⟩;refine⟨_,rfl,?_⟩));go_roundg k1
        case measure=>have:=ad.out;omega
        case rel=>exact⟨(((((⟨#[40]⟩:ByteArray)++t233)++(⟨#[124]⟩:ByteArray))++o)++(⟨#[41]⟩:ByteArray)),(wrap64 (j - 1)),(by first|rfl|(simp;done)|(simp[*];done)),(by first|rfl|(simp;done)|(simp[*];done)),H',⟨by have:=ad.out;omega⟩,by repeat(first|exact Drawn0.refl _|apply Drawn0.step)⟩
     ·have az:=decide_eq_false c8;clear c8;obtain rfl:=Option.some.inj H;go_wp2;go_ret;exact⟨by first|rfl|(simp;done)|(simp only[←I]<;>(first|rfl|simp))|(simp[*];done),by repeat(first|exact Drawn0.refl _|apply Drawn0.step)⟩
end Go.Proofs.YtihgpkohglcijaaGreatDoor.P
