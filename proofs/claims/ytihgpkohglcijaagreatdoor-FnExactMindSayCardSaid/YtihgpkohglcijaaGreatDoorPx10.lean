import Derived.Test.YtihgpkohglcijaaGreatDoorPx0
import Derived.Test.YtihgpkohglcijaaGreatDoorPx4
import Derived.Test.YtihgpkohglcijaaGreatDoorPx9
namespace Go.Proofs.YtihgpkohglcijaaGreatDoor.P
open Go.RowKit Go.Proofs.YtihgpkohglcijaaGreatDoorW.PrintWords Go.Proofs.YtihgpkohglcijaaGreatDoorW.PrintLast Go.Proofs.YtihgpkohglcijaaGreatDoorW.PrintMore
attribute [local go_sem] max2_int min2_int max_two min_two max_three min_three max_four min_four   -- for this text's walks alone
set_option linter.unusedVariables false
set_option linter.unusedSimpArgs false
set_option maxHeartbeats 8000000
set_option maxRecDepth 100000
def kd.l0:Nat→Int→Int→ByteArray→Int→Option (ByteArray)
 |0,_,_,_,_=>none
 |k+1,x0,x1,x5,x6=>if x6≥0 then(if 0≤x6 then(if(Go.bits .and .i64 (shr .i64 x1 x6) 1)=0 then(kd.l0 k x0 x1 x5 (wrap64 (x6 - 1)))else((pT.f k x0 x6 0).bind fun t233=>(if x5.toList=([]:List UInt8)then(kd.l0 k x0 x1 t233 (wrap64 (x6 - 1)))else(if 1+t233.size≤9223372036854775807 then(if((⟨#[40]⟩:ByteArray)++t233).size+1≤9223372036854775807 then(if(((⟨#[40]⟩:ByteArray)++t233)++(⟨#[124]⟩:ByteArray)).size+x5.size≤9223372036854775807 then(if((((⟨#[40]⟩:ByteArray)++t233)++(⟨#[124]⟩:ByteArray))++x5).size+1≤9223372036854775807 then(kd.l0 k x0 x1 (((((⟨#[40]⟩:ByteArray)++t233)++(⟨#[124]⟩:ByteArray))++x5)++(⟨#[41]⟩:ByteArray)) (wrap64 (x6 - 1)))else(none))else(none))else(none))else(none)))))else(none))else(some x5)
def kd.f (k:Nat) (a0:Int) (a1:Int):Option (ByteArray):=if a1=0 then(some (⟨#[48]⟩:ByteArray))else((qh.f a0).bind fun t232=>(if a1=t232 then(some (⟨#[49]⟩:ByteArray))else(if 0≤a0 then(kd.l0 k a0 a1 (⟨#[]⟩:ByteArray) (wrap64 ((shl .i64 1 a0) - 1)))else(none))))
theorem kd.jQ:∀k,(∀y0 y1 y2 y3,qg (kd.l0 k y0 y1 y2 y3) (kd.l0 (k+1) y0 y1 y2 y3))
 |0=>fun _ _ _ _=> .z (by simp only[kd.l0])
 |k+1=>by
  have i0:=kd.jQ k;exact fun _ _ _ _=>by unfold kd.l0;infer_instance
instance kd.mo {k a0 a1}:qg (kd.f k a0 a1) (kd.f (k+1) a0 a1):=by have i0:=kd.jQ k;unfold kd.f;infer_instance
theorem kd.mono:∀a0 a1 k,LeO (kd.f k a0 a1) (kd.f (k+1) a0 a1):=fun _ _ _=>kd.mo.h
theorem kd.calls (k:Nat) (a0:Int) (a1:Int) (r:ByteArray) (w:World) (h:kd.f k a0 a1=some r):
  Calls Tryz.prog 128 #[.int .i64 a0,.int .i64 a1] w fun e w'=>e= .returned (.string r)∧Drawn0 w w':=by
 have H:=h;clear h;unfold kd.f at H;rcases iT H with⟨c3,H⟩|⟨c3,H⟩
 ·obtain⟨au,av⟩:=vW c3;clear c3;obtain rfl:=vU H;go_enter Tryz.func128,Tryz.ntmps128;go_wp2;go_ret;exact vY
 ·obtain⟨au,av⟩:=vV c3;obtain⟨t232,A4,H⟩:=bE H;try dsimp only at H
  rcases iT H with⟨c5,H⟩|⟨c5,H⟩
  ·obtain⟨aw,ax⟩:=vW c5;clear c5;obtain rfl:=vU H;go_enter Tryz.func128,Tryz.ntmps128;go_wp2_with (first|(refine gB (some 13) Tryz.func140 #[.int .i64 a0] rfl ?_;(with_reducible refine(qh.calls a0 t232 _ A4.out).mono ?_);rintro e w' ⟨rfl,⟨nd,rfl⟩⟩;refine⟨_,rfl,?_⟩));go_ret;exact vY
  ·obtain⟨aw,ax⟩:=vV c5;obtain⟨aW,aY,H⟩:=vF H;obtain⟨ab,I⟩:∃j_:Int,(shl .i64 1 a0)=j_:=⟨_,rfl⟩;first|rw[I]at H|simp only[I]at H
   (try rw[I]at A4);have ag:(IntKind.i64.wrap (1*2^min a0.toNat 64))=ab:=I;have ah:a0≤64→(IntKind.i64.wrap (1*2^a0.toNat))=ab:=shl_small I;have aD:(IntKind.i64.wrap (2^min a0.toNat 64))=ab:=by have h_:=ag;rw[Int.one_mul]at h_;exact h_
   have aE:a0≤64→(IntKind.i64.wrap (2^a0.toNat))=ab:=fun ay=>by have h_:=ah ay;rw[Int.one_mul]at h_;exact h_
   have aF:(wrap64 (1*2^min a0.toNat 64))=ab:=(i64_w _).symm.trans ag;have aG:a0≤64→(wrap64 (1*2^a0.toNat))=ab:=fun h_=>(i64_w _).symm.trans (ah h_)
   have H':=bm H;clear H;go_enter Tryz.func128,Tryz.ntmps128;go_wp2_with (first|(refine gB (some 13) Tryz.func140 #[.int .i64 a0] rfl ?_;(with_reducible refine(qh.calls a0 t232 _ A4.out).mono ?_);rintro e w' ⟨rfl,⟨nd,rfl⟩⟩;refine⟨_,rfl,?_⟩));go_loopg [5,6] k (fun kq v5 v6 w'=>∃(o:ByteArray) (j:Int),v5= .string o∧v6= .int .i64 j∧jX (kd.l0 kq a0 a1 o j=some r)∧jX (kq≤k)∧Drawn0 w w')
   case atStart=>exact⟨((⟨#[]⟩:ByteArray)),(wrap64 ((ab) - 1)),(by first|rfl|(simp;done)|(simp[*];done)),(by first|rfl|(simp;done)|(simp only[←I]<;>(first|rfl|simp))|(simp[*];done)),H',⟨Nat.le_refl _⟩,by repeat(first|exact Drawn0.refl _|apply Drawn0.step)⟩
   case round=>
    clear H';obtain⟨o,j,rfl,rfl,HA,ad,⟨m1,rfl⟩⟩:=hrel;cases gk with
    |zero=>exact absurd HA.out (by simp[kd.l0])
    |succ k1=>
     have H:=HA.out;clear HA;simp only[kd.l0]at H;rcases vG H with⟨az,H⟩|⟨az,H⟩
     ·obtain⟨aZ,a6,H⟩:=vF H;obtain⟨J,aa⟩:∃j_:Int,(shr .i64 a1 j)=j_:=⟨_,rfl⟩;first|rw[aa]at H|simp only[aa]at H
      have aB:(a1/2^min j.toNat 64)=J:=aa;have aC:j≤64→(a1/2^j.toNat)=J:=shr_small aa;rcases iT H with⟨ae,H⟩|⟨ae,H⟩
      ·obtain⟨al,an⟩:=vW ae;clear ae;have H':=bm H;clear H;go_wp2;go_roundg k1
       case measure=>have:=ad.out;omega
       case rel=>exact⟨(o),(wrap64 (j - 1)),(by first|rfl|(simp;done)|(simp[*];done)),(by first|rfl|(simp;done)|(simp[*];done)),H',⟨by have:=ad.out;omega⟩,by repeat(first|exact Drawn0.refl _|apply Drawn0.step)⟩
      ·obtain⟨al,an⟩:=vV ae;obtain⟨t233,aA,H⟩:=bE H;try dsimp only at H
       rcases iT H with⟨af,H⟩|⟨af,H⟩
       ·obtain⟨ao,aq⟩:=vW af;clear af;have H':=bm H;clear H;go_wp2_with (first|(refine gB (some 29) Tryz.func148 #[.int .i64 a0,.int .i64 j,.int .i64 0] rfl ?_;(with_reducible refine(pT.calls k1 a0 j 0 t233 _ aA.out).mono ?_);rintro e w' ⟨rfl,⟨nd,rfl⟩⟩;refine⟨_,rfl,?_⟩));go_roundg k1
        case measure=>have:=ad.out;omega
        case rel=>exact⟨(t233),(wrap64 (j - 1)),(by first|rfl|(simp;done)|(simp[*];done)),(by first|rfl|(simp;done)|(simp[*];done)),H',⟨by have:=ad.out;omega⟩,by repeat(first|exact Drawn0.refl _|apply Drawn0.step)⟩
       ·obtain⟨ao,aq⟩:=vV af;obtain⟨ar,H⟩:=iN H;have aH:=vD ar;have aI:=vC ar;try have aJ:(9223372036854775807<1+t233.size)=False:=eq_false (Nat.not_lt.2 ar)
        obtain⟨ai,H⟩:=iN H;have aK:=vD ai;have aL:=vC ai;try have aM:(9223372036854775807<((⟨#[40]⟩:ByteArray)++t233).size+1)=False:=eq_false (Nat.not_lt.2 ai)
        (try have aN:(9223372036854775807<1+t233.size+1)=False:=eq_false (by have h_:=ai;(repeat rw[ByteArray.size_append]at h_);exact Nat.not_lt.2 h_));obtain⟨aj,H⟩:=iN H;have aO:=vD aj;have aP:=vC aj;try have aQ:(9223372036854775807<(((⟨#[40]⟩:ByteArray)++t233)++(⟨#[124]⟩:ByteArray)).size+o.size)=False:=eq_false (Nat.not_lt.2 aj)
        (try have aR:(9223372036854775807<1+t233.size+1+o.size)=False:=eq_false (by have h_:=aj;(repeat rw[ByteArray.size_append]at h_);exact Nat.not_lt.2 h_));obtain⟨ak,H⟩:=iN H;have aS:=vD ak;have aT:=vC ak;try have aU:(9223372036854775807<((((⟨#[40]⟩:ByteArray)++t233)++(⟨#[124]⟩:ByteArray))++o).size+1)=False:=eq_false (Nat.not_lt.2 ak)
        (try have aV:(9223372036854775807<1+t233.size+1+o.size+1)=False:=eq_false (by have h_:=ak;(repeat rw[ByteArray.size_append]at h_);exact Nat.not_lt.2 h_));have H':=bm H;clear H;go_wp2_with (first|(refine gB (some 29) Tryz.func148 #[.int .i64 a0,.int .i64 j,.int .i64 0] rfl ?_;(with_reducible refine(pT.calls k1 a0 j 0 t233 _ aA.out).mono ?_);rintro e w' ⟨rfl,⟨nd,rfl⟩⟩;refine⟨_,rfl,?_⟩));go_roundg k1
        case measure=>have:=ad.out;omega
        case rel=>exact⟨(((((⟨#[40]⟩:ByteArray)++t233)++(⟨#[124]⟩:ByteArray))++o)++(⟨#[41]⟩:ByteArray)),(wrap64 (j - 1)),(by first|rfl|(simp;done)|(simp[*];done)),(by first|rfl|(simp;done)|(simp[*];done)),H',⟨by have:=ad.out;omega⟩,by repeat(first|exact Drawn0.refl _|apply Drawn0.step)⟩
     ·obtain rfl:=vU H;go_wp2;go_ret;exact⟨by first|rfl|(simp;done)|(simp only[←I]<;>(first|rfl|simp))|(simp[*];done),by repeat(first|exact Drawn0.refl _|apply Drawn0.step)⟩
end Go.Proofs.YtihgpkohglcijaaGreatDoor.P
