import Derived.Test.YtihgpkohglcijaaGreatDoorPx0
import Derived.Test.YtihgpkohglcijaaGreatDoorPx15
import Derived.Test.YtihgpkohglcijaaGreatDoorPx18
namespace Go.Proofs.YtihgpkohglcijaaGreatDoor.P
open Go.RowKit Go.Proofs.YtihgpkohglcijaaGreatDoorW.PrintWords Go.Proofs.YtihgpkohglcijaaGreatDoorW.PrintLast Go.Proofs.YtihgpkohglcijaaGreatDoorW.PrintMore
attribute [local go_sem] max2_int min2_int max_two min_two max_three min_three max_four min_four   -- for this text's walks alone
set_option linter.unusedVariables false
set_option linter.unusedSimpArgs false
set_option maxHeartbeats 8000000
set_option maxRecDepth 100000
def kQ.j0:Nat→Int→ByteArray→Bool→Option (Int×Bool)
 |0,_,_,_=>none
 |k+1,x0,x1,x15=>if x15=true then(some ((-1),false))else((jR.f k x0 x1 0).bind fun b6=>(if b6.2=(x1.size:Int)then(some (b6.1,true))else(some ((-1),false))))
def kQ.f (k:Nat) (a0:Int) (a1:ByteArray):Option (Int×Bool):=(qt.f a0 1 3).bind fun aZ=>(if aZ=true then(kQ.j0 k a0 a1 (decide ((a1.size:Int)>120)))else(kQ.j0 k a0 a1 true))
theorem kQ.jQ:∀k,(∀y0 y1 y2,qg (kQ.j0 k y0 y1 y2) (kQ.j0 (k+1) y0 y1 y2))
 |0=>fun _ _ _=> .z (by simp only[kQ.j0])
 |k+1=>by
  have i0:=kQ.jQ k;exact fun _ _ _=>by unfold kQ.j0;infer_instance
instance kQ.mo {k a0 a1}:qg (kQ.f k a0 a1) (kQ.f (k+1) a0 a1):=by have i0:=kQ.jQ k;unfold kQ.f;infer_instance
theorem kQ.calls (k:Nat) (a0:Int) (a1:ByteArray) (r1:Int) (r2:Bool) (w:World) (h:kQ.f k a0 a1=some (r1,r2)):
  Calls Tryz.prog 51 #[.int .i64 a0,.string a1] w fun e w'=>e= .returned (.tuple #[.int .i64 r1,.bool r2])∧Drawn0 w w':=by
 have H:=h;clear h;unfold kQ.f at H;have cO:=bm H;clear H;go_enter Tryz.func51,Tryz.ntmps51;go_upto_region 1 with(fail)
 go_cut [15] (fun eb wc=>∃(kq:Nat) (aV:Bool),eb= .bool aV∧jX (kQ.j0 kq a0 a1 aV=some (r1,r2))∧jX (kq≤k)∧Drawn0 w wc)
 case first=>
  have H:=cO.out;clear cO;obtain⟨aZ,A4,H⟩:=bE H;try dsimp only at H
  by_cases c5:aZ=true
  ·subst c5;rw[if_pos rfl]at H;have H':=bm H;clear H;go_wp2_with (first|(refine gB (some 9) Tryz.func100 #[.int .i64 a0,.int .i64 1,.int .i64 3] rfl ?_;(with_reducible refine(qt.calls a0 1 3 true _ A4.out).mono ?_);rintro e w' ⟨rfl,⟨nd,rfl⟩⟩;refine⟨_,rfl,?_⟩));go_meet
   case rel=>exact⟨_,(decide ((a1.size:Int)>120)),(by first|rfl|(simp;done)|(simp[*];done)),H',⟨by first|omega|exact Nat.le_refl _⟩,by repeat(first|exact Drawn0.refl _|apply Drawn0.step)⟩
  ·replace c5:=uZ c5;subst c5;rw[if_neg vM]at H;have H':=bm H;clear H;go_wp2_with (first|(refine gB (some 9) Tryz.func100 #[.int .i64 a0,.int .i64 1,.int .i64 3] rfl ?_;(with_reducible refine(qt.calls a0 1 3 false _ A4.out).mono ?_);rintro e w' ⟨rfl,⟨nd,rfl⟩⟩;refine⟨_,rfl,?_⟩));go_meet
   case rel=>exact⟨_,(true),(by first|rfl|(simp;done)|(simp[*];done)),H',⟨by first|omega|exact Nat.le_refl _⟩,by repeat(first|exact Drawn0.refl _|apply Drawn0.step)⟩
 case rest=>
  clear cO;obtain⟨kq,aV,rfl,HA,eJ,⟨eK,rfl⟩⟩:=hcut;cases kq with
  |zero=>exact absurd HA.out (by simp[kQ.j0])
  |succ AE=>
   have H:=HA.out;clear HA;simp only[kQ.j0]at H;by_cases c6:aV=true
   ·subst c6;rw[if_pos rfl]at H;obtain⟨rfl,rfl⟩:=s2 H;go_wp2;go_ret2;exact vY
   ·replace c6:=uZ c6;subst c6;rw[if_neg vM]at H;obtain⟨⟨cD,aN⟩,A7,H⟩:=bE H;try dsimp only at H
    rcases iT H with⟨c8,H⟩|⟨c8,H⟩
    ·obtain⟨b0,dj⟩:=vW c8;clear c8;obtain⟨rfl,rfl⟩:=s2 H;go_wp2_with (first|(refine gB (some 19) Tryz.func109 #[.int .i64 a0,.string a1,.int .i64 0] rfl ?_;(with_reducible refine(jR.calls AE a0 a1 0 cD aN _ A7.out).mono ?_);rintro e w' ⟨rfl,⟨nd,rfl⟩⟩;refine⟨_,rfl,?_⟩));go_ret2;exact vY
    ·obtain⟨b0,dj⟩:=vV c8;obtain⟨rfl,rfl⟩:=s2 H;go_wp2_with (first|(refine gB (some 19) Tryz.func109 #[.int .i64 a0,.string a1,.int .i64 0] rfl ?_;(with_reducible refine(jR.calls AE a0 a1 0 cD aN _ A7.out).mono ?_);rintro e w' ⟨rfl,⟨nd,rfl⟩⟩;refine⟨_,rfl,?_⟩));go_ret2;exact vY
mutual
def kv.l0:Nat→List Int→Int→Int→Int→Option (Int)
 |0,_,_,_,_=>none
 |k+1,x0,x1,x5,x6=>if x6<(x0.length:Int)then((pV.f x1 x6).bind fun az=>(if az=1 then(if 0≤x6 then(kv.l0 k x0 x1 (mn x5 (rd x0 x6)) (wrap64 (x6+1)))else(none))else(kv.l0 k x0 x1 x5 (wrap64 (x6+1)))))else(kv.l1 k x0 x1 x5 0 0)
def kv.l1:Nat→List Int→Int→Int→Int→Int→Option (Int)
 |0,_,_,_,_,_=>none
 |k+1,x0,x1,x5,x7,x8=>if x8<(x0.length:Int)then((pV.f x1 x8).bind fun au=>(if au=1 then(if 0≤x8 then(if(rd x0 x8)=x5 then(kv.l1 k x0 x1 x5 (wrap64 (x7+(shl .i64 1 x8))) (wrap64 (x8+1)))else(kv.l1 k x0 x1 x5 x7 (wrap64 (x8+1))))else(none))else(kv.l1 k x0 x1 x5 x7 (wrap64 (x8+1)))))else(some x7)
end
def kv.f (k:Nat) (l0:List Int) (a1:Int):Option (Int):=kv.l0 k l0 a1 10 0
theorem kv.jQ:∀k,(∀y0 y1 y2 y3,qg (kv.l0 k y0 y1 y2 y3) (kv.l0 (k+1) y0 y1 y2 y3))∧(∀y0 y1 y2 y3 y4,qg (kv.l1 k y0 y1 y2 y3 y4) (kv.l1 (k+1) y0 y1 y2 y3 y4))
 |0=>⟨fun _ _ _ _=> .z (by simp only[kv.l0]),fun _ _ _ _ _=> .z (by simp only[kv.l1])⟩
 |k+1=>by
  have⟨i0,i1⟩:=kv.jQ k;exact⟨fun _ _ _ _=>by unfold kv.l0;infer_instance,fun _ _ _ _ _=>by unfold kv.l1;infer_instance⟩
instance kv.mo {k a0 a1}:qg (kv.f k a0 a1) (kv.f (k+1) a0 a1):=by have⟨i0,i1⟩:=kv.jQ k;unfold kv.f;infer_instance
theorem kv.calls (k:Nat) (A0:Option Addr) (c0:Nat) (l0:List Int) (a1:Int) (r:Int) (w:World) (a6:Kd.C (Kd.int .i64) w A0 l0.length l0) (a7:l0.length≤c0) (h:kv.f k l0 a1=some r):
  Calls Tryz.prog 104 #[.slice A0 l0.length c0,.int .i64 a1] w fun e w'=>e= .returned (.int .i64 r)∧Below w.heap.size w w':=by
 have aM:=bm a6;have dk:=bm a7;clear a6 a7;have HB:=bm (Below.refl w.heap.size w);have H:=h;clear h;unfold kv.f at H;have H':=bm H;clear H;go_enter Tryz.func104,Tryz.ntmps104;go_wp2;go_loopg [5,6] k (fun kq v5 v6 w'=>∃(ad:Int) (o:Int),v5= .int .i64 ad∧v6= .int .i64 o∧jX (kv.l0 kq l0 a1 ad o=some r)∧jX (kq≤k)∧jX (Below w.heap.size w w'))
 case atStart=>exact⟨(10),(0),(by first|rfl|(simp;done)|(simp[*];done)),(by first|rfl|(simp;done)|(simp[*];done)),H',⟨Nat.le_refl _⟩,⟨wZ HB⟩⟩
 case round=>
  clear H';obtain⟨ad,o,rfl,rfl,HA,ae,HB⟩:=hrel;cases gk with
  |zero=>exact absurd HA.out (by simp[kv.l0])
  |succ k1=>
   have H:=HA.out;clear HA;simp only[kv.l0]at H;rcases vG H with⟨dm,H⟩|⟨dm,H⟩
   ·obtain⟨az,A4,H⟩:=bE H;try dsimp only at H
    rcases iT H with⟨c5,H⟩|⟨c5,H⟩
    ·obtain⟨b7,dn⟩:=vW c5;clear c5;obtain⟨dp,H⟩:=vE H;obtain⟨dq,a8⟩:∃j_:Int,(mn ad (rd l0 o))=j_:=⟨_,rfl⟩;first|rw[a8]at H|simp only[a8]at H
     (try rw[a8]at A4);have ec:(if(rd l0 o)<ad then(rd l0 o)else ad)=dq:=a8;have H':=bm H;clear H;go_wp2_with (first|(refine gB (some 17) Tryz.func107 #[.int .i64 a1,.int .i64 o] rfl ?_;(with_reducible refine(pV.calls a1 o az _ A4.out).mono ?_);rintro e w' ⟨rfl,⟨nd,rfl⟩⟩;refine⟨_,rfl,?_⟩;have b8:0≤(o:Int):=pG;have b9:o<(l0.length:Int):=pG;obtain⟨ed,dr,aA⟩:=Kd.at_int aM.out o b8 b9;cases dr;replace aA:=vA HB aA;replace b8:=vD b8;replace b9:=vD b9));go_roundg k1
     case measure=>have:=ae.out;omega
     case rel=>exact⟨(dq),(wrap64 (o+1)),(by first|rfl|(simp;done)|(simp only[←a8]<;>(first|rfl|simp))|(simp[*];done)),(by first|rfl|(simp;done)|(simp[*];done)),H',⟨by have:=ae.out;omega⟩,⟨wZ HB⟩⟩
    ·obtain⟨b7,dn⟩:=vV c5;have H':=bm H;clear H;go_wp2_with (first|(refine gB (some 17) Tryz.func107 #[.int .i64 a1,.int .i64 o] rfl ?_;(with_reducible refine(pV.calls a1 o az _ A4.out).mono ?_);rintro e w' ⟨rfl,⟨nd,rfl⟩⟩;refine⟨_,rfl,?_⟩));go_roundg k1
     case measure=>have:=ae.out;omega
     case rel=>exact⟨(ad),(wrap64 (o+1)),(by first|rfl|(simp;done)|(simp[*];done)),(by first|rfl|(simp;done)|(simp[*];done)),H',⟨by have:=ae.out;omega⟩,⟨wZ HB⟩⟩
   ·have H':=bm H;clear H;go_wp2;go_loopg [7,8] k1 (fun kq v7 v8 w'=>∃(aQ:Int) (j:Int),v7= .int .i64 aQ∧v8= .int .i64 j∧jX (kv.l1 kq l0 a1 ad aQ j=some r)∧jX (kq≤k1)∧jX (Below w.heap.size w w'))
    case atStart=>exact⟨(0),(0),(by first|rfl|(simp;done)|(simp[*];done)),(by first|rfl|(simp;done)|(simp[*];done)),H',⟨Nat.le_refl _⟩,⟨wZ HB⟩⟩
    case round=>
     clear H';obtain⟨aQ,j,rfl,rfl,HA,ak,HB⟩:=hrel;cases gk with
     |zero=>exact absurd HA.out (by simp[kv.l1])
     |succ k2=>
      have H:=HA.out;clear HA;simp only[kv.l1]at H;rcases vG H with⟨b0,H⟩|⟨b0,H⟩
      ·obtain⟨au,A9,H⟩:=bE H;try dsimp only at H
       rcases iT H with⟨c10,H⟩|⟨c10,H⟩
       ·obtain⟨al,bn⟩:=vW c10;clear c10;obtain⟨ca,H⟩:=vE H;rcases iT H with⟨aC,H⟩|⟨aC,H⟩
        ·obtain⟨cP,cQ⟩:=vW aC;clear aC;have ee:=vD (pG:0≤j);obtain⟨aD,aw⟩:∃j_:Int,(shl .i64 1 j)=j_:=⟨_,rfl⟩;first|rw[aw]at H|simp only[aw]at H
         (try rw[aw]at A9);have b1:(IntKind.i64.wrap (1*2^min j.toNat 64))=aD:=aw;have b4:j≤64→(IntKind.i64.wrap (1*2^j.toNat))=aD:=shl_small aw;have dX:(IntKind.i64.wrap (2^min j.toNat 64))=aD:=by have h_:=b1;rw[Int.one_mul]at h_;exact h_
         have dY:j≤64→(IntKind.i64.wrap (2^j.toNat))=aD:=fun dt=>by have h_:=b4 dt;rw[Int.one_mul]at h_;exact h_
         have dZ:(wrap64 (1*2^min j.toNat 64))=aD:=(i64_w _).symm.trans b1;have ea:j≤64→(wrap64 (1*2^j.toNat))=aD:=fun h_=>(i64_w _).symm.trans (b4 h_)
         have H':=bm H;clear H;go_wp2_with (first|(refine gB (some 33) Tryz.func107 #[.int .i64 a1,.int .i64 j] rfl ?_;(with_reducible refine(pV.calls a1 j au _ A9.out).mono ?_);rintro e w' ⟨rfl,⟨nd,rfl⟩⟩;refine⟨_,rfl,?_⟩;have aE:0≤(j:Int):=pG;have aG:j<(l0.length:Int):=pG;obtain⟨cR,cb,af⟩:=Kd.at_int aM.out j aE aG;cases cb;replace af:=vA HB af;replace aE:=vD aE;replace aG:=vD aG));go_roundg k2
         case measure=>have:=ae.out;have:=ak.out;omega
         case rel=>exact⟨(wrap64 (aQ+(aD))),(wrap64 (j+1)),(by first|rfl|(simp;done)|(simp only[←aw]<;>(first|rfl|simp))|(simp[*];done)),(by first|rfl|(simp;done)|(simp[*];done)),H',⟨by have:=ae.out;have:=ak.out;omega⟩,⟨wZ HB⟩⟩
        ·obtain⟨cP,cQ⟩:=vV aC;have H':=bm H;clear H;go_wp2_with (first|(refine gB (some 33) Tryz.func107 #[.int .i64 a1,.int .i64 j] rfl ?_;(with_reducible refine(pV.calls a1 j au _ A9.out).mono ?_);rintro e w' ⟨rfl,⟨nd,rfl⟩⟩;refine⟨_,rfl,?_⟩;have aE:0≤(j:Int):=pG;have aG:j<(l0.length:Int):=pG;obtain⟨cR,cb,af⟩:=Kd.at_int aM.out j aE aG;cases cb;replace af:=vA HB af;replace aE:=vD aE;replace aG:=vD aG));go_roundg k2
         case measure=>have:=ae.out;have:=ak.out;omega
         case rel=>exact⟨(aQ),(wrap64 (j+1)),(by first|rfl|(simp;done)|(simp[*];done)),(by first|rfl|(simp;done)|(simp[*];done)),H',⟨by have:=ae.out;have:=ak.out;omega⟩,⟨wZ HB⟩⟩
       ·obtain⟨al,bn⟩:=vV c10;have H':=bm H;clear H;go_wp2_with (first|(refine gB (some 33) Tryz.func107 #[.int .i64 a1,.int .i64 j] rfl ?_;(with_reducible refine(pV.calls a1 j au _ A9.out).mono ?_);rintro e w' ⟨rfl,⟨nd,rfl⟩⟩;refine⟨_,rfl,?_⟩));go_roundg k2
        case measure=>have:=ae.out;have:=ak.out;omega
        case rel=>exact⟨(aQ),(wrap64 (j+1)),(by first|rfl|(simp;done)|(simp[*];done)),(by first|rfl|(simp;done)|(simp[*];done)),H',⟨by have:=ae.out;have:=ak.out;omega⟩,⟨wZ HB⟩⟩
      ·obtain rfl:=vU H;go_wp2;go_ret;exact vZ HB
def oD.f (a0:Int) (a1:Int):Option (Bool):=(qt.f a0 1 3).bind fun bb=>(if bb=true then((qw.f a0).bind fun aR=>((qt.f a1 0 aR).bind fun bc=>(some bc)))else(some false))
theorem oD.calls (a0:Int) (a1:Int) (r:Bool) (w:World) (h:oD.f a0 a1=some r):
  Calls Tryz.prog 106 #[.int .i64 a0,.int .i64 a1] w fun e w'=>e= .returned (.bool r)∧Drawn0 w w':=by
 have H:=h;clear h;unfold oD.f at H;obtain⟨bb,A3,H⟩:=bE H;try dsimp only at H
 by_cases c4:bb=true
 ·subst c4;rw[if_pos rfl]at H;obtain⟨aR,A5,H⟩:=bE H;try dsimp only at H
  obtain⟨bc,A6,H⟩:=bE H;try dsimp only at H
  obtain rfl:=vU H;go_enter Tryz.func106,Tryz.ntmps106;go_wp2_with (first|(refine gB (some 6) Tryz.func100 #[.int .i64 a0,.int .i64 1,.int .i64 3] rfl ?_;(with_reducible refine(qt.calls a0 1 3 true _ A3.out).mono ?_);rintro e w' ⟨rfl,⟨nd,rfl⟩⟩;refine⟨_,rfl,?_⟩)|(go_at_call 105;(with_reducible refine(qw.calls a0 aR _ A5.out).mono ?_);rintro e w' ⟨rfl,⟨nd,rfl⟩⟩)|(go_at_call 100;(with_reducible refine(qt.calls a1 0 aR bc _ A6.out).mono ?_);rintro e w' ⟨rfl,⟨nd,rfl⟩⟩));go_ret;exact vY
 ·replace c4:=uZ c4;subst c4;rw[if_neg vM]at H;obtain rfl:=vU H;go_enter Tryz.func106,Tryz.ntmps106;go_wp2_with (first|(refine gB (some 6) Tryz.func100 #[.int .i64 a0,.int .i64 1,.int .i64 3] rfl ?_;(with_reducible refine(qt.calls a0 1 3 false _ A3.out).mono ?_);rintro e w' ⟨rfl,⟨nd,rfl⟩⟩;refine⟨_,rfl,?_⟩));go_ret;exact vY
mutual
def ky.l0:Nat→List Int→List Int→Int→Option (List Int)
 |0,_,_,_=>none
 |k+1,x0,x3,x4=>if x4<(x0.length:Int)then(ky.l1 k x0 x3 x4 (([]:List Int)) 0)else(some x3)
def ky.l1:Nat→List Int→List Int→Int→List Int→Int→Option (List Int)
 |0,_,_,_,_,_=>none
 |k+1,x0,x3,x4,x5,x6=>if x6<(x0.length:Int)then(if 0≤x6 then(if 0≤x4 then(if x4<(x0.length:Int)then(ky.l2 k x0 x3 x4 x5 x6 (decide ((rd x0 x6)≥(rd x0 x4))) 0)else(none))else(none))else(none))else(if x3.length<17592186044416 then(ky.l0 k x0 (x3++ [(x5.length:Int)]) (wrap64 (x4+1)))else(none))
def ky.l2:Nat→List Int→List Int→Int→List Int→Int→Bool→Int→Option (List Int)
 |0,_,_,_,_,_,_,_=>none
 |k+1,x0,x3,x4,x5,x6,x7,x8=>if x8<(x5.length:Int)then(if x7=true then(ky.l2 k x0 x3 x4 x5 x6 true (wrap64 (x8+1)))else(if 0≤x8 then(if 0≤x6 then(if x6<(x0.length:Int)then(ky.l2 k x0 x3 x4 x5 x6 ((rd x5 x8)==(rd x0 x6)) (wrap64 (x8+1)))else(none))else(none))else(none)))else(if x7=true then(ky.l1 k x0 x3 x4 x5 (wrap64 (x6+1)))else(if 0≤x6 then(if x6<(x0.length:Int)then(if x5.length<17592186044416 then(ky.l1 k x0 x3 x4 (x5++ [rd x0 x6]) (wrap64 (x6+1)))else(none))else(none))else(none)))
end
def ky.f (k:Nat) (l0:List Int):Option (List Int):=ky.l0 k l0 (([]:List Int)) 0
theorem ky.jQ:∀k,(∀y0 y1 y2,qg (ky.l0 k y0 y1 y2) (ky.l0 (k+1) y0 y1 y2))∧(∀y0 y1 y2 y3 y4,qg (ky.l1 k y0 y1 y2 y3 y4) (ky.l1 (k+1) y0 y1 y2 y3 y4))∧(∀y0 y1 y2 y3 y4 y5 y6,qg (ky.l2 k y0 y1 y2 y3 y4 y5 y6) (ky.l2 (k+1) y0 y1 y2 y3 y4 y5 y6))
 |0=>⟨fun _ _ _=> .z (by simp only[ky.l0]),fun _ _ _ _ _=> .z (by simp only[ky.l1]),fun _ _ _ _ _ _ _=> .z (by simp only[ky.l2])⟩
 |k+1=>by
  have⟨i0,i1,i2⟩:=ky.jQ k;exact⟨fun _ _ _=>by unfold ky.l0;infer_instance,fun _ _ _ _ _=>by unfold ky.l1;infer_instance,fun _ _ _ _ _ _ _=>by unfold ky.l2;infer_instance⟩
instance ky.mo {k a0}:qg (ky.f k a0) (ky.f (k+1) a0):=by have⟨i0,i1,i2⟩:=ky.jQ k;unfold ky.f;infer_instance
theorem ky.calls (k:Nat) (A0:Option Addr) (c0:Nat) (l0:List Int) (r:List Int) (w:World) (a6:Kd.C (Kd.int .i64) w A0 l0.length l0) (a7:l0.length≤c0) (h:ky.f k l0=some r):
  Calls Tryz.prog 156 #[.slice A0 l0.length c0] w fun e w'=>∃bd:Value,e= .returned (bd)∧Kd.R (Kd.int .i64) 3 w' w.heap.size (fun _=>True) bd r∧Below w.heap.size w w':=by
 have aM:=bm a6;have dk:=bm a7;clear a6 a7;have HB:=bm (Below.refl w.heap.size w);have H:=h;clear h;unfold ky.f at H;obtain⟨cE,bo⟩:∃y_:List Int,y_=(([]:List Int)):=⟨_,rfl⟩;replace H:(ky.l0 k l0 cE 0)=some r:=by first|(rw[bo];exact H)|exact H
 have ax:=bm bo;clear bo;have H':=bm H;clear H;go_enter Tryz.func156,Tryz.ntmps156;go_wp2_with (first|((with_reducible refine gate_dst (N:=9) rfl ?_);refine Kd.R_lit (Kd.int .i64) _ 3 ?hg (N:=9) ?hd (xs:=([]:List Int)) (inner:=[]) (ok:=fun _=>True) (okp:=fun _=>True) ?hr ?hp (fun _ hk=>hk) trivial (Below.refl _ _) (Nat.le_refl _) (by simp) ?_;(case hd=>rfl);(case hg=>rfl);(case hr=>first|(go_simp;done)|(go_simp;rfl));(case hp=>exact(Reps.none _ _));intro cF w2 an hb aq ab;clear aq ab;(first|rw[←ax.out]at an|(simp only[Int.reduceToNat]at an;rw[←ax.out]at an));have bp:=vX an HB;replace HB:=bW HB hb;clear hb an));repeat(go_quiet (first|((with_reducible refine gate_dst (N:=9) rfl ?_);refine Kd.R_lit (Kd.int .i64) _ 3 ?hg (N:=9) ?hd (xs:=([]:List Int)) (inner:=[]) (ok:=fun _=>True) (okp:=fun _=>True) ?hr ?hp (fun _ hk=>hk) trivial (Below.refl _ _) (Nat.le_refl _) (by simp) ?_;(case hd=>rfl);(case hg=>rfl);(case hr=>first|(go_simp;done)|(go_simp;rfl));(case hp=>exact(Reps.none _ _));intro cF w2 an hb aq ab;clear aq ab;(first|rw[←ax.out]at an|(simp only[Int.reduceToNat]at an;rw[←ax.out]at an));have bp:=vX an HB;replace HB:=bW HB hb;clear hb an));try go_wp2_with (first|((with_reducible refine gate_dst (N:=9) rfl ?_);refine Kd.R_lit (Kd.int .i64) _ 3 ?hg (N:=9) ?hd (xs:=([]:List Int)) (inner:=[]) (ok:=fun _=>True) (okp:=fun _=>True) ?hr ?hp (fun _ hk=>hk) trivial (Below.refl _ _) (Nat.le_refl _) (by simp) ?_;(case hd=>rfl);(case hg=>rfl);(case hr=>first|(go_simp;done)|(go_simp;rfl));(case hp=>exact(Reps.none _ _));intro cF w2 an hb aq ab;clear aq ab;(first|rw[←ax.out]at an|(simp only[Int.reduceToNat]at an;rw[←ax.out]at an));have bp:=vX an HB;replace HB:=bW HB hb;clear hb an)))
 go_loopg [3,4] k (fun kq v3 v4 w'=>∃(ag:List Int) (ah:Int),v4= .int .i64 ah∧jX (ky.l0 kq l0 ag ah=some r)∧jX (kq≤k)∧jX (Kd.R (Kd.int .i64) 3 w' w.heap.size (fun _=>True) v3 ag)∧jX (Below w.heap.size w w'))
 case atStart=>exact⟨(cE),(0),(by first|rfl|(simp;done)|(simp[*];done)),H',⟨Nat.le_refl _⟩,⟨by(repeat apply Kd.RS);exact bp.out⟩,⟨wZ HB⟩⟩
 case round=>
  clear H';obtain⟨ag,ah,rfl,HA,ae,rv,HB⟩:=hrel;cases gk with
  |zero=>exact absurd HA.out (by simp[ky.l0])
  |succ k1=>
   have H:=HA.out;clear HA;simp only[ky.l0]at H;rcases vG H with⟨du,H⟩|⟨du,H⟩
   ·obtain⟨cG,bq⟩:∃y_:List Int,y_=(([]:List Int)):=⟨_,rfl⟩;replace H:(ky.l1 k1 l0 ag ah cG 0)=some r:=by first|(rw[bq];exact H)|exact H
    have ay:=bm bq;clear bq;have H':=bm H;clear H;go_wp2_with (first|((with_reducible refine gate_dst (N:=16) rfl ?_);refine Kd.R_lit (Kd.int .i64) _ 3 ?hg (N:=16) ?hd (xs:=([]:List Int)) (inner:=[]) (ok:=fun _=>True) (okp:=fun _=>True) ?hr ?hp (fun _ hk=>hk) trivial (Below.refl _ _) (Nat.le_refl _) (by simp) ?_;(case hd=>rfl);(case hg=>rfl);(case hr=>first|(go_simp;done)|(go_simp;rfl));(case hp=>exact(Reps.none _ _));intro cH w5 ai hb aq ab;clear aq ab;(first|rw[←ay.out]at ai|(simp only[Int.reduceToNat]at ai;rw[←ay.out]at ai));have br:=bm (Kd.R_lower (Kd.R_new' ai (Kd.R_lt (rS rv))) (below_size (wZ HB)));replace rv:=bm (Kd.R_elder' (rS rv) (Kd.R_base ai) hb);replace HB:=bW HB hb;clear hb ai));repeat(go_quiet (first|((with_reducible refine gate_dst (N:=16) rfl ?_);refine Kd.R_lit (Kd.int .i64) _ 3 ?hg (N:=16) ?hd (xs:=([]:List Int)) (inner:=[]) (ok:=fun _=>True) (okp:=fun _=>True) ?hr ?hp (fun _ hk=>hk) trivial (Below.refl _ _) (Nat.le_refl _) (by simp) ?_;(case hd=>rfl);(case hg=>rfl);(case hr=>first|(go_simp;done)|(go_simp;rfl));(case hp=>exact(Reps.none _ _));intro cH w5 ai hb aq ab;clear aq ab;(first|rw[←ay.out]at ai|(simp only[Int.reduceToNat]at ai;rw[←ay.out]at ai));have br:=bm (Kd.R_lower (Kd.R_new' ai (Kd.R_lt (rS rv))) (below_size (wZ HB)));replace rv:=bm (Kd.R_elder' (rS rv) (Kd.R_base ai) hb);replace HB:=bW HB hb;clear hb ai));try go_wp2_with (first|((with_reducible refine gate_dst (N:=16) rfl ?_);refine Kd.R_lit (Kd.int .i64) _ 3 ?hg (N:=16) ?hd (xs:=([]:List Int)) (inner:=[]) (ok:=fun _=>True) (okp:=fun _=>True) ?hr ?hp (fun _ hk=>hk) trivial (Below.refl _ _) (Nat.le_refl _) (by simp) ?_;(case hd=>rfl);(case hg=>rfl);(case hr=>first|(go_simp;done)|(go_simp;rfl));(case hp=>exact(Reps.none _ _));intro cH w5 ai hb aq ab;clear aq ab;(first|rw[←ay.out]at ai|(simp only[Int.reduceToNat]at ai;rw[←ay.out]at ai));have br:=bm (Kd.R_lower (Kd.R_new' ai (Kd.R_lt (rS rv))) (below_size (wZ HB)));replace rv:=bm (Kd.R_elder' (rS rv) (Kd.R_base ai) hb);replace HB:=bW HB hb;clear hb ai)))
    go_loopg [5,6] k1 (fun kq v5 v6 w'=>∃(I:List Int) (J:Int),v6= .int .i64 J∧jX (ky.l1 kq l0 ag ah I J=some r)∧jX (kq≤k1)∧jX (Kd.R (Kd.int .i64) 3 w' w.heap.size (fun k_=>some k_≠(v5:Value).ownBlock) u3 ag)∧jX (Kd.R (Kd.int .i64) 3 w' w.heap.size (fun k_=>some k_≠(u3:Value).ownBlock) v5 I)∧jX (Below w.heap.size w w'))
    case atStart=>exact⟨(cG),(0),(by first|rfl|(simp;done)|(simp[*];done)),H',⟨Nat.le_refl _⟩,⟨by(repeat apply Kd.RS);exact Kd.R_mono rv.out (fun _ hk=>hk.2)⟩,⟨by(repeat apply Kd.RS);exact Kd.R_mono br.out (fun _ hk=>hk.2)⟩,⟨wZ HB⟩⟩
    case round=>
     clear H';obtain⟨I,J,rfl,HA,ak,rv,qL,HB⟩:=hrel;cases gk with
     |zero=>exact absurd HA.out (by simp[ky.l1])
     |succ k2=>
      have H:=HA.out;clear HA;simp only[ky.l1]at H;rcases vG H with⟨dv,H⟩|⟨dv,H⟩
      ·obtain⟨b0,H⟩:=vE H;obtain⟨ev,H⟩:=vE H;obtain⟨al,H⟩:=vE H;have H':=bm H;clear H;have cc:0≤(J:Int):=pG;have cd:J<(l0.length:Int):=pG;obtain⟨bs,dw,aH⟩:=Kd.at_int aM.out J cc cd;cases dw;replace aH:=vA HB aH;replace cc:=vD cc;replace cd:=vD cd;have cf:0≤(ah:Int):=pG;have cg:ah<(l0.length:Int):=pG;obtain⟨cS,dx,aI⟩:=Kd.at_int aM.out ah cf cg;obtain rfl:bs=cS:=(by injection dx);replace aI:=vA HB aI;replace cf:=vD cf;replace cg:=vD cg;go_wp2;repeat(go_quiet (fail);try go_wp2)
       go_loopg [7,8] k2 (fun kq v7 v8 w'=>∃(bf:Bool) (av:Int),v7= .bool bf∧v8= .int .i64 av∧jX (ky.l2 kq l0 ag ah I J bf av=some r)∧jX (kq≤k2)∧jX (Kd.R (Kd.int .i64) 3 w' w.heap.size (fun k_=>some k_≠(u5:Value).ownBlock) u3 ag)∧jX (Kd.R (Kd.int .i64) 3 w' w.heap.size (fun k_=>some k_≠(u3:Value).ownBlock) u5 I)∧jX (Below w.heap.size w w'))
       case atStart=>exact⟨(decide ((rd l0 J)≥(rd l0 ah))),(0),(by first|rfl|(simp;done)|(simp[*];done)),(by first|rfl|(simp;done)|(simp[*];done)),H',⟨Nat.le_refl _⟩,⟨by(repeat apply Kd.RS);exact rv.out⟩,⟨by(repeat apply Kd.RS);exact qL.out⟩,⟨wZ HB⟩⟩
       case round=>
        clear H';obtain⟨bf,av,rfl,rfl,HA,bg,rv,qL,HB⟩:=hrel;cases gk with
        |zero=>exact absurd HA.out (by simp[ky.l2])
        |succ k3=>
         have H:=HA.out;clear HA;simp only[ky.l2]at H;rcases vG H with⟨ca,H⟩|⟨ca,H⟩
         ·by_cases aC:bf=true
          ·subst aC;rw[if_pos rfl]at H;have H':=bm H;clear H;obtain⟨ew,ey,dy⟩:=Kd.R_slice qL.out;subst dy;go_wp2;repeat(go_quiet (fail);try go_wp2)
           go_roundg k3
           case measure=>have:=ae.out;have:=ak.out;have:=bg.out;omega
           case rel=>exact⟨(true),(wrap64 (av+1)),(by first|rfl|(simp;done)|(simp[*];done)),(by first|rfl|(simp;done)|(simp[*];done)),H',⟨by have:=ae.out;have:=ak.out;have:=bg.out;omega⟩,⟨by(repeat apply Kd.RS);exact rv.out⟩,⟨by(repeat apply Kd.RS);exact qL.out⟩,⟨wZ HB⟩⟩
          ·replace aC:=uZ aC;subst aC;rw[if_neg vM]at H;obtain⟨ef,H⟩:=vE H;obtain⟨eg,H⟩:=vE H;obtain⟨eh,H⟩:=vE H;have H':=bm H;clear H;obtain⟨ez,eA,dB⟩:=Kd.R_slice qL.out;subst dB;have ch:0≤(av:Int):=pG;have cj:av<(I.length:Int):=pG;obtain⟨ei,dC,dD⟩:=Kd.at_int (Kd.R_reads' qL.out).2.2 av ch cj;cases dC;replace ch:=vD ch;replace cj:=vD cj;have ck:0≤(J:Int):=pG;have cl:J<(l0.length:Int):=pG;obtain⟨cT,dE,aJ⟩:=Kd.at_int aM.out J ck cl;obtain rfl:bs=cT:=(by injection dE);replace aJ:=vA HB aJ;replace ck:=vD ck;replace cl:=vD cl;go_wp2;repeat(go_quiet (fail);try go_wp2)
           go_roundg k3
           case measure=>have:=ae.out;have:=ak.out;have:=bg.out;omega
           case rel=>exact⟨(((rd I av)==(rd l0 J))),(wrap64 (av+1)),(by first|rfl|(simp;done)|(simp[*];done)),(by first|rfl|(simp;done)|(simp[*];done)),H',⟨by have:=ae.out;have:=ak.out;have:=bg.out;omega⟩,⟨by(repeat apply Kd.RS);exact rv.out⟩,⟨by(repeat apply Kd.RS);exact qL.out⟩,⟨wZ HB⟩⟩
         ·by_cases cC:bf=true
          ·subst cC;rw[if_pos rfl]at H;have H':=bm H;clear H;obtain⟨eB,eC,dF⟩:=Kd.R_slice qL.out;subst dF;go_wp2;repeat(go_quiet (fail);try go_wp2)
           go_roundg k3
           case measure=>have:=ae.out;have:=ak.out;have:=bg.out;omega
           case rel=>exact⟨(I),(wrap64 (J+1)),(by first|rfl|(simp;done)|(simp[*];done)),H',⟨by have:=ae.out;have:=ak.out;have:=bg.out;omega⟩,⟨by(repeat apply Kd.RS);exact rv.out⟩,⟨by(repeat apply Kd.RS);exact qL.out⟩,⟨wZ HB⟩⟩
          ·replace cC:=uZ cC;subst cC;rw[if_neg vM]at H;obtain⟨ej,H⟩:=vE H;obtain⟨ek,H⟩:=vE H;obtain⟨dI,H⟩:=iN H;have bw:=bm dI;clear dI;obtain⟨cI,bx⟩:∃y_:List Int,y_=(I++ [rd l0 J]):=⟨_,rfl⟩;rw[←bx]at H
           have bz:=bm bx;clear bx;have H':=bm H;clear H;obtain⟨cm,cn,dJ⟩:=Kd.R_slice qL.out;subst dJ;have cp:0≤(J:Int):=pG;have cq:J<(l0.length:Int):=pG;obtain⟨cU,dK,aK⟩:=Kd.at_int aM.out J cp cq;obtain rfl:bs=cU:=(by injection dK);replace aK:=vA HB aK;replace cp:=vD cp;replace cq:=vD cq;go_wp2_with (first|((with_reducible refine gate_builtin (b:=.append) (xs:= #[.tmp 52,.tmp 57]) rfl ?_);at_builtin;refine Kd.R_append (Kd.int .i64) (w0:=w) w.heap.size rfl (.tmp 52) (.tmp 57) 23 3 (.int .i64 0) 8 rfl Tryz.underlying23 info3 rfl (by decide) (by omega) (.slice cm I.length cn) I (rd l0 J) [.int .i64 (rd l0 J)] (fun k_=>some k_≠(u3:Value).ownBlock) (fun _=>False) rfl rfl ?aP (fun _ hk=>hk.elim) ?aF ?aO ?aB ?aS ?aL ?_;(case aP=>exact rfl);(case aB=>exact(wZ HB));(case aF=>exact(fun k_ hk=>Kd.fresh' (Kd.R_lt (rS rv)) k_ hk));(case aO=>exact(rS qL));(case aS=>exact(below_size (wZ HB)));(case aL=>have:=bw.out;omega);intro cJ dL ho hb hg aj;rw[←bz.out]at ho;replace rv:=bm (Kd.R_after (ok:=(fun _=>True)) (by(repeat apply Kd.RS);exact Kd.R_mono rv.out (fun _ hk=>⟨trivial,hk⟩)) hg aj);replace HB:=bm (hb);have bA:=bm (ho);clear qL;clear ho hb hg aj));repeat(go_quiet (first|((with_reducible refine gate_builtin (b:=.append) (xs:= #[.tmp 52,.tmp 57]) rfl ?_);at_builtin;refine Kd.R_append (Kd.int .i64) (w0:=w) w.heap.size rfl (.tmp 52) (.tmp 57) 23 3 (.int .i64 0) 8 rfl Tryz.underlying23 info3 rfl (by decide) (by omega) (.slice cm I.length cn) I (rd l0 J) [.int .i64 (rd l0 J)] (fun k_=>some k_≠(u3:Value).ownBlock) (fun _=>False) rfl rfl ?aP (fun _ hk=>hk.elim) ?aF ?aO ?aB ?aS ?aL ?_;(case aP=>exact rfl);(case aB=>exact(wZ HB));(case aF=>exact(fun k_ hk=>Kd.fresh' (Kd.R_lt (rS rv)) k_ hk));(case aO=>exact(rS qL));(case aS=>exact(below_size (wZ HB)));(case aL=>have:=bw.out;omega);intro cJ dL ho hb hg aj;rw[←bz.out]at ho;replace rv:=bm (Kd.R_after (ok:=(fun _=>True)) (by(repeat apply Kd.RS);exact Kd.R_mono rv.out (fun _ hk=>⟨trivial,hk⟩)) hg aj);replace HB:=bm (hb);have bA:=bm (ho);clear qL;clear ho hb hg aj));try go_wp2_with (first|((with_reducible refine gate_builtin (b:=.append) (xs:= #[.tmp 52,.tmp 57]) rfl ?_);at_builtin;refine Kd.R_append (Kd.int .i64) (w0:=w) w.heap.size rfl (.tmp 52) (.tmp 57) 23 3 (.int .i64 0) 8 rfl Tryz.underlying23 info3 rfl (by decide) (by omega) (.slice cm I.length cn) I (rd l0 J) [.int .i64 (rd l0 J)] (fun k_=>some k_≠(u3:Value).ownBlock) (fun _=>False) rfl rfl ?aP (fun _ hk=>hk.elim) ?aF ?aO ?aB ?aS ?aL ?_;(case aP=>exact rfl);(case aB=>exact(wZ HB));(case aF=>exact(fun k_ hk=>Kd.fresh' (Kd.R_lt (rS rv)) k_ hk));(case aO=>exact(rS qL));(case aS=>exact(below_size (wZ HB)));(case aL=>have:=bw.out;omega);intro cJ dL ho hb hg aj;rw[←bz.out]at ho;replace rv:=bm (Kd.R_after (ok:=(fun _=>True)) (by(repeat apply Kd.RS);exact Kd.R_mono rv.out (fun _ hk=>⟨trivial,hk⟩)) hg aj);replace HB:=bm (hb);have bA:=bm (ho);clear qL;clear ho hb hg aj)))
           go_roundg k3
           case measure=>have:=ae.out;have:=ak.out;have:=bg.out;omega
           case rel=>exact⟨(cI),(wrap64 (J+1)),(by first|rfl|(simp;done)|(simp[*];done)),H',⟨by have:=ae.out;have:=ak.out;have:=bg.out;omega⟩,⟨by(repeat apply Kd.RS);exact Kd.R_mono rv.out (fun _ hk=>hk.2)⟩,⟨by(repeat apply Kd.RS);exact bA.out⟩,⟨wZ HB⟩⟩
      ·obtain⟨dM,H⟩:=iN H;have bB:=bm dM;clear dM;obtain⟨cK,bD⟩:∃y_:List Int,y_=(ag++ [(I.length:Int)]):=⟨_,rfl⟩;rw[←bD]at H
       have bF:=bm bD;clear bD;have H':=bm H;clear H;obtain⟨cr,ct,dN⟩:=Kd.R_slice qL.out;subst dN;go_wp2_with (first|((with_reducible refine gate_builtin (b:=.append) (xs:= #[.tmp 59,.tmp 62]) rfl ?_);at_builtin;refine Kd.R_append (Kd.int .i64) (w0:=w) w.heap.size rfl (.tmp 59) (.tmp 62) 23 3 (.int .i64 0) 8 rfl Tryz.underlying23 info3 rfl (by decide) (by omega) u3 ag (I.length:Int) [.int .i64 (I.length:Int)] (fun k_=>some k_≠(.slice cr I.length ct:Value).ownBlock) (fun _=>False) rfl rfl ?aP (fun _ hk=>hk.elim) ?aF ?aO ?aB ?aS ?aL ?_;(case aP=>exact rfl);(case aB=>exact(wZ HB));(case aF=>exact(fun k_ hk=>Kd.fresh' (Kd.R_lt (rS qL)) k_ hk));(case aO=>exact(rS rv));(case aS=>exact(below_size (wZ HB)));(case aL=>have:=bB.out;omega);intro cL dO ho hb hg aj;rw[←bF.out]at ho;replace qL:=bm (Kd.R_after (ok:=(fun _=>True)) (by(repeat apply Kd.RS);exact Kd.R_mono qL.out (fun _ hk=>⟨trivial,hk⟩)) hg aj);replace HB:=bm (hb);have bH:=bm (ho);clear rv;clear ho hb hg aj));repeat(go_quiet (first|((with_reducible refine gate_builtin (b:=.append) (xs:= #[.tmp 59,.tmp 62]) rfl ?_);at_builtin;refine Kd.R_append (Kd.int .i64) (w0:=w) w.heap.size rfl (.tmp 59) (.tmp 62) 23 3 (.int .i64 0) 8 rfl Tryz.underlying23 info3 rfl (by decide) (by omega) u3 ag (I.length:Int) [.int .i64 (I.length:Int)] (fun k_=>some k_≠(.slice cr I.length ct:Value).ownBlock) (fun _=>False) rfl rfl ?aP (fun _ hk=>hk.elim) ?aF ?aO ?aB ?aS ?aL ?_;(case aP=>exact rfl);(case aB=>exact(wZ HB));(case aF=>exact(fun k_ hk=>Kd.fresh' (Kd.R_lt (rS qL)) k_ hk));(case aO=>exact(rS rv));(case aS=>exact(below_size (wZ HB)));(case aL=>have:=bB.out;omega);intro cL dO ho hb hg aj;rw[←bF.out]at ho;replace qL:=bm (Kd.R_after (ok:=(fun _=>True)) (by(repeat apply Kd.RS);exact Kd.R_mono qL.out (fun _ hk=>⟨trivial,hk⟩)) hg aj);replace HB:=bm (hb);have bH:=bm (ho);clear rv;clear ho hb hg aj));try go_wp2_with (first|((with_reducible refine gate_builtin (b:=.append) (xs:= #[.tmp 59,.tmp 62]) rfl ?_);at_builtin;refine Kd.R_append (Kd.int .i64) (w0:=w) w.heap.size rfl (.tmp 59) (.tmp 62) 23 3 (.int .i64 0) 8 rfl Tryz.underlying23 info3 rfl (by decide) (by omega) u3 ag (I.length:Int) [.int .i64 (I.length:Int)] (fun k_=>some k_≠(.slice cr I.length ct:Value).ownBlock) (fun _=>False) rfl rfl ?aP (fun _ hk=>hk.elim) ?aF ?aO ?aB ?aS ?aL ?_;(case aP=>exact rfl);(case aB=>exact(wZ HB));(case aF=>exact(fun k_ hk=>Kd.fresh' (Kd.R_lt (rS qL)) k_ hk));(case aO=>exact(rS rv));(case aS=>exact(below_size (wZ HB)));(case aL=>have:=bB.out;omega);intro cL dO ho hb hg aj;rw[←bF.out]at ho;replace qL:=bm (Kd.R_after (ok:=(fun _=>True)) (by(repeat apply Kd.RS);exact Kd.R_mono qL.out (fun _ hk=>⟨trivial,hk⟩)) hg aj);replace HB:=bm (hb);have bH:=bm (ho);clear rv;clear ho hb hg aj)))
       go_roundg k2
       case measure=>have:=ae.out;have:=ak.out;omega
       case rel=>exact⟨(cK),(wrap64 (ah+1)),(by first|rfl|(simp;done)|(simp[*];done)),H',⟨by have:=ae.out;have:=ak.out;omega⟩,⟨by(repeat apply Kd.RS);exact Kd.R_mono bH.out (fun _ hk=>trivial)⟩,⟨wZ HB⟩⟩
   ·obtain rfl:=vU H;go_wp2;repeat(go_quiet (fail);try go_wp2)
    go_ret;exact⟨_,by first|rfl|(simp[*,jS,jT]<;>rfl),by(repeat apply Kd.RS);exact rv.out,wZ HB⟩
def oz.l0:Nat→List Int→Int→List Int→Int→Option (List Int)
 |0,_,_,_,_=>none
 |k+1,x0,x1,x5,x6=>if x6<(x0.length:Int)then(if 0≤x6 then((pV.f x1 x6).bind fun aT=>(if x5.length<17592186044416 then(oz.l0 k x0 x1 (x5++ [wrap64 ((rd x0 x6)+(wrap64 ((wrap64 (1 - aT))*10)))]) (wrap64 (x6+1)))else(none)))else(none))else((ky.f k x5).bind fun cu=>(some cu))
def oz.f (k:Nat) (l0:List Int) (a1:Int):Option (List Int):=oz.l0 k l0 a1 (([]:List Int)) 0
theorem oz.jQ:∀k,(∀y0 y1 y2 y3,qg (oz.l0 k y0 y1 y2 y3) (oz.l0 (k+1) y0 y1 y2 y3))
 |0=>fun _ _ _ _=> .z (by simp only[oz.l0])
 |k+1=>by
  have i0:=oz.jQ k;exact fun _ _ _ _=>by unfold oz.l0;infer_instance
instance oz.mo {k a0 a1}:qg (oz.f k a0 a1) (oz.f (k+1) a0 a1):=by have i0:=oz.jQ k;unfold oz.f;infer_instance
def oz.T5:Bool×List (List Nat×List Nat):=(true,[([],[]),([],[]),([],[]),([1,2],[1,2]),([3],[3]),([],[]),([],[]),([5,6],[5,6]),([7],[7]),([8],[8]),([4,9],[4,9]),([10],[10]),([0,11,7],[0,11]),([12,12,0,1,2,3,4,5,6,7,8,9,10,11,12],[0,12])])
def oz.B5:List Nat:=[0,0,0,6,14,0,0,96,224,480,1022,2046,4095,8191]
theorem oz.AO:rtab .any (opsOf Tryz.f138 5)=oz.T5:=by kernel_rfl
theorem oz.yz:waitsOk oz.T5.2 oz.B5=true:=by kernel_rfl
theorem oz.calls (k:Nat) (A0:Option Addr) (c0:Nat) (l0:List Int) (a1:Int) (r:List Int) (w:World) (a6:Kd.C (Kd.int .i64) w A0 l0.length l0) (a7:l0.length≤c0) (h:oz.f k l0 a1=some r):
  Calls Tryz.prog 138 #[.slice A0 l0.length c0,.int .i64 a1] w fun e w'=>∃bd:Value,e= .returned (bd)∧Kd.R (Kd.int .i64) 3 w' w.heap.size (fun _=>True) bd r∧Below w.heap.size w w':=by
 have aM:=bm a6;have dk:=bm a7;clear a6 a7;have HB:=bm (Below.refl w.heap.size w);have H:=h;clear h;unfold oz.f at H;obtain⟨cM,bJ⟩:∃y_:List Int,y_=(([]:List Int)):=⟨_,rfl⟩;replace H:(oz.l0 k l0 a1 cM 0)=some r:=by first|(rw[bJ];exact H)|exact H
 have cv:=bm bJ;clear bJ;have H':=bm H;clear H;go_enter Tryz.func138,Tryz.ntmps138;go_wp2_with (first|((with_reducible refine gate_dst (N:=7) rfl ?_);refine Kd.R_lit (Kd.int .i64) _ 3 ?hg (N:=7) ?hd (xs:=([]:List Int)) (inner:=[]) (ok:=fun _=>True) (okp:=fun _=>True) ?hr ?hp (fun _ hk=>hk) trivial (Below.refl _ _) (Nat.le_refl _) (by simp) ?_;(case hd=>rfl);(case hg=>rfl);(case hr=>first|(go_simp;done)|(go_simp;rfl));(case hp=>exact(Reps.none _ _));intro eD w3 cw hb aq ab;clear aq ab;(first|rw[←cv.out]at cw|(simp only[Int.reduceToNat]at cw;rw[←cv.out]at cw));have cV:=vX cw HB;replace HB:=bW HB hb;clear hb cw));go_loopg [5,6] k (fun kq v5 v6 w'=>∃(ad:List Int) (o:Int),v6= .int .i64 o∧jX (oz.l0 kq l0 a1 ad o=some r)∧jX (kq≤k)∧jX (Kd.R (Kd.int .i64) 3 w' w.heap.size (fun _=>True) v5 ad)∧jX (Below w.heap.size w w'))
 case atStart=>exact⟨(cM),(0),(by first|rfl|(simp;done)|(simp[*];done)),H',⟨Nat.le_refl _⟩,⟨by(repeat apply Kd.RS);exact cV.out⟩,⟨wZ HB⟩⟩
 case round=>
  clear H';obtain⟨ad,o,rfl,HA,ae,qL,HB⟩:=hrel;cases gk with
  |zero=>exact absurd HA.out (by simp[oz.l0])
  |succ k1=>
   have H:=HA.out;clear HA;simp only[oz.l0]at H;rcases vG H with⟨b7,H⟩|⟨b7,H⟩
   ·obtain⟨dp,H⟩:=vE H;obtain⟨aT,A7,H⟩:=bE H;try dsimp only at H
    obtain⟨c8,H⟩:=iN H;have dP:=bm c8;clear c8;obtain⟨cN,bO⟩:∃y_:List Int,y_=(ad++ [wrap64 ((rd l0 o)+(wrap64 ((wrap64 (1 - aT))*10)))]):=⟨_,rfl⟩;rw[←bO]at H
    have cW:=bm bO;clear bO;have H':=bm H;clear H;try go_wp2
    replace qL:=bm (Kd.R_drew qL.out);replace HB:=bm (xO HB.out);have cx:0≤(o:Int):=pG;have cy:o<(l0.length:Int):=pG;obtain⟨cX,dQ,ao⟩:=Kd.at_int aM.out o cx cy;have aa:=ao;cases dQ;replace ao:=vA HB ao;replace cx:=vD cx;replace cy:=vD cy;refine start_ (n:=14) (S:=fun w'=>w'.cell? (cX.add (o).toNat)=some (.int .i64 (rd l0 o))) (ds:=[]) #[false,false,false,false,false,false,false,false,false,false,false,false,false,false] (by kernel_rfl) rfl rfl (((HB.out.cell (World.block_lt_of_cell? w _ aa)).trans aa)) (fun hHeld=>?_);refine with_tabW oz.AO oz.yz (fun ar el=>?_);generalize wr.drew=w9 at qL HB ao hHeld⊢;refine pure_ (i:=0) (N:=some 14) (v:=?_) (a':=?_) #[true,false,false,false,false,false,false,false,false,false,false,false,false,false] rfl rfl (any_of ar.out (by kernel_rfl)) (fun _ _ _ h=>h) (Or.inl ⟨by rfl,?_⟩) ?_ ?_;rotate_left
    ·intro w';go_simp;with_reducible rfl
    rotate_left
    ·simp only[Act.put,qA,qB,qC,i64_w,i32_w];rfl
    refine pure_ (i:=1) (N:=some 15) (v:=?_) (a':=?_) #[true,true,false,false,false,false,false,false,false,false,false,false,false,false] rfl rfl (any_of ar.out (by kernel_rfl)) (fun _ _ _ h=>h) (Or.inl ⟨by rfl,?_⟩) ?_ ?_;rotate_left
    ·intro w';go_simp;with_reducible rfl
    rotate_left
    ·simp only[Act.put,qA,qB,qC,i64_w,i32_w];rfl
    refine pure_ (i:=2) (N:=some 16) (v:=?_) (a':=?_) #[true,true,true,false,false,false,false,false,false,false,false,false,false,false] rfl rfl (any_of ar.out (by kernel_rfl)) (fun _ _ _ h=>h) (Or.inl ⟨by rfl,?_⟩) ?_ ?_;rotate_left
    ·intro w';go_simp;with_reducible rfl
    rotate_left
    ·simp only[Act.put,qA,qB,qC,i64_w,i32_w];rfl
    refine pure_ (i:=3) (N:=some 17) (v:=?_) (a':=?_) #[true,true,true,true,false,false,false,false,false,false,false,false,false,false] rfl rfl (any_of ar.out (by kernel_rfl)) (fun _ _ _ h=>h) (Or.inl ⟨by rfl,?_⟩) ?_ ?_;rotate_left
    ·intro w';go_simp;with_reducible rfl
    rotate_left
    ·simp only[Act.put,qA,qB,qC,i64_w,i32_w];rfl
    refine pure_ (i:=5) (N:=some 19) (v:=?_) (a':=?_) #[true,true,true,true,false,true,false,false,false,false,false,false,false,false] rfl rfl (any_of ar.out (by kernel_rfl)) (fun _ _ _ h=>h) (Or.inl ⟨by rfl,?_⟩) ?_ ?_;rotate_left
    ·intro w';go_simp;with_reducible rfl
    rotate_left
    ·simp only[Act.put,qA,qB,qC,i64_w,i32_w];rfl
    refine pure_ (i:=6) (N:=some 20) (v:=?_) (a':=?_) #[true,true,true,true,false,true,true,false,false,false,false,false,false,false] rfl rfl (any_of ar.out (by kernel_rfl)) (fun _ _ _ h=>h) (Or.inl ⟨by rfl,?_⟩) ?_ ?_;rotate_left
    ·intro w';go_simp;with_reducible rfl
    rotate_left
    ·simp only[Act.put,qA,qB,qC,i64_w,i32_w];rfl
    refine take_ (i:=4) (N:=some 18) (v:=?_) (a':=?_) #[true,true,true,true,true,true,true,false,false,false,false,false,false,false] rfl rfl (take_ofW ar.out el.out (by kernel_rfl)) (fun _ _ _ h=>h) (Or.inl ⟨by rfl,?_⟩) hHeld ?_ ?_;rotate_left
    ·intro w' s0;go_simp;with_reducible rfl
    rotate_left
    ·simp only[Act.put,qA,qB,qC,i64_w,i32_w];rfl
    refine one_ (i:=7) (N:=some 21) #[true,true,true,true,true,true,true,true,false,false,false,false,false,false] rfl rfl (one_of ar.out (by kernel_rfl)) (by decide) (fun K hK=>?_);refine goes_ Tryz.func107 (by kernel_rfl) rfl #[.int .i64 a1,.int .i64 o] (by rfl) rfl rfl (by(try simp only[List.map_toArray,List.map_cons,List.map_nil]);first|done|rfl|(simp only[List.length_drop,List.length_take];rfl)) ?_;with_reducible refine(pV.calls a1 o aT _ A7.out).mono ?_
    rintro e w' ⟨rfl,⟨nd,rfl⟩⟩;refine⟨_,rfl,?_⟩;refine hK.out _ _ (((HB.out.cell (World.block_lt_of_cell? w _ aa)).trans aa)) (fun hHeld=>?_);clear hK K;refine vL 21 ?_
    refine pure_ (i:=8) (N:=some 22) (v:=?_) (a':=?_) #[true,true,true,true,true,true,true,true,true,false,false,false,false,false] rfl rfl (any_of ar.out (by kernel_rfl)) (fun _ _ _ h=>h) (Or.inl ⟨by rfl,?_⟩) ?_ ?_;rotate_left
    ·intro w';go_simp;with_reducible rfl
    rotate_left
    ·simp only[Act.put,qA,qB,qC,i64_w,i32_w];rfl
    refine pure_ (i:=9) (N:=some 23) (v:=?_) (a':=?_) #[true,true,true,true,true,true,true,true,true,true,false,false,false,false] rfl rfl (any_of ar.out (by kernel_rfl)) (fun _ _ _ h=>h) (Or.inl ⟨by rfl,?_⟩) ?_ ?_;rotate_left
    ·intro w';go_simp;with_reducible rfl
    rotate_left
    ·simp only[Act.put,qA,qB,qC,i64_w,i32_w];rfl
    refine pure_ (i:=10) (N:=some 24) (v:=?_) (a':=?_) #[true,true,true,true,true,true,true,true,true,true,true,false,false,false] rfl rfl (any_of ar.out (by kernel_rfl)) (fun _ _ _ h=>h) (Or.inl ⟨by rfl,?_⟩) ?_ ?_;rotate_left
    ·intro w';go_simp;with_reducible rfl
    rotate_left
    ·simp only[Act.put,qA,qB,qC,i64_w,i32_w];rfl
    refine one_ (i:=11) (N:=some 25) #[true,true,true,true,true,true,true,true,true,true,true,true,false,false] rfl rfl (one_of ar.out (by kernel_rfl)) (by decide) (fun K hK=>?_);refine value_ (w1:=?_) (v:=?_) (by rfl) rfl ?_ ?_;rotate_left 2
    ·go_simp;constructor
     ·rfl
     ·rfl
    refine hK.out _ _ ((World.cell?_alloc_lt _ _ _ (World.block_lt_of_cell? _ _ (((HB.out.cell (World.block_lt_of_cell? w _ aa)).trans aa)))).trans (((HB.out.cell (World.block_lt_of_cell? w _ aa)).trans aa))) (fun hHeld=>?_);clear hK K;refine vL 25 ?_
    refine one_ (i:=12) (N:=some 26) #[true,true,true,true,true,true,true,true,true,true,true,true,true,false] rfl rfl (one_of ar.out (by kernel_rfl)) (by decide) (fun K hK=>?_);refine Kd.R_append_step (Kd.int .i64) (w0:=w) w.heap.size (by rfl) (.tmp 14) (.tmp 25) 23 3 (.int .i64 0) 8 rfl Tryz.underlying23 info3 rfl (by decide) (by omega) u5 ad (wrap64 ((rd l0 o)+(wrap64 ((wrap64 (1 - aT))*10)))) [.int .i64 (wrap64 ((rd l0 o)+(wrap64 ((wrap64 (1 - aT))*10))))] (fun _=>True) (fun _=>False) rfl rfl ?aP (fun _ hk=>hk.elim) ?aF ?aO ?aB ?aS ?aL ?_;(case aP=>exact rfl);(case aB=>exact(wZ HB));(case aF=>exact(fun _ _=>trivial));(case aO=>exact(rS qL));(case aS=>exact(below_size (wZ HB)));(case aL=>have:=dP.out;omega);intro eE eL ho hb hg aj
    rw[←cW.out]at ho;replace HB:=bm (hb);have da:=bm (ho);clear qL ho hb hg aj
    refine hK.out _ _ (((HB.out.cell (World.block_lt_of_cell? w _ aa)).trans aa)) (fun hHeld=>?_);clear hK K;refine vL 26 ?_
    refine pure_ (i:=13) (N:=some 5) (v:=?_) (a':=?_) #[true,true,true,true,true,true,true,true,true,true,true,true,true,true] rfl rfl (any_of ar.out (by kernel_rfl)) (fun _ _ _ h=>h) (Or.inl ⟨by rfl,?_⟩) ?_ ?_;rotate_left
    ·intro w';go_simp;with_reducible rfl
    rotate_left
    ·simp only[Act.put,qA,qB,qC,i64_w,i32_w];rfl
    refine done_ (done_of ar.out (by kernel_rfl)) ?_;try go_wp2
    go_roundg k1
    case measure=>have:=ae.out;omega
    case rel=>exact⟨(cN),(wrap64 (o+1)),(by first|rfl|(simp;done)|(simp[*];done)),H',⟨by have:=ae.out;omega⟩,⟨by(repeat apply Kd.RS);exact da.out⟩,⟨wZ HB⟩⟩
   ·obtain⟨cu,en,H⟩:=bE H;try dsimp only at H
    obtain rfl:=vU H;obtain⟨dR,dS,dT⟩:=Kd.R_slice qL.out;subst dT;go_wp2_with (first|(refine gB (some 28) Tryz.func156 #[.slice dR ad.length dS] rfl ?_;(with_reducible refine(ky.calls k1 _ _ ad cu _ ?_ ?_ en.out).mono ?_);exact cZ (Kd.R_reads' qL.out).2.2;exact(Kd.R_reads' qL.out).2.1;rintro e eo ⟨eF,rfl,aW,hb⟩;refine⟨_,rfl,?_⟩;have db:=bm (Kd.R_lower (Kd.R_new' aW (Kd.R_lt (rS qL))) (below_size (wZ HB)));replace qL:=bm (Kd.R_elder' (rS qL) (Kd.R_base aW) hb);replace HB:=bW HB hb;clear hb;(try clear aW)));go_ret;exact⟨_,by first|rfl|(simp[*,jS,jT]<;>rfl),by(repeat apply Kd.RS);exact Kd.R_mono db.out (fun _ hk=>trivial),wZ HB⟩
def oG.j0:Nat→List Int→Int→Int→Bool→Option (List Int×Bool)
 |0,_,_,_,_=>none
 |k+1,x1,x2,x3,x28=>if x28=true then(some ((([]:List Int)),false))else(if x2=0 then((kv.f k x1 x3).bind fun bh=>((oz.f k x1 bh).bind fun cz=>(some (cz,true))))else((oz.f k x1 x3).bind fun cA=>(some (cA,true))))
def oG.f (k:Nat) (a0:Int) (l1:List Int) (a2:Int) (a3:Int):Option (List Int×Bool):=(kc.f k a0 l1).bind fun bj=>(if bj=true then((oD.f a0 a3).bind fun bk=>(if bk=true then(if a3=0 then(oG.j0 k l1 a2 a3 true)else((qt.f a2 0 1).bind fun aU=>(oG.j0 k l1 a2 a3 (!aU))))else(oG.j0 k l1 a2 a3 true)))else(oG.j0 k l1 a2 a3 true))
theorem oG.jQ:∀k,(∀y0 y1 y2 y3,qg (oG.j0 k y0 y1 y2 y3) (oG.j0 (k+1) y0 y1 y2 y3))
 |0=>fun _ _ _ _=> .z (by simp only[oG.j0])
 |k+1=>by
  have i0:=oG.jQ k;exact fun _ _ _ _=>by unfold oG.j0;infer_instance
instance oG.mo {k a0 a1 a2 a3}:qg (oG.f k a0 a1 a2 a3) (oG.f (k+1) a0 a1 a2 a3):=by have i0:=oG.jQ k;unfold oG.f;infer_instance
theorem oG.calls (k:Nat) (a0:Int) (A1:Option Addr) (c1:Nat) (l1:List Int) (a2:Int) (a3:Int) (r1:List Int) (r2:Bool) (w:World) (dU:Kd.C (Kd.int .i64) w A1 l1.length l1) (dV:l1.length≤c1) (h:oG.f k a0 l1 a2 a3=some (r1,r2)):
  Calls Tryz.prog 101 #[.int .i64 a0,.slice A1 l1.length c1,.int .i64 a2,.int .i64 a3] w fun e w'=>∃bd:Value,e= .returned (.tuple #[bd,.bool r2])∧Kd.R (Kd.int .i64) 3 w' w.heap.size (fun _=>True) bd r1∧Below w.heap.size w w':=by
 have bT:=bm dU;have bV:=bm dV;clear dU dV;have HB:=bm (Below.refl w.heap.size w);have H:=h;clear h;unfold oG.f at H;have dc:=bm H;clear H;go_enter Tryz.func101,Tryz.ntmps101;go_upto_region 1 with(fail)
 go_cut [28] (fun v28 wc=>∃(kq:Nat) (aY:Bool),v28= .bool aY∧jX (oG.j0 kq l1 a2 a3 aY=some (r1,r2))∧jX (kq≤k)∧jX (Below w.heap.size w wc))
 case first=>
  have H:=dc.out;clear dc;obtain⟨bj,A6,H⟩:=bE H;try dsimp only at H
  by_cases c7:bj=true
  ·subst c7;rw[if_pos rfl]at H;obtain⟨bk,A8,H⟩:=bE H;try dsimp only at H
   by_cases c9:bk=true
   ·subst c9;rw[if_pos rfl]at H;rcases iT H with⟨c10,H⟩|⟨c10,H⟩
    ·obtain⟨al,bn⟩:=vW c10;clear c10;(first|rw[al]|(simp only[i64_w,i32_w];rw[al])|skip);have H':=bm H;clear H;go_wp2_with (first|(refine gB (some 12) Tryz.func103 #[.int .i64 a0,.slice A1 l1.length c1] rfl ?_;(with_reducible refine(kc.calls k a0 _ _ l1 true _ ?_ ?_ A6.out).mono ?_);exact cY bT HB;exact bV.out;rintro e eM ⟨rfl,hb⟩;refine⟨_,rfl,?_⟩;replace HB:=bW HB hb;clear hb)|(go_at_call 106;(with_reducible refine(oD.calls a0 a3 true _ A8.out).mono ?_);rintro e w' ⟨rfl,⟨nd,rfl⟩⟩));go_meet
     case rel=>exact⟨_,(true),(by first|rfl|(simp;done)|(simp[*];done)),H',⟨by first|omega|exact Nat.le_refl _⟩,⟨wZ HB⟩⟩
    ·obtain⟨al,bn⟩:=vV c10;(first|rw[al]|(simp only[i64_w,i32_w];rw[al])|skip);obtain⟨aU,ep,H⟩:=bE H;try dsimp only at H
     have H':=bm H;clear H;go_wp2_with (first|(refine gB (some 12) Tryz.func103 #[.int .i64 a0,.slice A1 l1.length c1] rfl ?_;(with_reducible refine(kc.calls k a0 _ _ l1 true _ ?_ ?_ A6.out).mono ?_);exact cY bT HB;exact bV.out;rintro e eo ⟨rfl,hb⟩;refine⟨_,rfl,?_⟩;replace HB:=bW HB hb;clear hb)|(go_at_call 106;(with_reducible refine(oD.calls a0 a3 true _ A8.out).mono ?_);rintro e w' ⟨rfl,⟨nd,rfl⟩⟩)|(go_at_call 100;(with_reducible refine(qt.calls a2 0 1 aU _ ep.out).mono ?_);rintro e w' ⟨rfl,⟨nd,rfl⟩⟩));go_meet
     case rel=>exact⟨_,(!aU),(by first|rfl|(simp;done)|(simp[*];done)),H',⟨by first|omega|exact Nat.le_refl _⟩,⟨wZ HB⟩⟩
   ·replace c9:=uZ c9;subst c9;rw[if_neg vM]at H;have H':=bm H;clear H;go_wp2_with (first|(refine gB (some 12) Tryz.func103 #[.int .i64 a0,.slice A1 l1.length c1] rfl ?_;(with_reducible refine(kc.calls k a0 _ _ l1 true _ ?_ ?_ A6.out).mono ?_);exact cY bT HB;exact bV.out;rintro e eN ⟨rfl,hb⟩;refine⟨_,rfl,?_⟩;replace HB:=bW HB hb;clear hb)|(go_at_call 106;(with_reducible refine(oD.calls a0 a3 false _ A8.out).mono ?_);rintro e w' ⟨rfl,⟨nd,rfl⟩⟩));go_meet
    case rel=>exact⟨_,(true),(by first|rfl|(simp;done)|(simp[*];done)),H',⟨by first|omega|exact Nat.le_refl _⟩,⟨wZ HB⟩⟩
  ·replace c7:=uZ c7;subst c7;rw[if_neg vM]at H;have H':=bm H;clear H;go_wp2_with (first|(refine gB (some 12) Tryz.func103 #[.int .i64 a0,.slice A1 l1.length c1] rfl ?_;(with_reducible refine(kc.calls k a0 _ _ l1 false _ ?_ ?_ A6.out).mono ?_);exact cY bT HB;exact bV.out;rintro e eO ⟨rfl,hb⟩;refine⟨_,rfl,?_⟩;replace HB:=bW HB hb;clear hb));go_meet
   case rel=>exact⟨_,(true),(by first|rfl|(simp;done)|(simp[*];done)),H',⟨by first|omega|exact Nat.le_refl _⟩,⟨wZ HB⟩⟩
 case rest=>
  clear dc;obtain⟨kq,aY,rfl,HA,eP,HB⟩:=hcut;cases kq with
  |zero=>exact absurd HA.out (by simp[oG.j0])
  |succ yP=>
   have H:=HA.out;clear HA;simp only[oG.j0]at H;by_cases bu:aY=true
   ·subst bu;rw[if_pos rfl]at H;obtain⟨dW,bZ⟩:∃y_:List Int,y_=(([]:List Int)):=⟨_,rfl⟩;replace H:(some (dW,false))=some (r1,r2):=by first|(rw[bZ];exact H)|exact H
    have cB:=bm bZ;clear bZ;obtain⟨rfl,rfl⟩:=s2 H;go_wp2_with (first|((with_reducible refine gate_dst (N:=29) rfl ?_);refine Kd.R_lit (Kd.int .i64) _ 3 ?hg (N:=29) ?hd (xs:=([]:List Int)) (inner:=[]) (ok:=fun _=>True) (okp:=fun _=>True) ?hr ?hp (fun _ hk=>hk) trivial (Below.refl _ _) (Nat.le_refl _) (by simp) ?_;(case hd=>rfl);(case hg=>rfl);(case hr=>first|(go_simp;done)|(go_simp;rfl));(case hp=>exact(Reps.none _ _));intro eG eQ bl hb aq ab;clear aq ab;(first|rw[←cB.out]at bl|(simp only[Int.reduceToNat]at bl;rw[←cB.out]at bl));have dd:=vX bl HB;replace HB:=bW HB hb;clear hb bl));go_ret2;exact⟨_,by first|rfl|(simp[*,jS,jT]<;>rfl),by(repeat apply Kd.RS);exact dd.out,wZ HB⟩
   ·replace bu:=uZ bu;subst bu;rw[if_neg vM]at H;rcases iT H with⟨b5,H⟩|⟨b5,H⟩
    ·obtain⟨de,df⟩:=vW b5;clear b5;obtain⟨bh,er,H⟩:=bE H;try dsimp only at H
     obtain⟨cz,et,H⟩:=bE H;try dsimp only at H
     obtain⟨rfl,rfl⟩:=s2 H;go_wp2_with (first|(refine gB (some 35) Tryz.func104 #[.slice A1 l1.length c1,.int .i64 a3] rfl ?_;(with_reducible refine(kv.calls yP _ _ l1 a3 bh _ ?_ ?_ er.out).mono ?_);exact cY bT HB;exact bV.out;rintro e eR ⟨rfl,hb⟩;refine⟨_,rfl,?_⟩;replace HB:=bW HB hb;clear hb)|(refine gB (some 36) Tryz.func138 #[.slice A1 l1.length c1,.int .i64 bh] rfl ?_;(with_reducible refine(oz.calls yP _ _ l1 bh cz _ ?_ ?_ et.out).mono ?_);exact cY bT HB;exact bV.out;rintro e eS ⟨eH,rfl,aW,hb⟩;refine⟨_,rfl,?_⟩;have dh:=vX aW HB;replace HB:=bW HB hb;clear hb;(try clear aW)));go_ret2;exact⟨_,by first|rfl|(simp[*,jS,jT]<;>rfl),by(repeat apply Kd.RS);exact dh.out,wZ HB⟩
    ·obtain⟨de,df⟩:=vV b5;obtain⟨cA,eu,H⟩:=bE H;try dsimp only at H
     obtain⟨rfl,rfl⟩:=s2 H;go_wp2_with (first|(refine gB (some 39) Tryz.func138 #[.slice A1 l1.length c1,.int .i64 a3] rfl ?_;(with_reducible refine(oz.calls yP _ _ l1 a3 cA _ ?_ ?_ eu.out).mono ?_);exact cY bT HB;exact bV.out;rintro e eT ⟨eI,rfl,aW,hb⟩;refine⟨_,rfl,?_⟩;have di:=vX aW HB;replace HB:=bW HB hb;clear hb;(try clear aW)));go_ret2;exact⟨_,by first|rfl|(simp[*,jS,jT]<;>rfl),by(repeat apply Kd.RS);exact di.out,wZ HB⟩
end Go.Proofs.YtihgpkohglcijaaGreatDoor.P
