-- Written by a program of this session (wip/hook.py), which runs the kit's printer; Lean checks it.
import Derived.Test.YtihgpkohglcijaaPx0
namespace Go.Proofs.Ytihgpkohglcijaa.P
open Go.RowKit Go.Proofs.YtihgpkohglcijaaW.PrintWords Go.Proofs.YtihgpkohglcijaaW.PrintLast Go.Proofs.YtihgpkohglcijaaW.PrintMore
attribute [local go_sem] max2_int min2_int max_two min_two max_three min_three max_four min_four   -- for this text's walks alone
set_option linter.unusedVariables false
set_option linter.unusedSimpArgs false

abbrev Mk2_0:Array Bool:= #[false,false,false,false,false,false,false,false,false]
abbrev Mk2_1:Array Bool:= #[true,false,false,false,false,false,false,false,false]
abbrev Mk2_2:Array Bool:= #[true,false,true,false,false,false,false,false,false]
abbrev Mk2_3:Array Bool:= #[true,false,true,false,true,false,false,false,false]
abbrev Mk2_4:Array Bool:= #[true,true,true,false,true,false,false,false,false]
abbrev Mk2_5:Array Bool:= #[true,true,true,true,true,false,false,false,false]
abbrev Mk2_6:Array Bool:= #[true,true,true,true,true,true,false,false,false]
abbrev Mk2_7:Array Bool:= #[true,true,true,true,true,true,true,false,false]
abbrev Mk2_8:Array Bool:= #[true,true,true,true,true,true,true,true,false]
abbrev Mk2_9:Array Bool:= #[true,true,true,true,true,true,true,true,true]
/-! ### impl_areThings: function 111 -/
def impl_areThings.f (a0:Int):Option (Bool):=if a0≥1 then(some (decide (a0≤3)))else(some false)
set_option maxHeartbeats 8000000 in
set_option maxRecDepth 100000 in
theorem impl_areThings.calls (a0:Int) (r:Bool) (w:World) (h:impl_areThings.f a0=some r):
  Calls Try.prog 111 #[.int .i64 a0] w fun e w'=>e= .returned (.bool r)∧Drawn0 w w':=by
 have H:(if a0≥1 then(some (decide (a0≤3)))else(some false))=some r:=h;clear h;rcases iT H with⟨c2,H⟩|⟨c2,H⟩
 ·have bl:=decide_eq_true c2;clear c2;obtain rfl:=Option.some.inj H;go_enter Try.func111,Try.ntmps111;go_wp2;go_ret;exact⟨by first|rfl|(simp;done)|(simp[*];done),by repeat(first|exact Drawn0.refl _|apply Drawn0.step)⟩
 ·have bl:=decide_eq_false c2;clear c2;obtain rfl:=Option.some.inj H;go_enter Try.func111,Try.ntmps111;go_wp2;go_ret;exact⟨by first|rfl|(simp;done)|(simp[*];done),by repeat(first|exact Drawn0.refl _|apply Drawn0.step)⟩

/-! ### impl_WorldsOf: function 84 -/
def impl_WorldsOf.f (a0:Int):Option (Int):=(impl_areThings.f a0).bind fun t101=>(if t101=true then(if 0≤a0 then(some (shl .i64 1 a0))else(none))else(some (-1)))
set_option maxHeartbeats 8000000 in
set_option maxRecDepth 100000 in
theorem impl_WorldsOf.calls (a0:Int) (r:Int) (w:World) (h:impl_WorldsOf.f a0=some r):
  Calls Try.prog 84 #[.int .i64 a0] w fun e w'=>e= .returned (.int .i64 r)∧Drawn0 w w':=by
 have H:((impl_areThings.f a0).bind fun t101=>(if t101=true then(if 0≤a0 then(some (shl .i64 1 a0))else(none))else(some (-1))))=some r:=h;clear h;obtain⟨t101,A2,H⟩:=bE H;try dsimp only at H
 by_cases c3:t101=true
 ·subst c3;rw[if_pos rfl]at H;obtain⟨c4,H⟩:=iN H;have bH:=eq_true c4;have eB:=decide_eq_true c4;clear c4;obtain⟨bZ,bf⟩:∃j_:Int,(shl .i64 1 a0)=j_:=⟨_,rfl⟩;first|rw[bf]at H|simp only[bf]at H
  (try rw[bf]at A2);have b6:(IntKind.i64.wrap (1*2^min a0.toNat 64))=bZ:=bf;have b7:a0≤64→(IntKind.i64.wrap (1*2^a0.toNat))=bZ:=shl_small bf;have eh:(IntKind.i64.wrap (2^min a0.toNat 64))=bZ:=by have h_:=b6;rw[Int.one_mul]at h_;exact h_
  have ei:a0≤64→(IntKind.i64.wrap (2^a0.toNat))=bZ:=fun b8=>by have h_:=b7 b8;rw[Int.one_mul]at h_;exact h_
  have ej:(wrap64 (1*2^min a0.toNat 64))=bZ:=(i64_w _).symm.trans b6;have ek:a0≤64→(wrap64 (1*2^a0.toNat))=bZ:=fun h_=>(i64_w _).symm.trans (b7 h_)
  obtain rfl:=Option.some.inj H;go_enter Try.func84,Try.ntmps84;go_wp2_with (first|((with_reducible refine gate_callee (f:=111) rfl ?_);refine gB (some 4) Try.func111 #[.int .i64 a0] rfl ?_;(with_reducible refine(impl_areThings.calls a0 true _ A2.out).mono ?_);rintro e w' ⟨rfl,⟨nd,rfl⟩⟩;refine⟨_,rfl,?_⟩));go_ret;exact⟨by first|rfl|(simp;done)|(simp only[←bf]<;>(first|rfl|simp))|(simp[*];done),by repeat(first|exact Drawn0.refl _|apply Drawn0.step)⟩
 ·replace c3:=Bool.eq_false_iff.mpr c3;subst c3;rw[if_neg (show¬(false=true) by decide)]at H;obtain rfl:=Option.some.inj H;go_enter Try.func84,Try.ntmps84;go_wp2_with (first|((with_reducible refine gate_callee (f:=111) rfl ?_);refine gB (some 4) Try.func111 #[.int .i64 a0] rfl ?_;(with_reducible refine(impl_areThings.calls a0 false _ A2.out).mono ?_);rintro e w' ⟨rfl,⟨nd,rfl⟩⟩;refine⟨_,rfl,?_⟩));go_ret;exact⟨by first|rfl|(simp;done)|(simp[*];done),by repeat(first|exact Drawn0.refl _|apply Drawn0.step)⟩

/-! ### laws_alive: function 38 -/
def laws_alive.f:Option (Bool):=(impl_WorldsOf.f 1).bind fun t102=>(if t102=2 then((impl_WorldsOf.f 9).bind fun t103=>(some (t103==(-1))))else(some false))
set_option maxHeartbeats 8000000 in
set_option maxRecDepth 100000 in
theorem laws_alive.calls  (r:Bool) (w:World) (h:laws_alive.f=some r):
  Calls Try.prog 38 #[] w fun e w'=>e= .returned (.bool r)∧Drawn0 w w':=by
 have H:((impl_WorldsOf.f 1).bind fun t102=>(if t102=2 then((impl_WorldsOf.f 9).bind fun t103=>(some (t103==(-1))))else(some false)))=some r:=h;clear h;obtain⟨t102,A1,H⟩:=bE H;try dsimp only at H
 rcases iT H with⟨c2,H⟩|⟨c2,H⟩
 ·have bl:(t102==2)=true:=beq_iff_eq.mpr c2;have b9:(t102 !=2)=false:=bne_eq_false_iff_eq.mpr c2;clear c2;obtain⟨t103,A3,H⟩:=bE H;try dsimp only at H
  obtain rfl:=Option.some.inj H;go_enter Try.func38,Try.ntmps38;go_wp2_with (first|((with_reducible refine gate_callee (f:=84) rfl ?_);refine gB (some 1) Try.func84 #[.int .i64 1] rfl ?_;(with_reducible refine(impl_WorldsOf.calls 1 t102 _ A1.out).mono ?_);rintro e w' ⟨rfl,⟨nd,rfl⟩⟩;refine⟨_,rfl,?_⟩)|(go_at_call 84;(with_reducible refine(impl_WorldsOf.calls 9 t103 _ A3.out).mono ?_);rintro e w' ⟨rfl,⟨nd,rfl⟩⟩));go_ret;exact⟨by first|rfl|(simp;done)|(simp[*];done),by repeat(first|exact Drawn0.refl _|apply Drawn0.step)⟩
 ·have bl:(t102==2)=false:=beq_eq_false_iff_ne.mpr c2;have b9:(t102 !=2)=true:=bne_iff_ne.mpr c2;obtain rfl:=Option.some.inj H;go_enter Try.func38,Try.ntmps38;go_wp2_with (first|((with_reducible refine gate_callee (f:=84) rfl ?_);refine gB (some 1) Try.func84 #[.int .i64 1] rfl ?_;(with_reducible refine(impl_WorldsOf.calls 1 t102 _ A1.out).mono ?_);rintro e w' ⟨rfl,⟨nd,rfl⟩⟩;refine⟨_,rfl,?_⟩));go_ret;exact⟨by first|rfl|(simp;done)|(simp[*];done),by repeat(first|exact Drawn0.refl _|apply Drawn0.step)⟩

/-! ### spec_l1In: function 72 -/
def spec_l1In.f (a0:Int) (a1:Int) (a2:Int):Option (Bool):=if a0≥a1 then(some (decide (a0≤a2)))else(some false)
set_option maxHeartbeats 8000000 in
set_option maxRecDepth 100000 in
theorem spec_l1In.calls (a0:Int) (a1:Int) (a2:Int) (r:Bool) (w:World) (h:spec_l1In.f a0 a1 a2=some r):
  Calls Try.prog 72 #[.int .i64 a0,.int .i64 a1,.int .i64 a2] w fun e w'=>e= .returned (.bool r)∧Drawn0 w w':=by
 have H:(if a0≥a1 then(some (decide (a0≤a2)))else(some false))=some r:=h;clear h;rcases iT H with⟨c4,H⟩|⟨c4,H⟩
 ·have bH:=decide_eq_true c4;clear c4;obtain rfl:=Option.some.inj H;go_enter Try.func72,Try.ntmps72;go_wp2;go_ret;exact⟨by first|rfl|(simp;done)|(simp[*];done),by repeat(first|exact Drawn0.refl _|apply Drawn0.step)⟩
 ·have bH:=decide_eq_false c4;clear c4;obtain rfl:=Option.some.inj H;go_enter Try.func72,Try.ntmps72;go_wp2;go_ret;exact⟨by first|rfl|(simp;done)|(simp[*];done),by repeat(first|exact Drawn0.refl _|apply Drawn0.step)⟩

/-! ### spec_RankOk: function 59 -/
def spec_RankOk.l0:Nat→Int→List Int→Int→Int→Option (Bool)
 |0,_,_,_,_=>none
 |k+1,x0,x1,x5,x6=>if x6<(x1.length:Int)then(if 0≤x6 then((spec_l1In.f (rd x1 x6) 0 9).bind fun t105=>(if t105=true then(spec_RankOk.l0 k x0 x1 (mn x5 (rd x1 x6)) (wrap64 (x6+1)))else(some false)))else(none))else((spec_l1In.f x0 1 3).bind fun t107=>(if t107=true then(if 0≤x0 then(if(x1.length:Int)=(shl .i64 1 x0)then(some (x5==0))else(some false))else(none))else(some false)))
def spec_RankOk.f (k:Nat) (a0:Int) (l1:List Int):Option (Bool):=spec_RankOk.l0 k a0 l1 9 0
theorem spec_RankOk.mono_l:∀k,(∀y0 y1 y2 y3,LeO (spec_RankOk.l0 k y0 y1 y2 y3) (spec_RankOk.l0 (k+1) y0 y1 y2 y3))
 |0=>fun _ _ _ _ r h=>by simp[spec_RankOk.l0]at h
 |k+1=>by
  have ar:=spec_RankOk.mono_l k
  ·intro y0 y1 y2 y3;unfold spec_RankOk.l0;repeat' first
   |(with_reducible first|exact ar _ _ _ _|exact LeO.refl _|exact LeO.none _|refine LeO.ite ?_ ?_|refine LeO.bind ?_ (fun _=>?_))
   |refine LeO.ite ?_ ?_
   |refine LeO.bind ?_ (fun _=>?_)
theorem spec_RankOk.mono:∀a0 a1 k,LeO (spec_RankOk.f k a0 a1) (spec_RankOk.f (k+1) a0 a1):=by
 intro a0 a1 k;have ar:=spec_RankOk.mono_l k;unfold spec_RankOk.f
 repeat' first
   |(with_reducible first|exact ar _ _ _ _|exact LeO.refl _|exact LeO.none _|refine LeO.ite ?_ ?_|refine LeO.bind ?_ (fun _=>?_))
   |refine LeO.ite ?_ ?_
   |refine LeO.bind ?_ (fun _=>?_)
set_option maxHeartbeats 8000000 in
set_option maxRecDepth 100000 in
theorem spec_RankOk.calls (k:Nat) (a0:Int) (A1:Option Addr) (c1:Nat) (l1:List Int) (r:Bool) (w:World) (bn:Kd.C (Kd.int .i64) w A1 l1.length l1) (bo:l1.length≤c1) (h:spec_RankOk.f k a0 l1=some r):
  Calls Try.prog 59 #[.int .i64 a0,.slice A1 l1.length c1] w fun e w'=>e= .returned (.bool r)∧Below w.heap.size w w':=by
 have ao:=Asd.mk bn;have aI:=Asd.mk bo;clear bn bo;have HB:=Asd.mk (Below.refl w.heap.size w);have H:(spec_RankOk.l0 k a0 l1 9 0)=some r:=h;clear h;have H':=Asd.mk H;clear H;go_enter Try.func59,Try.ntmps59;go_wp2;go_loopg [5,6] k (fun kq v5 v6 w'=>∃(ad:Int) (j:Int),v5= .int .i64 ad∧v6= .int .i64 j∧Asd (spec_RankOk.l0 kq a0 l1 ad j=some r)∧Asd (kq≤k)∧Asd (Below w.heap.size w w'))
 case atStart=>exact⟨(9),(0),(by first|rfl|(simp;done)|(simp[*];done)),(by first|rfl|(simp;done)|(simp[*];done)),H',⟨Nat.le_refl _⟩,⟨wZ HB⟩⟩
 case round=>
  clear H';obtain⟨ad,j,rfl,rfl,HA,al,HB⟩:=hrel;cases gk with
  |zero=>exact absurd HA.out (by simp[spec_RankOk.l0])
  |succ k1=>
   have H:=HA.out;clear HA;simp only[spec_RankOk.l0]at H;rcases iT H with⟨c3,H⟩|⟨c3,H⟩
   ·have bJ:=decide_eq_true c3;clear c3;obtain⟨c4,H⟩:=iN H;have bH:=decide_eq_true c4;clear c4;obtain⟨t105,A5,H⟩:=bE H;try dsimp only at H
    by_cases c6:t105=true
    ·subst c6;rw[if_pos rfl]at H;obtain⟨de,bp⟩:∃j_:Int,(mn ad (rd l1 j))=j_:=⟨_,rfl⟩;first|rw[bp]at H|simp only[bp]at H
     (try rw[bp]at A5);have el:(if(rd l1 j)<ad then(rd l1 j)else ad)=de:=bp;have H':=Asd.mk H;clear H;have aK:0≤(j:Int):=odt;have aM:j<(l1.length:Int):=odt;obtain⟨ca,cb,ah⟩:=Kd.at_int ao.out j aK aM;cases cb;replace ah:=(HB.out.cell (World.block_lt_of_cell? w _ ah)).trans ah;replace aK:=eq_true aK;replace aM:=eq_true aM;go_wp2_with (first|((with_reducible refine gate_callee (f:=72) rfl ?_);refine gB (some 17) Try.func72 #[.int .i64 (rd l1 j),.int .i64 0,.int .i64 9] rfl ?_;(with_reducible refine(spec_l1In.calls (rd l1 j) 0 9 true _ A5.out).mono ?_);rintro e w' ⟨rfl,⟨nd,rfl⟩⟩;refine⟨_,rfl,?_⟩;have cc:0≤(j:Int):=odt;have cd:j<(l1.length:Int):=odt;obtain⟨cJ,df,aN⟩:=Kd.at_int ao.out j cc cd;obtain rfl:ca=cJ:=(by injection df);replace aN:=(HB.out.cell (World.block_lt_of_cell? w _ aN)).trans aN;replace cc:=eq_true cc;replace cd:=eq_true cd));go_roundg k1
     case measure=>have:=al.out;omega
     case rel=>exact⟨(de),(wrap64 (j+1)),(by first|rfl|(simp;done)|(simp only[←bp]<;>(first|rfl|simp))|(simp[*];done)),(by first|rfl|(simp;done)|(simp[*];done)),H',⟨by have:=al.out;omega⟩,⟨wZ HB⟩⟩
    ·replace c6:=Bool.eq_false_iff.mpr c6;subst c6;rw[if_neg (show¬(false=true) by decide)]at H;obtain rfl:=Option.some.inj H;have aK:0≤(j:Int):=odt;have aM:j<(l1.length:Int):=odt;obtain⟨ca,cb,ah⟩:=Kd.at_int ao.out j aK aM;cases cb;replace ah:=(HB.out.cell (World.block_lt_of_cell? w _ ah)).trans ah;replace aK:=eq_true aK;replace aM:=eq_true aM;go_wp2_with (first|((with_reducible refine gate_callee (f:=72) rfl ?_);refine gB (some 17) Try.func72 #[.int .i64 (rd l1 j),.int .i64 0,.int .i64 9] rfl ?_;(with_reducible refine(spec_l1In.calls (rd l1 j) 0 9 false _ A5.out).mono ?_);rintro e w' ⟨rfl,⟨nd,rfl⟩⟩;refine⟨_,rfl,?_⟩));go_ret;exact⟨by first|rfl|(simp[*,errW_none,errW_some]<;>rfl),wZ HB⟩
   ·have bJ:=decide_eq_false c3;clear c3;obtain⟨t107,A8,H⟩:=bE H;try dsimp only at H
    by_cases c9:t107=true
    ·subst c9;rw[if_pos rfl]at H;obtain⟨c10,H⟩:=iN H;have cf:=eq_true c10;have en:=decide_eq_true c10;clear c10;obtain⟨ax,ay⟩:∃j_:Int,(shl .i64 1 a0)=j_:=⟨_,rfl⟩;first|rw[ay]at H|simp only[ay]at H
     (try rw[ay]at A8);have bO:(IntKind.i64.wrap (1*2^min a0.toNat 64))=ax:=ay;have bT:a0≤64→(IntKind.i64.wrap (1*2^a0.toNat))=ax:=shl_small ay;have dX:(IntKind.i64.wrap (2^min a0.toNat 64))=ax:=by have h_:=bO;rw[Int.one_mul]at h_;exact h_
     have dY:a0≤64→(IntKind.i64.wrap (2^a0.toNat))=ax:=fun b8=>by have h_:=bT b8;rw[Int.one_mul]at h_;exact h_
     have dZ:(wrap64 (1*2^min a0.toNat 64))=ax:=(i64_w _).symm.trans bO;have ea:a0≤64→(wrap64 (1*2^a0.toNat))=ax:=fun h_=>(i64_w _).symm.trans (bT h_)
     rcases iT H with⟨aJ,H⟩|⟨aJ,H⟩
     ·have bw:((l1.length:Int)==(ax))=true:=beq_iff_eq.mpr aJ;have cK:((l1.length:Int) !=(ax))=false:=bne_eq_false_iff_eq.mpr aJ;clear aJ;obtain rfl:=Option.some.inj H;go_wp2_with (first|((with_reducible refine gate_callee (f:=72) rfl ?_);refine gB (some 26) Try.func72 #[.int .i64 a0,.int .i64 1,.int .i64 3] rfl ?_;(with_reducible refine(spec_l1In.calls a0 1 3 true _ A8.out).mono ?_);rintro e w' ⟨rfl,⟨nd,rfl⟩⟩;refine⟨_,rfl,?_⟩));go_ret;exact⟨by first|rfl|(simp[errW_none,errW_some]<;>rfl)|(simp only[←ay];first|rfl|(simp[errW_none,errW_some]<;>rfl))|(simp[*,errW_none,errW_some]<;>rfl),wZ HB⟩
     ·have bw:((l1.length:Int)==(ax))=false:=beq_eq_false_iff_ne.mpr aJ;have cK:((l1.length:Int) !=(ax))=true:=bne_iff_ne.mpr aJ;obtain rfl:=Option.some.inj H;go_wp2_with (first|((with_reducible refine gate_callee (f:=72) rfl ?_);refine gB (some 26) Try.func72 #[.int .i64 a0,.int .i64 1,.int .i64 3] rfl ?_;(with_reducible refine(spec_l1In.calls a0 1 3 true _ A8.out).mono ?_);rintro e w' ⟨rfl,⟨nd,rfl⟩⟩;refine⟨_,rfl,?_⟩));go_ret;exact⟨by first|rfl|(simp[errW_none,errW_some]<;>rfl)|(simp only[←ay];first|rfl|(simp[errW_none,errW_some]<;>rfl))|(simp[*,errW_none,errW_some]<;>rfl),wZ HB⟩
    ·replace c9:=Bool.eq_false_iff.mpr c9;subst c9;rw[if_neg (show¬(false=true) by decide)]at H;obtain rfl:=Option.some.inj H;go_wp2_with (first|((with_reducible refine gate_callee (f:=72) rfl ?_);refine gB (some 26) Try.func72 #[.int .i64 a0,.int .i64 1,.int .i64 3] rfl ?_;(with_reducible refine(spec_l1In.calls a0 1 3 false _ A8.out).mono ?_);rintro e w' ⟨rfl,⟨nd,rfl⟩⟩;refine⟨_,rfl,?_⟩));go_ret;exact⟨by first|rfl|(simp[*,errW_none,errW_some]<;>rfl),wZ HB⟩

/-! ### spec_TidyRank: function 89 -/
mutual
def spec_TidyRank.l0:Nat→Int→List Int→List Int→Int→Option (List Int)
 |0,_,_,_,_=>none
 |k+1,x0,x1,x5,x6=>if x6<(x1.length:Int)then((spec_RankOk.f k x0 x1).bind fun t111=>(spec_TidyRank.j1 k x0 x1 x5 x6 t111))else(spec_TidyRank.j1 k x0 x1 x5 x6 false)
def spec_TidyRank.j1:Nat→Int→List Int→List Int→Int→Bool→Option (List Int)
 |0,_,_,_,_,_=>none
 |k+1,x0,x1,x5,x6,x20=>if x20=true then(spec_TidyRank.l1 k x0 x1 x5 x6 0 0)else(some x5)
def spec_TidyRank.l1:Nat→Int→List Int→List Int→Int→Int→Int→Option (List Int)
 |0,_,_,_,_,_,_=>none
 |k+1,x0,x1,x5,x6,x7,x8=>if 0≤x6 then(if x6<(x1.length:Int)then(if x8<(rd x1 x6)then(spec_TidyRank.l2 k x0 x1 x5 x6 x7 x8 false 0)else(if x5.length<17592186044416 then(spec_TidyRank.l0 k x0 x1 (x5++ [x7]) (wrap64 (x6+1)))else(none)))else(none))else(none)
def spec_TidyRank.l2:Nat→Int→List Int→List Int→Int→Int→Int→Bool→Int→Option (List Int)
 |0,_,_,_,_,_,_,_,_=>none
 |k+1,x0,x1,x5,x6,x7,x8,x9,x10=>if x10<(x1.length:Int)then(if x9=true then(spec_TidyRank.l2 k x0 x1 x5 x6 x7 x8 true (wrap64 (x10+1)))else(if 0≤x10 then(spec_TidyRank.l2 k x0 x1 x5 x6 x7 x8 ((rd x1 x10)==x8) (wrap64 (x10+1)))else(none)))else(if x9=true then(spec_TidyRank.l1 k x0 x1 x5 x6 (wrap64 (x7+1)) (wrap64 (x8+1)))else(spec_TidyRank.l1 k x0 x1 x5 x6 x7 (wrap64 (x8+1))))
end
def spec_TidyRank.f (k:Nat) (a0:Int) (l1:List Int):Option (List Int):=spec_TidyRank.l0 k a0 l1 (([]:List Int)) 0
theorem spec_TidyRank.mono_l:∀k,(∀y0 y1 y2 y3,LeO (spec_TidyRank.l0 k y0 y1 y2 y3) (spec_TidyRank.l0 (k+1) y0 y1 y2 y3))∧(∀y0 y1 y2 y3 y4,LeO (spec_TidyRank.j1 k y0 y1 y2 y3 y4) (spec_TidyRank.j1 (k+1) y0 y1 y2 y3 y4))∧(∀y0 y1 y2 y3 y4 y5,LeO (spec_TidyRank.l1 k y0 y1 y2 y3 y4 y5) (spec_TidyRank.l1 (k+1) y0 y1 y2 y3 y4 y5))∧(∀y0 y1 y2 y3 y4 y5 y6 y7,LeO (spec_TidyRank.l2 k y0 y1 y2 y3 y4 y5 y6 y7) (spec_TidyRank.l2 (k+1) y0 y1 y2 y3 y4 y5 y6 y7))
 |0=>⟨fun _ _ _ _ r h=>by simp[spec_TidyRank.l0]at h,fun _ _ _ _ _ r h=>by simp[spec_TidyRank.j1]at h,fun _ _ _ _ _ _ r h=>by simp[spec_TidyRank.l1]at h,fun _ _ _ _ _ _ _ _ r h=>by simp[spec_TidyRank.l2]at h⟩
 |k+1=>by
  obtain⟨ar,b0,b1,b4⟩:=spec_TidyRank.mono_l k;refine⟨?_,?_,?_,?_⟩
  ·intro y0 y1 y2 y3;unfold spec_TidyRank.l0;repeat' first
   |(with_reducible first|exact ar _ _ _ _|exact b0 _ _ _ _ _|exact b1 _ _ _ _ _ _|exact b4 _ _ _ _ _ _ _ _|exact spec_RankOk.mono _ _ _|exact LeO.refl _|exact LeO.none _|refine LeO.ite ?_ ?_|refine LeO.bind ?_ (fun _=>?_))
   |refine LeO.ite ?_ ?_
   |refine LeO.bind ?_ (fun _=>?_)
  ·intro y0 y1 y2 y3 y4;unfold spec_TidyRank.j1;repeat' first
   |(with_reducible first|exact ar _ _ _ _|exact b0 _ _ _ _ _|exact b1 _ _ _ _ _ _|exact b4 _ _ _ _ _ _ _ _|exact spec_RankOk.mono _ _ _|exact LeO.refl _|exact LeO.none _|refine LeO.ite ?_ ?_|refine LeO.bind ?_ (fun _=>?_))
   |refine LeO.ite ?_ ?_
   |refine LeO.bind ?_ (fun _=>?_)
  ·intro y0 y1 y2 y3 y4 y5;unfold spec_TidyRank.l1;repeat' first
   |(with_reducible first|exact ar _ _ _ _|exact b0 _ _ _ _ _|exact b1 _ _ _ _ _ _|exact b4 _ _ _ _ _ _ _ _|exact spec_RankOk.mono _ _ _|exact LeO.refl _|exact LeO.none _|refine LeO.ite ?_ ?_|refine LeO.bind ?_ (fun _=>?_))
   |refine LeO.ite ?_ ?_
   |refine LeO.bind ?_ (fun _=>?_)
  ·intro y0 y1 y2 y3 y4 y5 y6 y7;unfold spec_TidyRank.l2;repeat' first
   |(with_reducible first|exact ar _ _ _ _|exact b0 _ _ _ _ _|exact b1 _ _ _ _ _ _|exact b4 _ _ _ _ _ _ _ _|exact spec_RankOk.mono _ _ _|exact LeO.refl _|exact LeO.none _|refine LeO.ite ?_ ?_|refine LeO.bind ?_ (fun _=>?_))
   |refine LeO.ite ?_ ?_
   |refine LeO.bind ?_ (fun _=>?_)
theorem spec_TidyRank.mono:∀a0 a1 k,LeO (spec_TidyRank.f k a0 a1) (spec_TidyRank.f (k+1) a0 a1):=by
 intro a0 a1 k;obtain⟨ar,b0,b1,b4⟩:=spec_TidyRank.mono_l k;unfold spec_TidyRank.f
 repeat' first
   |(with_reducible first|exact ar _ _ _ _|exact b0 _ _ _ _ _|exact b1 _ _ _ _ _ _|exact b4 _ _ _ _ _ _ _ _|exact spec_RankOk.mono _ _ _|exact LeO.refl _|exact LeO.none _|refine LeO.ite ?_ ?_|refine LeO.bind ?_ (fun _=>?_))
   |refine LeO.ite ?_ ?_
   |refine LeO.bind ?_ (fun _=>?_)
set_option maxHeartbeats 8000000 in
set_option maxRecDepth 100000 in
theorem spec_TidyRank.calls (k:Nat) (a0:Int) (A1:Option Addr) (c1:Nat) (l1:List Int) (r:List Int) (w:World) (bn:Kd.C (Kd.int .i64) w A1 l1.length l1) (bo:l1.length≤c1) (h:spec_TidyRank.f k a0 l1=some r):
  Calls Try.prog 89 #[.int .i64 a0,.slice A1 l1.length c1] w fun e w'=>∃dg:Value,e= .returned (dg)∧Kd.R (Kd.int .i64) 3 w' w.heap.size (fun _=>True) dg r∧Below w.heap.size w w':=by
 have ao:=Asd.mk bn;have aI:=Asd.mk bo;clear bn bo;have HB:=Asd.mk (Below.refl w.heap.size w);have H:(spec_TidyRank.l0 k a0 l1 (([]:List Int)) 0)=some r:=h;clear h;obtain⟨cF,bx⟩:∃y_:List Int,y_=(([]:List Int)):=⟨_,rfl⟩;replace H:(spec_TidyRank.l0 k a0 l1 cF 0)=some r:=by first|(rw[bx];exact H)|exact H
 have cg:=Asd.mk bx;clear bx;have H':=Asd.mk H;clear H;go_enter Try.func89,Try.ntmps89;go_wp2_with (first|((with_reducible refine gate_dst (N:=11) rfl ?_);refine Kd.R_lit (Kd.int .i64) _ 3 ?hg (N:=11) ?hd (xs:=([]:List Int)) (inner:=[]) (ok:=fun _=>True) (okp:=fun _=>True) ?hr ?hp (fun _ hk=>hk) trivial (Below.refl _ _) (Nat.le_refl _) (by simp) ?_;(case hd=>rfl);(case hg=>rfl);(case hr=>first|(go_simp;done)|(go_simp;rfl));(case hp=>exact(Reps.none _ _));intro v109 w3 ch hb eo cL;clear eo cL;(first|rw[←cg.out]at ch|(simp only[Int.reduceToNat]at ch;rw[←cg.out]at ch));have cM:=Asd.mk (Kd.R_lower ch (below_size (wZ HB)));replace HB:=bW HB hb;clear hb ch));go_loopg [5,6] k (fun kq v5 v6 w'=>∃(ad:List Int) (j:Int),v6= .int .i64 j∧Asd (spec_TidyRank.l0 kq a0 l1 ad j=some r)∧Asd (kq≤k)∧Asd (Kd.R (Kd.int .i64) 3 w' w.heap.size (fun _=>True) v5 ad)∧Asd (Below w.heap.size w w'))
 case atStart=>exact⟨(cF),(0),(by first|rfl|(simp;done)|(simp[*];done)),H',⟨Nat.le_refl _⟩,⟨by(repeat apply Kd.RS);exact cM.out⟩,⟨wZ HB⟩⟩
 case round=>
  clear H';obtain⟨ad,j,rfl,HA,al,HO_5,HB⟩:=hrel;cases gk with
  |zero=>exact absurd HA.out (by simp[spec_TidyRank.l0])
  |succ k1=>
   have H:=HA.out;clear HA;simp only[spec_TidyRank.l0]at H;have cN:=Asd.mk H;clear H;go_upto_region 3 with(fail)
   go_cut [20] (fun v20 wc=>∃(kq:Nat) (bh:Bool),v20= .bool bh∧Asd (spec_TidyRank.j1 kq a0 l1 ad j bh=some r)∧Asd (kq≤k1)∧Asd (Kd.R (Kd.int .i64) 3 wc w.heap.size (fun _=>True) u5 ad)∧Asd (Below w.heap.size w wc))
   case first=>
    have H:=cN.out;clear cN;rcases iT H with⟨c6,H⟩|⟨c6,H⟩
    ·have bq:=decide_eq_true c6;clear c6;(first|rw[bq]|(simp only[i64_w,i32_w];rw[bq])|skip);obtain⟨t111,A7,H⟩:=bE H;try dsimp only at H
     have H':=Asd.mk H;clear H;go_wp2_with (first|(go_at_call 59;(with_reducible refine(spec_RankOk.calls k1 a0 _ _ l1 t111 _ ?side1 ?side2 A7.out).mono ?_);(case side1=>exact cZ (Kd.C_below ao.out HB.out));(case side2=>exact aI.out);rintro e w8 ⟨rfl,hb⟩;replace HO_5:=bR HO_5 hb;replace HB:=bW HB hb;clear hb));go_meet
     case rel=>exact⟨_,(t111),(by first|rfl|(simp;done)|(simp[*];done)),H',⟨by have:=al.out;first|omega|exact Nat.le_refl _⟩,⟨by(repeat apply Kd.RS);exact HO_5.out⟩,⟨wZ HB⟩⟩
    ·have bq:=decide_eq_false c6;clear c6;(first|rw[bq]|(simp only[i64_w,i32_w];rw[bq])|skip);have H':=Asd.mk H;clear H;go_wp2;go_meet
     case rel=>exact⟨_,(false),(by first|rfl|(simp;done)|(simp[*];done)),H',⟨by have:=al.out;first|omega|exact Nat.le_refl _⟩,⟨by(repeat apply Kd.RS);exact HO_5.out⟩,⟨wZ HB⟩⟩
   case rest=>
    clear cN;obtain⟨kq,bh,rfl,HA,bb,HO_5,HB⟩:=hcut;cases kq with
    |zero=>exact absurd HA.out (by simp[spec_TidyRank.j1])
    |succ kj4=>
     have H:=HA.out;clear HA;simp only[spec_TidyRank.j1]at H;by_cases c9:bh=true
     ·subst c9;rw[if_pos rfl]at H;have H':=Asd.mk H;clear H;go_wp2;go_loopg [7,8] kj4 (fun kq v7 v8 w'=>∃(aA:Int) (aQ:Int),v7= .int .i64 aA∧v8= .int .i64 aQ∧Asd (spec_TidyRank.l1 kq a0 l1 ad j aA aQ=some r)∧Asd (kq≤kj4)∧Asd (Kd.R (Kd.int .i64) 3 w' w.heap.size (fun _=>True) u5 ad)∧Asd (Below w.heap.size w w'))
      case atStart=>exact⟨(0),(0),(by first|rfl|(simp;done)|(simp[*];done)),(by first|rfl|(simp;done)|(simp[*];done)),H',⟨Nat.le_refl _⟩,⟨by(repeat apply Kd.RS);exact HO_5.out⟩,⟨wZ HB⟩⟩
      case round=>
       clear H';obtain⟨aA,aQ,rfl,rfl,HA,bc,HO_5,HB⟩:=hrel;cases gk with
       |zero=>exact absurd HA.out (by simp[spec_TidyRank.l1])
       |succ k3=>
        have H:=HA.out;clear HA;simp only[spec_TidyRank.l1]at H;obtain⟨c10,H⟩:=iN H;have cf:=decide_eq_true c10;clear c10;obtain⟨bj,H⟩:=iN H;have cj:=decide_eq_true bj;clear bj;rcases iT H with⟨aJ,H⟩|⟨aJ,H⟩
        ·have bw:=decide_eq_true aJ;clear aJ;have H':=Asd.mk H;clear H;have aR:0≤(j:Int):=odt;have aT:j<(l1.length:Int):=odt;obtain⟨ck,cl,ai⟩:=Kd.at_int ao.out j aR aT;cases cl;replace ai:=(HB.out.cell (World.block_lt_of_cell? w _ ai)).trans ai;replace aR:=eq_true aR;replace aT:=eq_true aT;go_wp2;go_loopg [9,10] k3 (fun kq v9 v10 w'=>∃(br:Bool) (aq:Int),v9= .bool br∧v10= .int .i64 aq∧Asd (spec_TidyRank.l2 kq a0 l1 ad j aA aQ br aq=some r)∧Asd (kq≤k3)∧Asd (Kd.R (Kd.int .i64) 3 w' w.heap.size (fun _=>True) u5 ad)∧Asd (Below w.heap.size w w'))
         case atStart=>exact⟨(false),(0),(by first|rfl|(simp;done)|(simp[*];done)),(by first|rfl|(simp;done)|(simp[*];done)),H',⟨Nat.le_refl _⟩,⟨by(repeat apply Kd.RS);exact HO_5.out⟩,⟨wZ HB⟩⟩
         case round=>
          clear H';obtain⟨br,aq,rfl,rfl,HA,bs,HO_5,HB⟩:=hrel;cases gk with
          |zero=>exact absurd HA.out (by simp[spec_TidyRank.l2])
          |succ k4=>
           have H:=HA.out;clear HA;simp only[spec_TidyRank.l2]at H;rcases iT H with⟨cm,H⟩|⟨cm,H⟩
           ·have cO:=decide_eq_true cm;clear cm;by_cases bk:br=true
            ·subst bk;rw[if_pos rfl]at H;have H':=Asd.mk H;clear H;go_wp2;go_roundg k4
             case measure=>have:=al.out;have:=bb.out;have:=bc.out;have:=bs.out;omega
             case rel=>exact⟨(true),(wrap64 (aq+1)),(by first|rfl|(simp;done)|(simp[*];done)),(by first|rfl|(simp;done)|(simp[*];done)),H',⟨by have:=al.out;have:=bb.out;have:=bc.out;have:=bs.out;omega⟩,⟨by(repeat apply Kd.RS);exact HO_5.out⟩,⟨wZ HB⟩⟩
            ·replace bk:=Bool.eq_false_iff.mpr bk;subst bk;rw[if_neg (show¬(false=true) by decide)]at H;obtain⟨dh,H⟩:=iN H;have ep:=decide_eq_true dh;clear dh;have H':=Asd.mk H;clear H;have cn:0≤(aq:Int):=odt;have cp:aq<(l1.length:Int):=odt;obtain⟨cP,di,aU⟩:=Kd.at_int ao.out aq cn cp;obtain rfl:ck=cP:=(by injection di);replace aU:=(HB.out.cell (World.block_lt_of_cell? w _ aU)).trans aU;replace cn:=eq_true cn;replace cp:=eq_true cp;go_wp2;go_roundg k4
             case measure=>have:=al.out;have:=bb.out;have:=bc.out;have:=bs.out;omega
             case rel=>exact⟨(((rd l1 aq)==aQ)),(wrap64 (aq+1)),(by first|rfl|(simp;done)|(simp[*];done)),(by first|rfl|(simp;done)|(simp[*];done)),H',⟨by have:=al.out;have:=bb.out;have:=bc.out;have:=bs.out;omega⟩,⟨by(repeat apply Kd.RS);exact HO_5.out⟩,⟨wZ HB⟩⟩
           ·have cO:=decide_eq_false cm;clear cm;by_cases cE:br=true
            ·subst cE;rw[if_pos rfl]at H;have H':=Asd.mk H;clear H;go_wp2;go_roundg k4
             case measure=>have:=al.out;have:=bb.out;have:=bc.out;have:=bs.out;omega
             case rel=>exact⟨(wrap64 (aA+1)),(wrap64 (aQ+1)),(by first|rfl|(simp;done)|(simp[*];done)),(by first|rfl|(simp;done)|(simp[*];done)),H',⟨by have:=al.out;have:=bb.out;have:=bc.out;have:=bs.out;omega⟩,⟨by(repeat apply Kd.RS);exact HO_5.out⟩,⟨wZ HB⟩⟩
            ·replace cE:=Bool.eq_false_iff.mpr cE;subst cE;rw[if_neg (show¬(false=true) by decide)]at H;have H':=Asd.mk H;clear H;go_wp2;go_roundg k4
             case measure=>have:=al.out;have:=bb.out;have:=bc.out;have:=bs.out;omega
             case rel=>exact⟨(aA),(wrap64 (aQ+1)),(by first|rfl|(simp;done)|(simp[*];done)),(by first|rfl|(simp;done)|(simp[*];done)),H',⟨by have:=al.out;have:=bb.out;have:=bc.out;have:=bs.out;omega⟩,⟨by(repeat apply Kd.RS);exact HO_5.out⟩,⟨wZ HB⟩⟩
        ·have bw:=decide_eq_false aJ;clear aJ;obtain⟨dj,H⟩:=iN H;have cQ:=Asd.mk dj;clear dj;obtain⟨cG,bz⟩:∃y_:List Int,y_=(ad++ [aA]):=⟨_,rfl⟩;replace H:(spec_TidyRank.l0 k3 a0 l1 cG (wrap64 (j+1)))=some r:=by first|(rw[bz];exact H)|exact H
         have cR:=Asd.mk bz;clear bz;have H':=Asd.mk H;clear H;have aR:0≤(j:Int):=odt;have aT:j<(l1.length:Int):=odt;obtain⟨ck,cl,ai⟩:=Kd.at_int ao.out j aR aT;cases cl;replace ai:=(HB.out.cell (World.block_lt_of_cell? w _ ai)).trans ai;replace aR:=eq_true aR;replace aT:=eq_true aT;go_wp2_with (first|((with_reducible refine gate_builtin (b:=.append) (xs:= #[.tmp 49,.tmp 51]) rfl ?_);at_builtin;refine Kd.R_append (Kd.int .i64) (w0:=w) w.heap.size rfl (.tmp 49) (.tmp 51) 55 3 (.int .i64 0) 8 rfl Try.underlying55 info3 rfl (by decide) (by omega) u5 ad aA [.int .i64 aA] (fun _=>True) (fun _=>False) rfl rfl ?aP (fun _ hk=>hk.elim) ?aF ?aO ?aB ?aS ?aL ?_;(case aP=>exact rfl);(case aB=>exact(wZ HB));(case aF=>exact(fun _ _=>trivial));(case aO=>exact(rS HO_5));(case aS=>exact(below_size (wZ HB)));(case aL=>have:=cQ.out;omega);intro eC w18 ho hb hg er;rw[←cR.out]at ho;replace HB:=Asd.mk (hb);have cS:=Asd.mk (ho);clear HO_5;clear ho hb hg er));go_roundg k3
         case measure=>have:=al.out;have:=bb.out;have:=bc.out;omega
         case rel=>exact⟨(cG),(wrap64 (j+1)),(by first|rfl|(simp;done)|(simp[*];done)),H',⟨by have:=al.out;have:=bb.out;have:=bc.out;omega⟩,⟨by(repeat apply Kd.RS);exact cS.out⟩,⟨wZ HB⟩⟩
     ·replace c9:=Bool.eq_false_iff.mpr c9;subst c9;rw[if_neg (show¬(false=true) by decide)]at H;obtain rfl:=Option.some.inj H;go_wp2;go_ret;exact⟨_,by first|rfl|(simp[*,errW_none,errW_some]<;>rfl),by(repeat apply Kd.RS);exact HO_5.out,wZ HB⟩

/-! ### spec_l10Tidy: function 99 -/
def spec_l10Tidy.l0:Nat→List Int→List Int→Int→Option (Bool)
 |0,_,_,_=>none
 |k+1,x1,x5,x6=>if x6<(x5.length:Int)then(if 0≤x6 then(if x6<(x1.length:Int)then(if(rd x5 x6)=(rd x1 x6)then(spec_l10Tidy.l0 k x1 x5 (wrap64 (x6+1)))else(some false))else(none))else(none))else(some true)
def spec_l10Tidy.f (k:Nat) (a0:Int) (l1:List Int):Option (Bool):=(spec_RankOk.f k a0 l1).bind fun t117=>(if t117=true then((spec_TidyRank.f k a0 l1).bind fun t118=>(spec_l10Tidy.l0 k l1 t118 0))else(some false))
theorem spec_l10Tidy.mono_l:∀k,(∀y0 y1 y2,LeO (spec_l10Tidy.l0 k y0 y1 y2) (spec_l10Tidy.l0 (k+1) y0 y1 y2))
 |0=>fun _ _ _ r h=>by simp[spec_l10Tidy.l0]at h
 |k+1=>by
  have ar:=spec_l10Tidy.mono_l k
  ·intro y0 y1 y2;unfold spec_l10Tidy.l0;repeat' first
   |(with_reducible first|exact ar _ _ _|exact spec_RankOk.mono _ _ _|exact spec_TidyRank.mono _ _ _|exact LeO.refl _|exact LeO.none _|refine LeO.ite ?_ ?_|refine LeO.bind ?_ (fun _=>?_))
   |refine LeO.ite ?_ ?_
   |refine LeO.bind ?_ (fun _=>?_)
theorem spec_l10Tidy.mono:∀a0 a1 k,LeO (spec_l10Tidy.f k a0 a1) (spec_l10Tidy.f (k+1) a0 a1):=by
 intro a0 a1 k;have ar:=spec_l10Tidy.mono_l k;unfold spec_l10Tidy.f
 repeat' first
   |(with_reducible first|exact ar _ _ _|exact spec_RankOk.mono _ _ _|exact spec_TidyRank.mono _ _ _|exact LeO.refl _|exact LeO.none _|refine LeO.ite ?_ ?_|refine LeO.bind ?_ (fun _=>?_))
   |refine LeO.ite ?_ ?_
   |refine LeO.bind ?_ (fun _=>?_)
set_option maxHeartbeats 8000000 in
set_option maxRecDepth 100000 in
theorem spec_l10Tidy.calls (k:Nat) (a0:Int) (A1:Option Addr) (c1:Nat) (l1:List Int) (r:Bool) (w:World) (bn:Kd.C (Kd.int .i64) w A1 l1.length l1) (bo:l1.length≤c1) (h:spec_l10Tidy.f k a0 l1=some r):
  Calls Try.prog 99 #[.int .i64 a0,.slice A1 l1.length c1] w fun e w'=>e= .returned (.bool r)∧Below w.heap.size w w':=by
 have ao:=Asd.mk bn;have aI:=Asd.mk bo;clear bn bo;have HB:=Asd.mk (Below.refl w.heap.size w);have H:((spec_RankOk.f k a0 l1).bind fun t117=>(if t117=true then((spec_TidyRank.f k a0 l1).bind fun t118=>(spec_l10Tidy.l0 k l1 t118 0))else(some false)))=some r:=h;clear h;obtain⟨t117,A3,H⟩:=bE H;try dsimp only at H
 by_cases c4:t117=true
 ·subst c4;rw[if_pos rfl]at H;obtain⟨t118,A5,H⟩:=bE H;try dsimp only at H
  have H':=Asd.mk H;clear H;go_enter Try.func99,Try.ntmps99;go_wp2_with (first|(go_at_call 59;(with_reducible refine(spec_RankOk.calls k a0 _ _ l1 true _ ?side1 ?side2 A3.out).mono ?_);(case side1=>exact cZ ao.out);(case side2=>exact aI.out);rintro e w6 ⟨rfl,hb⟩;replace HB:=bW HB hb;clear hb)|(go_at_call 89;(with_reducible refine(spec_TidyRank.calls k a0 _ _ l1 t118 _ ?side1 ?side2 A5.out).mono ?_);(case side1=>exact cZ (Kd.C_below ao.out HB.out));(case side2=>exact aI.out);rintro e w7 ⟨cq,rfl,bu,hb⟩;have bA:=Asd.mk (Kd.R_lower bu (below_size (wZ HB)));replace HB:=bW HB hb;clear hb;(try clear bu)));repeat(go_quiet (first|(go_at_call 59;(with_reducible refine(spec_RankOk.calls k a0 _ _ l1 true _ ?side1 ?side2 A3.out).mono ?_);(case side1=>exact cZ ao.out);(case side2=>exact aI.out);rintro e w6 ⟨rfl,hb⟩;replace HB:=bW HB hb;clear hb)|(go_at_call 89;(with_reducible refine(spec_TidyRank.calls k a0 _ _ l1 t118 _ ?side1 ?side2 A5.out).mono ?_);(case side1=>exact cZ (Kd.C_below ao.out HB.out));(case side2=>exact aI.out);rintro e w7 ⟨cq,rfl,bu,hb⟩;have bA:=Asd.mk (Kd.R_lower bu (below_size (wZ HB)));replace HB:=bW HB hb;clear hb;(try clear bu)));try go_wp2_with (first|(go_at_call 59;(with_reducible refine(spec_RankOk.calls k a0 _ _ l1 true _ ?side1 ?side2 A3.out).mono ?_);(case side1=>exact cZ ao.out);(case side2=>exact aI.out);rintro e w6 ⟨rfl,hb⟩;replace HB:=bW HB hb;clear hb)|(go_at_call 89;(with_reducible refine(spec_TidyRank.calls k a0 _ _ l1 t118 _ ?side1 ?side2 A5.out).mono ?_);(case side1=>exact cZ (Kd.C_below ao.out HB.out));(case side2=>exact aI.out);rintro e w7 ⟨cq,rfl,bu,hb⟩;have bA:=Asd.mk (Kd.R_lower bu (below_size (wZ HB)));replace HB:=bW HB hb;clear hb;(try clear bu))))
  go_loopg [6] k (fun kq v6 w'=>∃(j:Int),v6= .int .i64 j∧Asd (spec_l10Tidy.l0 kq l1 t118 j=some r)∧Asd (kq≤k)∧Asd (Kd.R (Kd.int .i64) 3 w' w.heap.size (fun _=>True) cq t118)∧Asd (Below w.heap.size w w'))
  case atStart=>exact⟨(0),(by first|rfl|(simp;done)|(simp[*];done)),H',⟨Nat.le_refl _⟩,⟨by(repeat apply Kd.RS);exact bA.out⟩,⟨wZ HB⟩⟩
  case round=>
   clear H';obtain⟨j,rfl,HA,al,HO_5,HB⟩:=hrel;cases gk with
   |zero=>exact absurd HA.out (by simp[spec_l10Tidy.l0])
   |succ k1=>
    have H:=HA.out;clear HA;simp only[spec_l10Tidy.l0]at H;rcases iT H with⟨c8,H⟩|⟨c8,H⟩
    ·have dk:=decide_eq_true c8;clear c8;obtain⟨c9,H⟩:=iN H;have eD:=decide_eq_true c9;clear c9;obtain⟨c10,H⟩:=iN H;have cf:=decide_eq_true c10;clear c10;rcases iT H with⟨bj,H⟩|⟨bj,H⟩
     ·have cj:((rd t118 j)==(rd l1 j))=true:=beq_iff_eq.mpr bj;have cT:((rd t118 j) !=(rd l1 j))=false:=bne_eq_false_iff_eq.mpr bj;clear bj;have H':=Asd.mk H;clear H;obtain⟨eE,eF,dm⟩:=Kd.R_slice HO_5.out;subst dm;have aV:0≤(j:Int):=odt;have aW:j<(t118.length:Int):=odt;obtain⟨cU,cr,ct⟩:=Kd.at_int (Kd.R_reads' HO_5.out).2.2 j aV aW;cases cr;replace aV:=eq_true aV;replace aW:=eq_true aW;have aY:0≤(j:Int):=odt;have aZ:j<(l1.length:Int):=odt;obtain⟨cV,cu,aj⟩:=Kd.at_int ao.out j aY aZ;cases cu;replace aj:=(HB.out.cell (World.block_lt_of_cell? w _ aj)).trans aj;replace aY:=eq_true aY;replace aZ:=eq_true aZ;go_wp2;repeat(go_quiet (fail);try go_wp2)
      go_roundg k1
      case measure=>have:=al.out;omega
      case rel=>exact⟨(wrap64 (j+1)),(by first|rfl|(simp;done)|(simp[*];done)),H',⟨by have:=al.out;omega⟩,⟨by(repeat apply Kd.RS);exact HO_5.out⟩,⟨wZ HB⟩⟩
     ·have cj:((rd t118 j)==(rd l1 j))=false:=beq_eq_false_iff_ne.mpr bj;have cT:((rd t118 j) !=(rd l1 j))=true:=bne_iff_ne.mpr bj;obtain rfl:=Option.some.inj H;obtain⟨eG,eH,dn⟩:=Kd.R_slice HO_5.out;subst dn;have aV:0≤(j:Int):=odt;have aW:j<(t118.length:Int):=odt;obtain⟨cU,cr,ct⟩:=Kd.at_int (Kd.R_reads' HO_5.out).2.2 j aV aW;cases cr;replace aV:=eq_true aV;replace aW:=eq_true aW;have aY:0≤(j:Int):=odt;have aZ:j<(l1.length:Int):=odt;obtain⟨cV,cu,aj⟩:=Kd.at_int ao.out j aY aZ;cases cu;replace aj:=(HB.out.cell (World.block_lt_of_cell? w _ aj)).trans aj;replace aY:=eq_true aY;replace aZ:=eq_true aZ;go_wp2;repeat(go_quiet (fail);try go_wp2)
      go_ret;exact⟨by first|rfl|(simp[*,errW_none,errW_some]<;>rfl),wZ HB⟩
    ·have dk:=decide_eq_false c8;clear c8;obtain rfl:=Option.some.inj H;obtain⟨eI,eJ,dp⟩:=Kd.R_slice HO_5.out;subst dp;go_wp2;repeat(go_quiet (fail);try go_wp2)
     go_ret;exact⟨by first|rfl|(simp[*,errW_none,errW_some]<;>rfl),wZ HB⟩
 ·replace c4:=Bool.eq_false_iff.mpr c4;subst c4;rw[if_neg (show¬(false=true) by decide)]at H;obtain rfl:=Option.some.inj H;go_enter Try.func99,Try.ntmps99;go_wp2_with (first|(go_at_call 59;(with_reducible refine(spec_RankOk.calls k a0 _ _ l1 false _ ?side1 ?side2 A3.out).mono ?_);(case side1=>exact cZ ao.out);(case side2=>exact aI.out);rintro e w15 ⟨rfl,hb⟩;replace HB:=bW HB hb;clear hb));repeat(go_quiet (first|(go_at_call 59;(with_reducible refine(spec_RankOk.calls k a0 _ _ l1 false _ ?side1 ?side2 A3.out).mono ?_);(case side1=>exact cZ ao.out);(case side2=>exact aI.out);rintro e w15 ⟨rfl,hb⟩;replace HB:=bW HB hb;clear hb));try go_wp2_with (first|(go_at_call 59;(with_reducible refine(spec_RankOk.calls k a0 _ _ l1 false _ ?side1 ?side2 A3.out).mono ?_);(case side1=>exact cZ ao.out);(case side2=>exact aI.out);rintro e w15 ⟨rfl,hb⟩;replace HB:=bW HB hb;clear hb)))
  go_ret;exact⟨by first|rfl|(simp[*,errW_none,errW_some]<;>rfl),wZ HB⟩

/-! ### spec_MindValid: function 52 -/
def spec_MindValid.l0:Nat→Int→Int→List Int→List (List Int)→Option (Bool)
 |0,_,_,_,_=>none
 |k+1,x3,x124000,x124001,x124002=>if x3<(x124002.length:Int)then(if 0≤x3 then((spec_l10Tidy.f k x124000 (rd_L1 x124002 x3)).bind fun t125=>(if t125=true then(spec_MindValid.l0 k (wrap64 (x3+1)) x124000 x124001 x124002)else(some false)))else(none))else((spec_l10Tidy.f k x124000 x124001).bind fun t126=>(if t126=true then(some (decide ((x124002.length:Int)≤10)))else(some false)))
def spec_MindValid.f (k:Nat) (ae:Int) (ag:List Int) (aa:List (List Int)):Option (Bool):=spec_MindValid.l0 k 0 ae ag aa
theorem spec_MindValid.mono_l:∀k,(∀y0 y1 y2 y3,LeO (spec_MindValid.l0 k y0 y1 y2 y3) (spec_MindValid.l0 (k+1) y0 y1 y2 y3))
 |0=>fun _ _ _ _ r h=>by simp[spec_MindValid.l0]at h
 |k+1=>by
  have ar:=spec_MindValid.mono_l k
  ·intro y0 y1 y2 y3;unfold spec_MindValid.l0;repeat' first
   |(with_reducible first|exact ar _ _ _ _|exact spec_l10Tidy.mono _ _ _|exact LeO.refl _|exact LeO.none _|refine LeO.ite ?_ ?_|refine LeO.bind ?_ (fun _=>?_))
   |refine LeO.ite ?_ ?_
   |refine LeO.bind ?_ (fun _=>?_)
theorem spec_MindValid.mono:∀a0 a1 a2 k,LeO (spec_MindValid.f k a0 a1 a2) (spec_MindValid.f (k+1) a0 a1 a2):=by
 intro a0 a1 a2 k;have ar:=spec_MindValid.mono_l k;unfold spec_MindValid.f
 repeat' first
   |(with_reducible first|exact ar _ _ _ _|exact spec_l10Tidy.mono _ _ _|exact LeO.refl _|exact LeO.none _|refine LeO.ite ?_ ?_|refine LeO.bind ?_ (fun _=>?_))
   |refine LeO.ite ?_ ?_
   |refine LeO.bind ?_ (fun _=>?_)
def spec_MindValid.T4:Bool×List (List Nat×List Nat):=(true,[([],[]),([0],[0]),([],[]),([2],[2]),([],[]),([3,4],[3,4]),([5],[5]),([1,6],[1,6]),([7],[7])])
def spec_MindValid.B4:List Nat:=[0,1,0,4,0,28,60,127,255]
theorem spec_MindValid.tab4:rtab .any (opsOf Try.f52 4)=spec_MindValid.T4:=by kernel_rfl
theorem spec_MindValid.bits4:waitsOk spec_MindValid.T4.2 spec_MindValid.B4=true:=by kernel_rfl
set_option maxHeartbeats 8000000 in
set_option maxRecDepth 100000 in
theorem spec_MindValid.calls (k:Nat) (ae:Int) (aE:Option Addr) (aG:Nat) (ag:List Int) (bV:Option Addr) (bg:Nat) (aa:List (List Int)) (r:Bool) (w:World) (cv:Kd.C (Kd.int .i64) w aE ag.length ag) (cw:ag.length≤aG) (cx:Kd.C (Kd.slice 3 (Kd.int .i64)) w bV aa.length aa) (cy:aa.length≤bg) (h:spec_MindValid.f k ae ag aa=some r):
  Calls Try.prog 52 #[.agg #[.int .i64 ae,.slice aE ag.length aG,.slice bV aa.length bg]] w fun e w'=>e= .returned (.bool r)∧Below w.heap.size w w':=by
 have eK:=Try.underlying58;have cz:=Asd.mk cv;have cA:=Asd.mk cw;clear cv cw;have cB:=Asd.mk cx;have et:=Asd.mk cy;clear cx cy;have HB:=Asd.mk (Below.refl w.heap.size w);have H:(spec_MindValid.l0 k 0 ae ag aa)=some r:=h;clear h;have H':=Asd.mk H;clear H;go_enter Try.func52,Try.ntmps52;go_wp2_with (first|((with_reducible refine gate_dst (N:=1) rfl ?_);(try(refine gate_guard (by rfl) ?_;dsimp only));refine bxA 1 #[.int .i64 ae,.slice aE ag.length aG,.slice bV aa.length bg] 58 ?_;intro az hg w2 aH hb;have I:=Asd.mk (aH);have eu:=bG HB hg;have ev:=bG HB hg;replace HB:=bW HB hb;clear hb aH hg));go_loopg [3] k (fun kq v3 w'=>∃(af:Int),v3= .int .i64 af∧Asd (spec_MindValid.l0 kq af ae ag aa=some r)∧Asd (kq≤k)∧Asd (w'.heap[az]?=some (.cells #[.int .i64 ae,(.slice aE ag.length aG),(.slice bV aa.length bg)] 58 (0,0)))∧Asd (Below w.heap.size w w'))
 case atStart=>exact⟨(0),(by first|rfl|(simp;done)|(simp[*];done)),H',⟨Nat.le_refl _⟩,⟨kS I⟩,⟨wZ HB⟩⟩
 case round=>
  clear H';obtain⟨af,rfl,HA,al,I,HB⟩:=hrel;cases gk with
  |zero=>exact absurd HA.out (by simp[spec_MindValid.l0])
  |succ k1=>
   have H:=HA.out;clear HA;simp only[spec_MindValid.l0]at H;rcases iT H with⟨c3,H⟩|⟨c3,H⟩
   ·have bJ:=decide_eq_true c3;clear c3;obtain⟨c4,H⟩:=iN H;have bH:=decide_eq_true c4;clear c4;obtain⟨t125,A5,H⟩:=bE H;try dsimp only at H
    by_cases c6:t125=true
    ·subst c6;rw[if_pos rfl]at H;have H':=Asd.mk H;clear H;obtain⟨eb,ec,ed,ee,ef,eg⟩:=b3 I;try go_wp2
     replace I:=Asd.mk (bkD I.out);replace HB:=Asd.mk (bwD HB.out);have a6:0≤(af:Int):=odt;have a7:af<(aa.length:Int):=odt;obtain⟨a8,aC,aD,cC,J,au,av⟩:=at_L1 cB.out af a6 a7;have ab:=J;cases cC;replace J:=(HB.out.cell (World.block_lt_of_cell? w _ J)).trans J;have aw:=Asd.mk av;have ba:=Asd.mk au;clear av au;replace a6:=eq_true a6;replace a7:=eq_true a7;refine start_ (n:=9) (S:=fun w'=>w'.cell? ⟨az,0,none⟩=some (.int .i64 ae)∧w'.cell? ⟨az,1,none⟩=some (.slice aE ag.length aG)∧w'.cell? ⟨az,2,none⟩=some (.slice (some a8) aa.length bg)∧w'.cell? (a8.add (af).toNat)=some (.slice aC (rd_L1 aa af).length aD)) (ds:=[]) Mk2_0 (by kernel_rfl) rfl rfl ⟨(bkC I.out 0).trans rfl,(bkC I.out 1).trans rfl,(bkC I.out 2).trans rfl,((HB.out.cell (World.block_lt_of_cell? w _ ab)).trans ab)⟩ (fun hHeld=>?_);refine with_tabW spec_MindValid.tab4 spec_MindValid.bits4 (fun an bB=>?_);generalize wr.drew=w8 at I HB aw J hHeld⊢;refine pure_ (i:=0) (N:=some 11) (v:=?_) (a':=?_) Mk2_1 rfl rfl (any_of an.out (by kernel_rfl)) (fun _ _ _ h=>h) (Or.inl ⟨by rfl,?_⟩) ?_ ?_;rotate_left
     ·intro w';go_simp;with_reducible rfl
     rotate_left
     ·simp only[Act.put,qA,qB,qC,i64_w,i32_w];rfl
     refine pure_ (i:=2) (N:=some 13) (v:=?_) (a':=?_) Mk2_2 rfl rfl (any_of an.out (by kernel_rfl)) (fun _ _ _ h=>h) (Or.inl ⟨by rfl,?_⟩) ?_ ?_;rotate_left
     ·intro w';go_simp;with_reducible rfl
     rotate_left
     ·simp only[Act.put,qA,qB,qC,i64_w,i32_w];rfl
     refine pure_ (i:=4) (N:=some 15) (v:=?_) (a':=?_) Mk2_3 rfl rfl (any_of an.out (by kernel_rfl)) (fun _ _ _ h=>h) (Or.inl ⟨by rfl,?_⟩) ?_ ?_;rotate_left
     ·intro w';go_simp;with_reducible rfl
     rotate_left
     ·simp only[Act.put,qA,qB,qC,i64_w,i32_w];rfl
     refine take_ (i:=1) (N:=some 12) (v:=?_) (a':=?_) Mk2_4 rfl rfl (take_ofW an.out bB.out (by kernel_rfl)) (fun _ _ _ h=>h) (Or.inl ⟨by rfl,?_⟩) hHeld ?_ ?_;rotate_left
     ·rintro w' ⟨s0,s1,s2,s3⟩;go_simp;with_reducible rfl
     rotate_left
     ·simp only[Act.put,qA,qB,qC,i64_w,i32_w];rfl
     refine take_ (i:=3) (N:=some 14) (v:=?_) (a':=?_) Mk2_5 rfl rfl (take_ofW an.out bB.out (by kernel_rfl)) (fun _ _ _ h=>h) (Or.inl ⟨by rfl,?_⟩) hHeld ?_ ?_;rotate_left
     ·rintro w' ⟨s0,s1,s2,s3⟩;go_simp;with_reducible rfl
     rotate_left
     ·simp only[Act.put,qA,qB,qC,i64_w,i32_w];rfl
     refine pure_ (i:=5) (N:=some 16) (v:=?_) (a':=?_) Mk2_6 rfl rfl (any_of an.out (by kernel_rfl)) (fun _ _ _ h=>h) (Or.inl ⟨by rfl,?_⟩) ?_ ?_;rotate_left
     ·intro w';go_simp;with_reducible rfl
     rotate_left
     ·simp only[Act.put,qA,qB,qC,i64_w,i32_w];rfl
     refine take_ (i:=6) (N:=some 17) (v:=?_) (a':=?_) Mk2_7 rfl rfl (take_ofW an.out bB.out (by kernel_rfl)) (fun _ _ _ h=>h) (Or.inl ⟨by rfl,?_⟩) hHeld ?_ ?_;rotate_left
     ·rintro w' ⟨s0,s1,s2,s3⟩;go_simp;with_reducible rfl
     rotate_left
     ·simp only[Act.put,qA,qB,qC,i64_w,i32_w];rfl
     refine one_ (i:=7) (N:=some 18) Mk2_8 rfl rfl (one_of an.out (by kernel_rfl)) (by decide) (fun K hK=>?_);refine goes_ Try.func99 (by kernel_rfl) rfl #[.int .i64 ae,.slice aC (rd_L1 aa af).length aD] (by rfl) rfl rfl (by(try simp only[List.map_toArray,List.map_cons,List.map_nil]);first|done|rfl|(simp only[List.length_drop,List.length_take];rfl)) ?_;with_reducible refine(spec_l10Tidy.calls k1 ae _ _ (rd_L1 aa af) true _ ?side1 ?side2 A5.out).mono ?_
     (case side1=>exact cZ (Kd.C_below aw.out HB.out));(case side2=>exact ba.out);rintro e w9 ⟨rfl,hb⟩;refine⟨_,rfl,?_⟩;replace I:=bU I hb;replace HB:=bW HB hb;(try clear hb);(try clear b5);(try clear hk);(try clear hi);refine hK.out _ _ ⟨(bkC I.out 0).trans rfl,(bkC I.out 1).trans rfl,(bkC I.out 2).trans rfl,((HB.out.cell (World.block_lt_of_cell? w _ ab)).trans ab)⟩ (fun hHeld=>?_);clear hK K;refine norm_ (a':=?_) ?_ ?_;rotate_left
     ·show Act.put _ (some 18) _=_
      simp only[Act.put,qA,qB,qC,i64_w,i32_w];rfl
     refine pure_ (i:=8) (N:=some 19) (v:=?_) (a':=?_) Mk2_9 rfl rfl (any_of an.out (by kernel_rfl)) (fun _ _ _ h=>h) (Or.inl ⟨by rfl,?_⟩) ?_ ?_;rotate_left
     ·intro w';go_simp;with_reducible rfl
     rotate_left
     ·simp only[Act.put,qA,qB,qC,i64_w,i32_w];rfl
     refine done_ (done_of an.out (by kernel_rfl)) ?_;try go_wp2
     go_roundg k1
     case measure=>have:=al.out;omega
     case rel=>exact⟨(wrap64 (af+1)),(by first|rfl|(simp;done)|(simp[*];done)),H',⟨by have:=al.out;omega⟩,⟨kS I⟩,⟨wZ HB⟩⟩
    ·replace c6:=Bool.eq_false_iff.mpr c6;subst c6;rw[if_neg (show¬(false=true) by decide)]at H;obtain rfl:=Option.some.inj H;obtain⟨dq,dr,dt,du,dv,dw⟩:=b3 I;try go_wp2
     replace I:=Asd.mk (bkD I.out);replace HB:=Asd.mk (bwD HB.out);have a6:0≤(af:Int):=odt;have a7:af<(aa.length:Int):=odt;obtain⟨a8,aC,aD,cC,J,au,av⟩:=at_L1 cB.out af a6 a7;have ab:=J;cases cC;replace J:=(HB.out.cell (World.block_lt_of_cell? w _ J)).trans J;have aw:=Asd.mk av;have ba:=Asd.mk au;clear av au;replace a6:=eq_true a6;replace a7:=eq_true a7;refine start_ (n:=9) (S:=fun w'=>w'.cell? ⟨az,0,none⟩=some (.int .i64 ae)∧w'.cell? ⟨az,1,none⟩=some (.slice aE ag.length aG)∧w'.cell? ⟨az,2,none⟩=some (.slice (some a8) aa.length bg)∧w'.cell? (a8.add (af).toNat)=some (.slice aC (rd_L1 aa af).length aD)) (ds:=[]) Mk2_0 (by kernel_rfl) rfl rfl ⟨(bkC I.out 0).trans rfl,(bkC I.out 1).trans rfl,(bkC I.out 2).trans rfl,((HB.out.cell (World.block_lt_of_cell? w _ ab)).trans ab)⟩ (fun hHeld=>?_);refine with_tabW spec_MindValid.tab4 spec_MindValid.bits4 (fun an bB=>?_);generalize wr.drew=w11 at I HB aw J hHeld⊢;refine pure_ (i:=0) (N:=some 11) (v:=?_) (a':=?_) Mk2_1 rfl rfl (any_of an.out (by kernel_rfl)) (fun _ _ _ h=>h) (Or.inl ⟨by rfl,?_⟩) ?_ ?_;rotate_left
     ·intro w';go_simp;with_reducible rfl
     rotate_left
     ·simp only[Act.put,qA,qB,qC,i64_w,i32_w];rfl
     refine pure_ (i:=2) (N:=some 13) (v:=?_) (a':=?_) Mk2_2 rfl rfl (any_of an.out (by kernel_rfl)) (fun _ _ _ h=>h) (Or.inl ⟨by rfl,?_⟩) ?_ ?_;rotate_left
     ·intro w';go_simp;with_reducible rfl
     rotate_left
     ·simp only[Act.put,qA,qB,qC,i64_w,i32_w];rfl
     refine pure_ (i:=4) (N:=some 15) (v:=?_) (a':=?_) Mk2_3 rfl rfl (any_of an.out (by kernel_rfl)) (fun _ _ _ h=>h) (Or.inl ⟨by rfl,?_⟩) ?_ ?_;rotate_left
     ·intro w';go_simp;with_reducible rfl
     rotate_left
     ·simp only[Act.put,qA,qB,qC,i64_w,i32_w];rfl
     refine take_ (i:=1) (N:=some 12) (v:=?_) (a':=?_) Mk2_4 rfl rfl (take_ofW an.out bB.out (by kernel_rfl)) (fun _ _ _ h=>h) (Or.inl ⟨by rfl,?_⟩) hHeld ?_ ?_;rotate_left
     ·rintro w' ⟨s0,s1,s2,s3⟩;go_simp;with_reducible rfl
     rotate_left
     ·simp only[Act.put,qA,qB,qC,i64_w,i32_w];rfl
     refine take_ (i:=3) (N:=some 14) (v:=?_) (a':=?_) Mk2_5 rfl rfl (take_ofW an.out bB.out (by kernel_rfl)) (fun _ _ _ h=>h) (Or.inl ⟨by rfl,?_⟩) hHeld ?_ ?_;rotate_left
     ·rintro w' ⟨s0,s1,s2,s3⟩;go_simp;with_reducible rfl
     rotate_left
     ·simp only[Act.put,qA,qB,qC,i64_w,i32_w];rfl
     refine pure_ (i:=5) (N:=some 16) (v:=?_) (a':=?_) Mk2_6 rfl rfl (any_of an.out (by kernel_rfl)) (fun _ _ _ h=>h) (Or.inl ⟨by rfl,?_⟩) ?_ ?_;rotate_left
     ·intro w';go_simp;with_reducible rfl
     rotate_left
     ·simp only[Act.put,qA,qB,qC,i64_w,i32_w];rfl
     refine take_ (i:=6) (N:=some 17) (v:=?_) (a':=?_) Mk2_7 rfl rfl (take_ofW an.out bB.out (by kernel_rfl)) (fun _ _ _ h=>h) (Or.inl ⟨by rfl,?_⟩) hHeld ?_ ?_;rotate_left
     ·rintro w' ⟨s0,s1,s2,s3⟩;go_simp;with_reducible rfl
     rotate_left
     ·simp only[Act.put,qA,qB,qC,i64_w,i32_w];rfl
     refine one_ (i:=7) (N:=some 18) Mk2_8 rfl rfl (one_of an.out (by kernel_rfl)) (by decide) (fun K hK=>?_);refine goes_ Try.func99 (by kernel_rfl) rfl #[.int .i64 ae,.slice aC (rd_L1 aa af).length aD] (by rfl) rfl rfl (by(try simp only[List.map_toArray,List.map_cons,List.map_nil]);first|done|rfl|(simp only[List.length_drop,List.length_take];rfl)) ?_;with_reducible refine(spec_l10Tidy.calls k1 ae _ _ (rd_L1 aa af) false _ ?side1 ?side2 A5.out).mono ?_
     (case side1=>exact cZ (Kd.C_below aw.out HB.out));(case side2=>exact ba.out);rintro e w12 ⟨rfl,hb⟩;refine⟨_,rfl,?_⟩;replace I:=bU I hb;replace HB:=bW HB hb;(try clear hb);(try clear b5);(try clear hk);(try clear hi);refine hK.out _ _ ⟨(bkC I.out 0).trans rfl,(bkC I.out 1).trans rfl,(bkC I.out 2).trans rfl,((HB.out.cell (World.block_lt_of_cell? w _ ab)).trans ab)⟩ (fun hHeld=>?_);clear hK K;refine norm_ (a':=?_) ?_ ?_;rotate_left
     ·show Act.put _ (some 18) _=_
      simp only[Act.put,qA,qB,qC,i64_w,i32_w];rfl
     refine pure_ (i:=8) (N:=some 19) (v:=?_) (a':=?_) Mk2_9 rfl rfl (any_of an.out (by kernel_rfl)) (fun _ _ _ h=>h) (Or.inl ⟨by rfl,?_⟩) ?_ ?_;rotate_left
     ·intro w';go_simp;with_reducible rfl
     rotate_left
     ·simp only[Act.put,qA,qB,qC,i64_w,i32_w];rfl
     refine done_ (done_of an.out (by kernel_rfl)) ?_;try go_wp2
     go_ret;exact⟨by first|rfl|(simp[*,errW_none,errW_some]<;>rfl),wZ HB⟩
   ·have bJ:=decide_eq_false c3;clear c3;obtain⟨t126,dx,H⟩:=bE H;try dsimp only at H
    by_cases bk:t126=true
    ·subst bk;rw[if_pos rfl]at H;obtain rfl:=Option.some.inj H;obtain⟨dy,dz,dA,dB,dC,dD⟩:=b3 I;go_wp2_with (first|((with_reducible refine gate_callee (f:=99) rfl ?_);refine gB (some 24) Try.func99 #[.int .i64 ae,.slice aE ag.length aG] rfl ?_;(with_reducible refine(spec_l10Tidy.calls k1 ae _ _ ag true _ ?side1 ?side2 dx.out).mono ?_);(case side1=>exact cZ (Kd.C_below cz.out HB.out));(case side2=>exact cA.out);rintro e w16 ⟨rfl,hb⟩;refine⟨_,rfl,?_⟩;replace I:=bU I hb;replace HB:=bW HB hb;clear hb;obtain⟨dE,dF,dG,dH,dI,dJ⟩:=b3 I));go_ret;exact⟨by first|rfl|(simp[*,errW_none,errW_some]<;>rfl),wZ HB⟩
    ·replace bk:=Bool.eq_false_iff.mpr bk;subst bk;rw[if_neg (show¬(false=true) by decide)]at H;obtain rfl:=Option.some.inj H;obtain⟨dK,dL,dM,dN,dO,dP⟩:=b3 I;go_wp2_with (first|((with_reducible refine gate_callee (f:=99) rfl ?_);refine gB (some 24) Try.func99 #[.int .i64 ae,.slice aE ag.length aG] rfl ?_;(with_reducible refine(spec_l10Tidy.calls k1 ae _ _ ag false _ ?side1 ?side2 dx.out).mono ?_);(case side1=>exact cZ (Kd.C_below cz.out HB.out));(case side2=>exact cA.out);rintro e w19 ⟨rfl,hb⟩;refine⟨_,rfl,?_⟩;replace I:=bU I hb;replace HB:=bW HB hb;clear hb));go_ret;exact⟨by first|rfl|(simp[*,errW_none,errW_some]<;>rfl),wZ HB⟩

/-- A state of type 118 at block g of W; what its slices lead to came in by w0. -/
def Iz (w0 W:World) (g:Nat) (f0:List Int) (f1:Int):Prop:=∃A0 c0,W.heap[g]?=some (.cells #[.slice A0 f0.length c0,.int .i64 f1] 118 (0,0))∧w0.heap.size≤g∧Kd.C (Kd.int .u8) w0 A0 f0.length f0
theorem Iz.grown {w0 W:World} {g:Nat} {f0:List Int} {f1:Int} {W1:World} {row:Option Nat} (h:Iz w0 W g f0 f1) (hw:W.grownBy W1 row) (cD:some g≠row):Iz w0 W1 g f0 f1:=by
 obtain⟨A0,c0,hb,hg,ak⟩:=h;exact⟨A0,c0,blk_grown hb hw cD,hg,ak⟩
theorem Iz.own_neN {w0 W:World} {g:Nat} {f0:List Int} {f1:Int} {α:Type} {d:Kd α} {e:Nat} {base:Nat} {ok:Nat→Prop} {v:Value} {xs:List α} (h:Iz w0 W g f0 f1) (ho:Kd.N d e W base ok v xs) (ht:e≠118):some g≠v.ownBlock:=by
 obtain⟨A0,c0,hb,hg,ak⟩:=h;exact Kd.N_ne ho hb ht
theorem Iz.fresh {w0 W:World} {g:Nat} {f0:List Int} {f1:Int} (h:Iz w0 W g f0 f1):∀k,W.heap.size≤k→k≠g:=by
 obtain⟨A0,c0,hb,hg,ak⟩:=h;exact Kd.freshB hb
theorem Iz.kept {w0 W:World} {g:Nat} {f0:List Int} {f1:Int} {W1:World} {S:Nat→Prop} (h:Iz w0 W g f0 f1) (hk:Kept W W1 S) (cD:¬S g):Iz w0 W1 g f0 f1:=by
 obtain⟨A0,c0,hb,hg,ak⟩:=h;exact⟨A0,c0,blk_kept hb hk cD,hg,ak⟩
theorem Iz.below {w0 W:World} {g:Nat} {f0:List Int} {f1:Int} {W1:World} (h:Iz w0 W g f0 f1) (hw:Below W.heap.size W W1):Iz w0 W1 g f0 f1:=h.grown (grown_of_below hw none) (by simp)
theorem Iz.bX {w0 W:World} {g:Nat} {f0:List Int} {f1:Int} {W1:World} [s:StB W W1] (h:Iz w0 W g f0 f1):Iz w0 W1 g f0 f1:=h.below s.b
theorem Iz.alloc {w0 W:World} {g:Nat} {f0:List Int} {f1:Int} (h:Iz w0 W g f0 f1) (o:Obj):Iz w0 (W.alloc o) g f0 f1:=h.below (bwA (Below.refl _ _) o)
theorem Iz.drewN {w0 W:World} {g:Nat} {f0:List Int} {f1:Int} (h:Iz w0 W g f0 f1) (m:Nat):Iz w0 (W.drewN m) g f0 f1:=h
theorem Iz.drew {w0 W:World} {g:Nat} {f0:List Int} {f1:Int} (h:Iz w0 W g f0 f1):Iz w0 W.drew g f0 f1:=h
theorem Iz.at_ {w0 W:World} {g:Nat} {f0:List Int} {f1:Int} {w':World} {m:Nat} (hq:W.drewN m=w') (h:Iz w0 W g f0 f1):Iz w0 w' g f0 f1:=by subst hq;exact Iz.drewN h m
theorem Iz.apart {w0 W:World} {g:Nat} {f0:List Int} {f1:Int} {α:Type} {d:Kd α} {e:Nat} {base:Nat} {ok:Nat→Prop} {v:Value} {xs:List α} (h:Iz w0 W g f0 f1) (ho:d.R e W base ok v xs) (ht:∀q,q∈e::d.E→q≠118):d.R e W base (fun k=>ok k∧k≠g) v xs:=by
 obtain⟨A0,c0,hb,hg,ak⟩:=h;exact Kd.R_types ho hb ht
theorem Iz.own_ne {w0 W:World} {g:Nat} {f0:List Int} {f1:Int} {α:Type} {d:Kd α} {e:Nat} {base:Nat} {ok:Nat→Prop} {v:Value} {xs:List α} (h:Iz w0 W g f0 f1) (ho:d.R e W base ok v xs) (ht:e≠118):some g≠v.ownBlock:=by
 obtain⟨A0,c0,hb,hg,ak⟩:=h;exact Kd.R_ne ho hb ht
theorem Iz.apartQ {w0 W:World} {g:Nat} {f0:List Int} {f1:Int} {α:Type} {d:Kd α} {e:Nat} {base:Nat} {ok:Nat→Prop} {v:Value} {xs:List α} (h:Iz w0 W g f0 f1) (ho:d.Q e W base ok v xs) (ht:∀q,q∈e::d.E→q≠118):d.Q e W base (fun k=>ok k∧k≠g) v xs:=by
 obtain⟨A0,c0,hb,hg,ak⟩:=h;exact Kd.Q_types ho hb ht
theorem Iz.own_neQ {w0 W:World} {g:Nat} {f0:List Int} {f1:Int} {α:Type} {d:Kd α} {e:Nat} {base:Nat} {ok:Nat→Prop} {v:Value} {xs:List α} (h:Iz w0 W g f0 f1) (ho:d.Q e W base ok v xs) (ht:e≠118):some g≠v.ownBlock:=by
 obtain⟨A0,c0,hb,hg,ak⟩:=h;exact Kd.Q_ne ho hb ht
theorem Iz.apartS {w0 W:World} {g:Nat} {f0:List Int} {f1:Int} {α:Type} {d:Kd α} {e:Nat} {base:Nat} {ok:Nat→Prop} {v:Value} {xs:List α} (h:Iz w0 W g f0 f1) (ho:d.S e W base ok v xs) (ht:∀q,q∈e::d.E→q≠118):d.S e W base (fun k=>ok k∧k≠g) v xs:=by
 obtain⟨A0,c0,hb,hg,ak⟩:=h;exact Kd.S_types ho hb ht
theorem Iz.own_neS {w0 W:World} {g:Nat} {f0:List Int} {f1:Int} {α:Type} {d:Kd α} {e:Nat} {base:Nat} {ok:Nat→Prop} {v:Value} {xs:List α} (h:Iz w0 W g f0 f1) (ho:d.S e W base ok v xs) (ht:e≠118):some g≠v.ownBlock:=by
 obtain⟨A0,c0,hb,hg,ak⟩:=h;exact Kd.S_ne ho hb ht
theorem Iz.lt {w0 W:World} {g:Nat} {f0:List Int} {f1:Int} (h:Iz w0 W g f0 f1):g<W.heap.size:=by
 obtain⟨A0,c0,hb,hg,ak⟩:=h;exact bkL hb
theorem Iz.ge {w0 W:World} {g:Nat} {f0:List Int} {f1:Int} (h:Iz w0 W g f0 f1):w0.heap.size≤g:=by
 obtain⟨A0,c0,hb,hg,ak⟩:=h;exact hg
theorem Iz.ne_blk {w0 W:World} {g:Nat} {f0:List Int} {f1:Int} {a:Nat} {cs:Array Value} {t:TypeId} {fr:Nat×Nat} (h:Iz w0 W g f0 f1) (b5:W.heap[a]?=some (.cells cs t fr)) (ht:t≠118):g≠a:=by
 obtain⟨A0,c0,hb,hg,ak⟩:=h;rintro rfl;rw[hb]at b5;injection b5 with b5
 injection b5 with _ ht2
 exact ht ht2.symm
theorem Iz.far {w0 W:World} {g:Nat} {f0:List Int} {f1:Int} {p:Addr} (h:Iz w0 W g f0 f1) (cD:g≠p.block) (u:Value):Iz w0 (W.setCell p u) g f0 f1:=by
 obtain⟨A0,c0,hb,hg,ak⟩:=h;exact⟨A0,c0,bkR hb cD u,hg,ak⟩
theorem cellS118_0 {W:World} {g:Nat} {A0:Option Addr} {c0:Nat} {f0:List Int} {f1:Int} (h:W.heap[g]?=some (.cells #[.slice A0 f0.length c0,.int .i64 f1] 118 (0,0))):W.cell? ⟨g,0,none⟩=some (.slice A0 f0.length c0):=(bkC h 0).trans rfl
theorem cellS118_1 {W:World} {g:Nat} {A0:Option Addr} {c0:Nat} {f0:List Int} {f1:Int} (h:W.heap[g]?=some (.cells #[.slice A0 f0.length c0,.int .i64 f1] 118 (0,0))):W.cell? ⟨g,1,none⟩=some (.int .i64 f1):=(bkC h 1).trans rfl
theorem Iz.set_1 {w0 W:World} {g:Nat} {f0:List Int} {f1:Int} (h:Iz w0 W g f0 f1) (x:Int):Iz w0 (W.setCell ⟨g,1,none⟩ (.int .i64 x)) g f0 x:=by
 obtain⟨A0,c0,hb,hg,ak⟩:=h;exact⟨A0,c0,by simpa using blk_set hb 1 (.int .i64 x),hg,ak⟩
theorem Iz.new (w0 W:World) (A0:Option Addr) (c0:Nat) (f0:List Int) (f1:Int) (hB:Below w0.heap.size w0 W) (ak:Kd.C (Kd.int .u8) w0 A0 f0.length f0):Iz w0 (W.alloc (.cells #[.slice A0 f0.length c0,.int .i64 f1] 118)) W.heap.size f0 f1:=⟨A0,c0,by simpa using heap_alloc_new W _,hB.size,ak⟩

theorem Iz.z {w0 W W':World} {g:Nat} {f0 dQ:List Int} {f1 dR:Int} (h:Asd (Iz w0 W g f0 f1)) (s:Iz w0 W g f0 f1→Iz w0 W' g dQ dR:=by intro h;repeat(with_reducible first|exact h|apply Iz.bX|apply Iz.set_1|refine Iz.far ?_ aX _)):Iz w0 W' g dQ dR:=s h.out
theorem Iz.y {w0 W W':World} {g:Nat} {f0:List Int} {f1:Int} (h:Asd (Iz w0 W g f0 f1)) (s:Iz w0 W g f0 f1→Iz w0 W' g f0 f1:=by intro h;repeat(with_reducible first|exact h|apply Iz.bX|refine Iz.far ?_ aX _)):Iz w0 W' g f0 f1:=s h.out
/-! ### spec_l20Open: function 78 -/
def spec_l20Open.f (l0:List Int):Option (List Int×Int):=if(l0.length:Int)>2000 then(if 2000≤(l0.length:Int)then(some (l0.take 2000,0))else(none))else(some (l0,0))
set_option maxHeartbeats 8000000 in
set_option maxRecDepth 100000 in
theorem spec_l20Open.calls (A0:Option Addr) (c0:Nat) (l0:List Int) (r1:List Int) (r2:Int) (w0 w:World) (hB:Below w0.heap.size w0 w) (ak:Kd.C (Kd.int .u8) w0 A0 l0.length l0) (dS:l0.length≤c0) (h:spec_l20Open.f l0=some (r1,r2)):
  Calls Try.prog 78 #[.slice A0 l0.length c0] w fun e w'=>∃g_:Nat,e= .returned (.pointer (some ⟨g_,0,none⟩))∧Iz w0 w' g_ r1 r2∧Below w0.heap.size w0 w'∧Below w.heap.size w w':=by
 have ew:=Try.underlying118;have dT:=Asd.mk ak;have ey:=Asd.mk dS;clear ak dS;have bd:=Asd.mk (Below.refl w.heap.size w);have dU:=Asd.mk hB.size;have HB:=Asd.mk hB;clear hB;have H:(if(l0.length:Int)>2000 then(if 2000≤(l0.length:Int)then(some (l0.take 2000,0))else(none))else(some (l0,0)))=some (r1,r2):=h;clear h;rcases iT H with⟨c2,H⟩|⟨c2,H⟩
 ·have bl:=decide_eq_true c2;have b9:decide (2000<l0.length)=true:=decide_eq_true (by omega);clear c2;obtain⟨c3,H⟩:=iN H;have bJ:=eq_true c3;have eL:=decide_eq_true c3;clear c3;obtain⟨rfl,rfl⟩:=s2 H;obtain⟨eM,cH,_,cI,_⟩:=info_parts info5;obtain⟨ez,dV,dW⟩:=print_take_of (P:=Try.prog) (Value.int .u8) 0 43 5 .i64 Try.underlying43 cH cI A0 c0 l0 2000 (by omega) (odt) ey.out;have cW:=Asd.mk (Kd.C_of_reads (h1:=fun _=>rfl) (dV _ (Kd.reads_of_C dT.out)));have eA:=Asd.mk dW;clear dV dW cH cI;go_enter Try.func78,Try.ntmps78;go_wp2_with (first|((with_reducible refine gate_dst (N:=10) rfl ?_);refine bxA 10 #[.slice A0 (l0.take 2000).length c0,.int .i64 0] 118 ?_;intro bD hg w5 aH hb;replace HB:=bW HB hb;have cX:=Asd.mk (aH);have cY:=bG bd hg;have da:=Asd.mk ((Nat.le_trans dU.out (by rw[hg];exact(below_size (wZ bd)):w.heap.size≤bD):w0.heap.size≤bD));replace bd:=Asd.mk (bwP bd.out hb);clear hb aH hg));go_ret;exact⟨_,rfl,(show Iz w0 _ bD (l0.take 2000) 0 from⟨_,_,kS cX,da.out,cW.out⟩),wZ HB,by repeat(with_reducible first|exact bd.out|apply bwX|refine bwS ?_ cY.out)⟩
 ·have bl:=decide_eq_false c2;have b9:decide (2000<l0.length)=false:=decide_eq_false (by omega);clear c2;obtain⟨rfl,rfl⟩:=s2 H;go_enter Try.func78,Try.ntmps78;go_wp2_with (first|((with_reducible refine gate_dst (N:=10) rfl ?_);refine bxA 10 #[.slice A0 l0.length c0,.int .i64 0] 118 ?_;intro bF hg w6 aH hb;replace HB:=bW HB hb;have db:=Asd.mk (aH);have dc:=bG bd hg;have dd:=Asd.mk ((Nat.le_trans dU.out (by rw[hg];exact(below_size (wZ bd)):w.heap.size≤bF):w0.heap.size≤bF));replace bd:=Asd.mk (bwP bd.out hb);clear hb aH hg));go_ret;exact⟨_,rfl,(show Iz w0 _ bF l0 0 from⟨_,_,kS db,dd.out,dT.out⟩),wZ HB,by repeat(with_reducible first|exact bd.out|apply bwX|refine bwS ?_ dc.out)⟩

end Go.Proofs.Ytihgpkohglcijaa.P
