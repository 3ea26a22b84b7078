-- Written by a program of this session (wip/hook.py), which runs the kit's printer; Lean checks it.
import Derived.Test.YtihgpkohglcijaaPx0
namespace Go.Proofs.Ytihgpkohglcijaa.P
open Go.RowKit Go.Proofs.YtihgpkohglcijaaW.PrintWords Go.Proofs.YtihgpkohglcijaaW.PrintLast Go.Proofs.YtihgpkohglcijaaW.PrintMore
attribute [local go_sem] max2_int min2_int max_two min_two max_three min_three max_four min_four   -- for this text's walks alone
set_option linter.unusedVariables false
set_option linter.unusedSimpArgs false

abbrev Mk2_0:Array Bool:= #[false,false,false,false,false,false,false,false,false,false,false,false,false,false,false]
abbrev Mk2_1:Array Bool:= #[true,false,false,false,false,false,false,false,false,false,false,false,false,false,false]
abbrev Mk2_2:Array Bool:= #[true,true,false,false,false,false,false,false,false,false,false,false,false,false,false]
abbrev Mk2_3:Array Bool:= #[true,true,true,false,false,false,false,false,false,false,false,false,false,false,false]
abbrev Mk2_4:Array Bool:= #[true,true,true,true,false,false,false,false,false,false,false,false,false,false,false]
abbrev Mk2_5:Array Bool:= #[true,true,true,true,true,false,false,false,false,false,false,false,false,false,false]
abbrev Mk2_6:Array Bool:= #[true,true,true,true,true,true,false,false,false,false,false,false,false,false,false]
abbrev Mk2_7:Array Bool:= #[true,true,true,true,true,true,true,false,false,false,false,false,false,false,false]
abbrev Mk2_8:Array Bool:= #[true,true,true,true,true,true,true,false,true,false,false,false,false,false,false]
abbrev Mk2_9:Array Bool:= #[true,true,true,true,true,true,true,false,true,true,false,false,false,false,false]
abbrev Mk2_10:Array Bool:= #[true,true,true,true,true,true,true,false,true,true,true,false,false,false,false]
abbrev Mk2_11:Array Bool:= #[true,true,true,true,true,true,true,false,true,true,true,true,false,false,false]
abbrev Mk2_12:Array Bool:= #[true,true,true,true,true,true,true,true,true,true,true,true,false,false,false]
abbrev Mk2_13:Array Bool:= #[true,true,true,true,true,true,true,true,true,true,true,true,true,false,false]
abbrev Mk2_14:Array Bool:= #[true,true,true,true,true,true,true,true,true,true,true,true,true,true,false]
abbrev Mk2_15:Array Bool:= #[true,true,true,true,true,true,true,true,true,true,true,true,true,true,true]
/-! ### impl_areThings: function 111 -/
def impl_areThings.f (a0:Int):Option (Bool):=if a0≥1 then(some (decide (a0≤3)))else(some false)
set_option maxHeartbeats 8000000 in
set_option maxRecDepth 100000 in
theorem impl_areThings.calls (a0:Int) (r:Bool) (w:World) (h:impl_areThings.f a0=some r):
  Calls Try.prog 111 #[.int .i64 a0] w fun e w'=>e= .returned (.bool r)∧Drawn0 w w':=by
 have H:(if a0≥1 then(some (decide (a0≤3)))else(some false))=some r:=h;clear h;by_cases c2:a0≥1
 ·rw[if_pos c2]at H;have aI:decide (1≤a0)=true:=decide_eq_true c2;clear c2;obtain rfl:=Option.some.inj H;go_enter Try.func111,Try.ntmps111;go_wp2;go_ret;exact⟨by first|rfl|(simp;done)|(simp[*];done),by repeat(first|exact Drawn0.refl _|apply Drawn0.step)⟩
 ·rw[if_neg c2]at H;have aI:decide (1≤a0)=false:=decide_eq_false c2;clear c2;obtain rfl:=Option.some.inj H;go_enter Try.func111,Try.ntmps111;go_wp2;go_ret;exact⟨by first|rfl|(simp;done)|(simp[*];done),by repeat(first|exact Drawn0.refl _|apply Drawn0.step)⟩

/-! ### impl_WorldsOf: function 84 -/
def impl_WorldsOf.f (a0:Int):Option (Int):=(impl_areThings.f a0).bind fun t101=>(if t101=true then(if 0≤a0 then(some (shl .i64 1 a0))else(none))else(some (-1)))
set_option maxHeartbeats 8000000 in
set_option maxRecDepth 100000 in
theorem impl_WorldsOf.calls (a0:Int) (r:Int) (w:World) (h:impl_WorldsOf.f a0=some r):
  Calls Try.prog 84 #[.int .i64 a0] w fun e w'=>e= .returned (.int .i64 r)∧Drawn0 w w':=by
 have H:((impl_areThings.f a0).bind fun t101=>(if t101=true then(if 0≤a0 then(some (shl .i64 1 a0))else(none))else(some (-1))))=some r:=h;clear h;replace H:=Option.bind_eq_some_iff.mp H;obtain⟨t101,aY,H⟩:=H;try dsimp only at H
 have A2:=Asd.mk aY;clear aY;by_cases c3:t101=true
 ·subst c3;rw[if_pos rfl]at H;by_cases c4:0≤a0;rotate_left;(rw[if_neg c4]at H;exact absurd H (by simp));rw[if_pos c4]at H;have aC:=eq_true c4;have dz:decide (0≤a0)=true:=decide_eq_true c4;clear c4;obtain⟨aP,aD⟩:∃j_:Int,(shl .i64 1 a0)=j_:=⟨_,rfl⟩;replace H:(some aP)=some r:=by first|(rw[aD]at H;exact H)|(simp only[aD]at H⊢;exact H)
  (try rw[aD]at A2);have aZ:(IntKind.i64.wrap (1*2^min a0.toNat 64))=aP:=aD;have a6:a0≤64→(IntKind.i64.wrap (1*2^a0.toNat))=aP:=shl_small aD;have cY:(IntKind.i64.wrap (2^min a0.toNat 64))=aP:=by have h_:=aZ;rw[Int.one_mul]at h_;exact h_
  have da:a0≤64→(IntKind.i64.wrap (2^a0.toNat))=aP:=fun a7=>by have h_:=a6 a7;rw[Int.one_mul]at h_;exact h_
  have db:(wrap64 (1*2^min a0.toNat 64))=aP:=(i64_w _).symm.trans aZ;have dc:a0≤64→(wrap64 (1*2^a0.toNat))=aP:=fun h_=>(i64_w _).symm.trans (a6 h_)
  obtain rfl:=Option.some.inj H;go_enter Try.func84,Try.ntmps84;go_wp2_with (first|((with_reducible refine gate_callee (f:=111) rfl ?_);refine gsM (some 4) rfl rfl Try.func111 (by kernel_rfl) rfl #[.int .i64 a0] rfl ?_;(with_reducible refine(impl_areThings.calls a0 true _ A2.out).mono ?_);rintro e w' ⟨rfl,⟨nd,rfl⟩⟩;refine⟨_,rfl,?_⟩));go_ret;exact⟨by first|rfl|(simp;done)|(simp only[←aD]<;>(first|rfl|simp))|(simp[*];done),by repeat(first|exact Drawn0.refl _|apply Drawn0.step)⟩
 ·replace c3:=Bool.eq_false_iff.mpr c3;subst c3;rw[if_neg (show¬(false=true) by decide)]at H;obtain rfl:=Option.some.inj H;go_enter Try.func84,Try.ntmps84;go_wp2_with (first|((with_reducible refine gate_callee (f:=111) rfl ?_);refine gsM (some 4) rfl rfl Try.func111 (by kernel_rfl) rfl #[.int .i64 a0] rfl ?_;(with_reducible refine(impl_areThings.calls a0 false _ A2.out).mono ?_);rintro e w' ⟨rfl,⟨nd,rfl⟩⟩;refine⟨_,rfl,?_⟩));go_ret;exact⟨by first|rfl|(simp;done)|(simp[*];done),by repeat(first|exact Drawn0.refl _|apply Drawn0.step)⟩

/-! ### laws_alive: function 38 -/
def laws_alive.f:Option (Bool):=(impl_WorldsOf.f 1).bind fun t102=>(if t102=2 then((impl_WorldsOf.f 9).bind fun t103=>(some (t103==(-1))))else(some false))
set_option maxHeartbeats 8000000 in
set_option maxRecDepth 100000 in
theorem laws_alive.calls  (r:Bool) (w:World) (h:laws_alive.f=some r):
  Calls Try.prog 38 #[] w fun e w'=>e= .returned (.bool r)∧Drawn0 w w':=by
 have H:((impl_WorldsOf.f 1).bind fun t102=>(if t102=2 then((impl_WorldsOf.f 9).bind fun t103=>(some (t103==(-1))))else(some false)))=some r:=h;clear h;replace H:=Option.bind_eq_some_iff.mp H;obtain⟨t102,cC,H⟩:=H;try dsimp only at H
 have A1:=Asd.mk cC;clear cC;by_cases c2:t102=2
 ·rw[if_pos c2]at H;have aI:(t102==2)=true:=beq_iff_eq.mpr c2;have a8:(t102 !=2)=false:=bne_eq_false_iff_eq.mpr c2;clear c2;replace H:=Option.bind_eq_some_iff.mp H;obtain⟨t103,aJ,H⟩:=H;try dsimp only at H
  have A3:=Asd.mk aJ;clear aJ;obtain rfl:=Option.some.inj H;go_enter Try.func38,Try.ntmps38;go_wp2_with (first|((with_reducible refine gate_callee (f:=84) rfl ?_);refine gsM (some 1) rfl rfl Try.func84 (by kernel_rfl) rfl #[.int .i64 1] rfl ?_;(with_reducible refine(impl_WorldsOf.calls 1 t102 _ A1.out).mono ?_);rintro e w' ⟨rfl,⟨nd,rfl⟩⟩;refine⟨_,rfl,?_⟩)|(go_at_call 84;(with_reducible refine(impl_WorldsOf.calls 9 t103 _ A3.out).mono ?_);rintro e w' ⟨rfl,⟨nd,rfl⟩⟩));go_ret;exact⟨by first|rfl|(simp;done)|(simp[*];done),by repeat(first|exact Drawn0.refl _|apply Drawn0.step)⟩
 ·rw[if_neg c2]at H;have aI:(t102==2)=false:=beq_eq_false_iff_ne.mpr c2;have a8:(t102 !=2)=true:=bne_iff_ne.mpr c2;obtain rfl:=Option.some.inj H;go_enter Try.func38,Try.ntmps38;go_wp2_with (first|((with_reducible refine gate_callee (f:=84) rfl ?_);refine gsM (some 1) rfl rfl Try.func84 (by kernel_rfl) rfl #[.int .i64 1] rfl ?_;(with_reducible refine(impl_WorldsOf.calls 1 t102 _ A1.out).mono ?_);rintro e w' ⟨rfl,⟨nd,rfl⟩⟩;refine⟨_,rfl,?_⟩));go_ret;exact⟨by first|rfl|(simp;done)|(simp[*];done),by repeat(first|exact Drawn0.refl _|apply Drawn0.step)⟩

/-! ### slices_Min_int_int: function 123 -/
def slices_Min_int_int.l0:Nat→List Int→Int→Int→Option (Int)
 |0,_,_,_=>none
 |k+1,x0,x3,x4=>if x4<(x0.length:Int)then(if 0≤x4 then(slices_Min_int_int.l0 k x0 (mn x3 (rd x0 x4)) (wrap64 (x4+1)))else(none))else(some x3)
def slices_Min_int_int.f (k:Nat) (l0:List Int):Option (Int):=if(l0.length:Int)<1 then(none)else(if 0<(l0.length:Int)then(slices_Min_int_int.l0 k l0 (rd l0 0) 1)else(none))
theorem slices_Min_int_int.mono_l:∀k,(∀y0 y1 y2,LeO (slices_Min_int_int.l0 k y0 y1 y2) (slices_Min_int_int.l0 (k+1) y0 y1 y2))
 |0=>fun _ _ _ r h=>by simp[slices_Min_int_int.l0]at h
 |k+1=>by
  have ak:=slices_Min_int_int.mono_l k
  ·intro y0 y1 y2;unfold slices_Min_int_int.l0;repeat' first
   |(with_reducible first|exact ak _ _ _|exact LeO.refl _|exact LeO.none _|refine LeO.ite ?_ ?_|refine LeO.bind ?_ (fun _=>?_))
   |refine LeO.ite ?_ ?_
   |refine LeO.bind ?_ (fun _=>?_)
theorem slices_Min_int_int.mono:∀a0 k,LeO (slices_Min_int_int.f k a0) (slices_Min_int_int.f (k+1) a0):=by
 intro a0 k;have ak:=slices_Min_int_int.mono_l k;unfold slices_Min_int_int.f
 repeat' first
   |(with_reducible first|exact ak _ _ _|exact LeO.refl _|exact LeO.none _|refine LeO.ite ?_ ?_|refine LeO.bind ?_ (fun _=>?_))
   |refine LeO.ite ?_ ?_
   |refine LeO.bind ?_ (fun _=>?_)
set_option maxHeartbeats 8000000 in
set_option maxRecDepth 100000 in
theorem slices_Min_int_int.calls (k:Nat) (A0:Option Addr) (c0:Nat) (l0:List Int) (r:Int) (w:World) (ba:Kd.C (Kd.int .i64) w A0 l0.length l0) (bb:l0.length≤c0) (h:slices_Min_int_int.f k l0=some r):
  Calls Try.prog 123 #[.slice A0 l0.length c0] w fun e w'=>e= .returned (.int .i64 r)∧Below w.heap.size w w':=by
 have bc:=Asd.mk ba;have dd:=Asd.mk bb;clear ba bb;have HB:=Asd.mk (Below.refl w.heap.size w);have H:(if(l0.length:Int)<1 then(none)else(if 0<(l0.length:Int)then(slices_Min_int_int.l0 k l0 (rd l0 0) 1)else(none)))=some r:=h;clear h;by_cases c2:(l0.length:Int)<1
 ·rw[if_pos c2]at H;exact absurd H (by simp)
 ·rw[if_neg c2]at H;have aI:decide ((l0.length:Int)<1)=false:=decide_eq_false c2;have a8:decide (l0.length<1)=false:=decide_eq_false (by omega);clear c2;by_cases c3:0<(l0.length:Int);rotate_left;(rw[if_neg c3]at H;exact absurd H (by simp));rw[if_pos c3]at H;have cD:decide (0<(l0.length:Int))=true:=decide_eq_true c3;have cE:decide (0<l0.length)=true:=decide_eq_true (by omega);clear c3;have H':=Asd.mk H;clear H;have bd:0≤(0:Int):=(by omega);have bf:0<(l0.length:Int):=odt;obtain⟨cb,cF,aK⟩:=Kd.at_int bc.out 0 bd bf;cases cF;have de:(0<l0.length)=True:=eq_true (by omega);(try rw[show((0:Int)).toNat=0 from rfl]at aK);(try rw[Addr.add_zero']at aK);replace bd:=eq_true bd;replace bf:=eq_true bf;go_enter Try.func123,Try.ntmps123;go_wp2;go_loopg [3,4] k (fun kq v3 v4 w'=>∃(aj:Int) (aa:Int),v3= .int .i64 aj∧v4= .int .i64 aa∧Asd (slices_Min_int_int.l0 kq l0 aj aa=some r)∧Asd (kq≤k)∧Asd (Below w.heap.size w w'))
  case atStart=>exact⟨(rd l0 0),(1),(by first|rfl|(simp;done)|(simp[*];done)),(by first|rfl|(simp;done)|(simp[*];done)),H',⟨Nat.le_refl _⟩,⟨wZ HB⟩⟩
  case round=>
   clear H';obtain⟨aj,aa,rfl,rfl,HA,an,HB⟩:=hrel;cases gk with
   |zero=>exact absurd HA.out (by simp[slices_Min_int_int.l0])
   |succ k1=>
    have H:=HA.out;clear HA;simp only[slices_Min_int_int.l0]at H;by_cases c4:aa<(l0.length:Int)
    ·rw[if_pos c4]at H;have aC:decide (aa<(l0.length:Int))=true:=decide_eq_true c4;clear c4;by_cases c5:0≤aa;rotate_left;(rw[if_neg c5]at H;exact absurd H (by simp));rw[if_pos c5]at H;have bg:decide (0≤aa)=true:=decide_eq_true c5;clear c5;obtain⟨aQ,al⟩:∃j_:Int,(mn aj (rd l0 aa))=j_:=⟨_,rfl⟩;replace H:(slices_Min_int_int.l0 k1 l0 aQ (wrap64 (aa+1)))=some r:=by first|(rw[al]at H;exact H)|(simp only[al]at H⊢;exact H)
     have cc:(if(rd l0 aa)<aj then(rd l0 aa)else aj)=aQ:=al;have H':=Asd.mk H;clear H;have bh:0≤(aa:Int):=odt;have bj:aa<(l0.length:Int):=odt;obtain⟨cd,cG,ao⟩:=Kd.at_int bc.out aa bh bj;obtain rfl:cb=cd:=(by injection cG);replace ao:=(HB.out.cell (World.block_lt_of_cell? w _ ao)).trans ao;replace bh:=eq_true bh;replace bj:=eq_true bj;go_wp2;go_roundg k1
     case measure=>have:=an.out;omega
     case rel=>exact⟨(aQ),(wrap64 (aa+1)),(by first|rfl|(simp;done)|(simp only[←al]<;>(first|rfl|simp))|(simp[*];done)),(by first|rfl|(simp;done)|(simp[*];done)),H',⟨by have:=an.out;omega⟩,⟨wZ HB⟩⟩
    ·rw[if_neg c4]at H;have aC:decide (aa<(l0.length:Int))=false:=decide_eq_false c4;clear c4;obtain rfl:=Option.some.inj H;go_wp2;go_ret;exact⟨by first|rfl|(simp[*,errW_none,errW_some]<;>rfl),wZ HB⟩

/-! ### slices_Max_int_int: function 124 -/
def slices_Max_int_int.l0:Nat→List Int→Int→Int→Option (Int)
 |0,_,_,_=>none
 |k+1,x0,x3,x4=>if x4<(x0.length:Int)then(if 0≤x4 then(slices_Max_int_int.l0 k x0 (mx x3 (rd x0 x4)) (wrap64 (x4+1)))else(none))else(some x3)
def slices_Max_int_int.f (k:Nat) (l0:List Int):Option (Int):=if(l0.length:Int)<1 then(none)else(if 0<(l0.length:Int)then(slices_Max_int_int.l0 k l0 (rd l0 0) 1)else(none))
theorem slices_Max_int_int.mono_l:∀k,(∀y0 y1 y2,LeO (slices_Max_int_int.l0 k y0 y1 y2) (slices_Max_int_int.l0 (k+1) y0 y1 y2))
 |0=>fun _ _ _ r h=>by simp[slices_Max_int_int.l0]at h
 |k+1=>by
  have ak:=slices_Max_int_int.mono_l k
  ·intro y0 y1 y2;unfold slices_Max_int_int.l0;repeat' first
   |(with_reducible first|exact ak _ _ _|exact LeO.refl _|exact LeO.none _|refine LeO.ite ?_ ?_|refine LeO.bind ?_ (fun _=>?_))
   |refine LeO.ite ?_ ?_
   |refine LeO.bind ?_ (fun _=>?_)
theorem slices_Max_int_int.mono:∀a0 k,LeO (slices_Max_int_int.f k a0) (slices_Max_int_int.f (k+1) a0):=by
 intro a0 k;have ak:=slices_Max_int_int.mono_l k;unfold slices_Max_int_int.f
 repeat' first
   |(with_reducible first|exact ak _ _ _|exact LeO.refl _|exact LeO.none _|refine LeO.ite ?_ ?_|refine LeO.bind ?_ (fun _=>?_))
   |refine LeO.ite ?_ ?_
   |refine LeO.bind ?_ (fun _=>?_)
set_option maxHeartbeats 8000000 in
set_option maxRecDepth 100000 in
theorem slices_Max_int_int.calls (k:Nat) (A0:Option Addr) (c0:Nat) (l0:List Int) (r:Int) (w:World) (ba:Kd.C (Kd.int .i64) w A0 l0.length l0) (bb:l0.length≤c0) (h:slices_Max_int_int.f k l0=some r):
  Calls Try.prog 124 #[.slice A0 l0.length c0] w fun e w'=>e= .returned (.int .i64 r)∧Below w.heap.size w w':=by
 have bc:=Asd.mk ba;have dd:=Asd.mk bb;clear ba bb;have HB:=Asd.mk (Below.refl w.heap.size w);have H:(if(l0.length:Int)<1 then(none)else(if 0<(l0.length:Int)then(slices_Max_int_int.l0 k l0 (rd l0 0) 1)else(none)))=some r:=h;clear h;by_cases c2:(l0.length:Int)<1
 ·rw[if_pos c2]at H;exact absurd H (by simp)
 ·rw[if_neg c2]at H;have aI:decide ((l0.length:Int)<1)=false:=decide_eq_false c2;have a8:decide (l0.length<1)=false:=decide_eq_false (by omega);clear c2;by_cases c3:0<(l0.length:Int);rotate_left;(rw[if_neg c3]at H;exact absurd H (by simp));rw[if_pos c3]at H;have cD:decide (0<(l0.length:Int))=true:=decide_eq_true c3;have cE:decide (0<l0.length)=true:=decide_eq_true (by omega);clear c3;have H':=Asd.mk H;clear H;have bk:0≤(0:Int):=(by omega);have bl:0<(l0.length:Int):=odt;obtain⟨cf,cH,aL⟩:=Kd.at_int bc.out 0 bk bl;cases cH;have df:(0<l0.length)=True:=eq_true (by omega);(try rw[show((0:Int)).toNat=0 from rfl]at aL);(try rw[Addr.add_zero']at aL);replace bk:=eq_true bk;replace bl:=eq_true bl;go_enter Try.func124,Try.ntmps124;go_wp2;go_loopg [3,4] k (fun kq v3 v4 w'=>∃(aj:Int) (aa:Int),v3= .int .i64 aj∧v4= .int .i64 aa∧Asd (slices_Max_int_int.l0 kq l0 aj aa=some r)∧Asd (kq≤k)∧Asd (Below w.heap.size w w'))
  case atStart=>exact⟨(rd l0 0),(1),(by first|rfl|(simp;done)|(simp[*];done)),(by first|rfl|(simp;done)|(simp[*];done)),H',⟨Nat.le_refl _⟩,⟨wZ HB⟩⟩
  case round=>
   clear H';obtain⟨aj,aa,rfl,rfl,HA,an,HB⟩:=hrel;cases gk with
   |zero=>exact absurd HA.out (by simp[slices_Max_int_int.l0])
   |succ k1=>
    have H:=HA.out;clear HA;simp only[slices_Max_int_int.l0]at H;by_cases c4:aa<(l0.length:Int)
    ·rw[if_pos c4]at H;have aC:decide (aa<(l0.length:Int))=true:=decide_eq_true c4;clear c4;by_cases c5:0≤aa;rotate_left;(rw[if_neg c5]at H;exact absurd H (by simp));rw[if_pos c5]at H;have bg:decide (0≤aa)=true:=decide_eq_true c5;clear c5;obtain⟨aQ,al⟩:∃j_:Int,(mx aj (rd l0 aa))=j_:=⟨_,rfl⟩;replace H:(slices_Max_int_int.l0 k1 l0 aQ (wrap64 (aa+1)))=some r:=by first|(rw[al]at H;exact H)|(simp only[al]at H⊢;exact H)
     have cc:(if aj<(rd l0 aa)then(rd l0 aa)else aj)=aQ:=al;have H':=Asd.mk H;clear H;have bn:0≤(aa:Int):=odt;have bo:aa<(l0.length:Int):=odt;obtain⟨cg,cI,aq⟩:=Kd.at_int bc.out aa bn bo;obtain rfl:cf=cg:=(by injection cI);replace aq:=(HB.out.cell (World.block_lt_of_cell? w _ aq)).trans aq;replace bn:=eq_true bn;replace bo:=eq_true bo;go_wp2;go_roundg k1
     case measure=>have:=an.out;omega
     case rel=>exact⟨(aQ),(wrap64 (aa+1)),(by first|rfl|(simp;done)|(simp only[←al]<;>(first|rfl|simp))|(simp[*];done)),(by first|rfl|(simp;done)|(simp[*];done)),H',⟨by have:=an.out;omega⟩,⟨wZ HB⟩⟩
    ·rw[if_neg c4]at H;have aC:decide (aa<(l0.length:Int))=false:=decide_eq_false c4;clear c4;obtain rfl:=Option.some.inj H;go_wp2;go_ret;exact⟨by first|rfl|(simp[*,errW_none,errW_some]<;>rfl),wZ HB⟩

/-! ### impl_isRank: function 90 -/
def impl_isRank.j0:Nat→List Int→Bool→Option (Bool)
 |0,_,_=>none
 |k+1,x1,x14=>if x14=true then(some false)else((slices_Min_int_int.f k x1).bind fun t109=>(if t109=0 then((slices_Max_int_int.f k x1).bind fun t110=>(some (decide (t110≤9))))else(some false)))
def impl_isRank.f (k:Nat) (a0:Int) (l1:List Int):Option (Bool):=(impl_areThings.f a0).bind fun t108=>(if t108=true then(if 0≤a0 then(impl_isRank.j0 k l1 ((l1.length:Int) !=(shl .i64 1 a0)))else(none))else(impl_isRank.j0 k l1 true))
theorem impl_isRank.mono_l:∀k,(∀y0 y1,LeO (impl_isRank.j0 k y0 y1) (impl_isRank.j0 (k+1) y0 y1))
 |0=>fun _ _ r h=>by simp[impl_isRank.j0]at h
 |k+1=>by
  have ak:=impl_isRank.mono_l k
  ·intro y0 y1;unfold impl_isRank.j0;repeat' first
   |(with_reducible first|exact ak _ _|exact slices_Max_int_int.mono _ _|exact slices_Min_int_int.mono _ _|exact LeO.refl _|exact LeO.none _|refine LeO.ite ?_ ?_|refine LeO.bind ?_ (fun _=>?_))
   |refine LeO.ite ?_ ?_
   |refine LeO.bind ?_ (fun _=>?_)
theorem impl_isRank.mono:∀a0 a1 k,LeO (impl_isRank.f k a0 a1) (impl_isRank.f (k+1) a0 a1):=by
 intro a0 a1 k;have ak:=impl_isRank.mono_l k;unfold impl_isRank.f
 repeat' first
   |(with_reducible first|exact ak _ _|exact slices_Max_int_int.mono _ _|exact slices_Min_int_int.mono _ _|exact LeO.refl _|exact LeO.none _|refine LeO.ite ?_ ?_|refine LeO.bind ?_ (fun _=>?_))
   |refine LeO.ite ?_ ?_
   |refine LeO.bind ?_ (fun _=>?_)
set_option maxHeartbeats 8000000 in
set_option maxRecDepth 100000 in
theorem impl_isRank.calls (k:Nat) (a0:Int) (A1:Option Addr) (c1:Nat) (l1:List Int) (r:Bool) (w:World) (cJ:Kd.C (Kd.int .i64) w A1 l1.length l1) (cK:l1.length≤c1) (h:impl_isRank.f k a0 l1=some r):
  Calls Try.prog 90 #[.int .i64 a0,.slice A1 l1.length c1] w fun e w'=>e= .returned (.bool r)∧Below w.heap.size w w':=by
 have ch:=Asd.mk cJ;have cj:=Asd.mk cK;clear cJ cK;have HB:=Asd.mk (Below.refl w.heap.size w);have H:((impl_areThings.f a0).bind fun t108=>(if t108=true then(if 0≤a0 then(impl_isRank.j0 k l1 ((l1.length:Int) !=(shl .i64 1 a0)))else(none))else(impl_isRank.j0 k l1 true)))=some r:=h;clear h;have ck:=Asd.mk H;clear H;go_enter Try.func90,Try.ntmps90;go_upto_region 1 with(fail)
 go_cut [14] (fun dg wc=>∃(kq:Nat) (aG:Bool),dg= .bool aG∧Asd (impl_isRank.j0 kq l1 aG=some r)∧Asd (kq≤k)∧Asd (Below w.heap.size w wc))
 case first=>
  have H:=ck.out;clear ck;replace H:=Option.bind_eq_some_iff.mp H;obtain⟨t108,cL,H⟩:=H;try dsimp only at H
  have A4:=Asd.mk cL;clear cL;by_cases c5:t108=true
  ·subst c5;rw[if_pos rfl]at H;by_cases c6:0≤a0;rotate_left;(rw[if_neg c6]at H;exact absurd H (by simp));rw[if_pos c6]at H;have cM:=eq_true c6;have dA:decide (0≤a0)=true:=decide_eq_true c6;clear c6;obtain⟨aM,aE⟩:∃j_:Int,(shl .i64 1 a0)=j_:=⟨_,rfl⟩;replace H:(impl_isRank.j0 k l1 ((l1.length:Int) !=(aM)))=some r:=by first|(rw[aE]at H;exact H)|(simp only[aE]at H⊢;exact H)
   (try rw[aE]at A4);have bp:(IntKind.i64.wrap (1*2^min a0.toNat 64))=aM:=aE;have bq:a0≤64→(IntKind.i64.wrap (1*2^a0.toNat))=aM:=shl_small aE;have dh:(IntKind.i64.wrap (2^min a0.toNat 64))=aM:=by have h_:=bp;rw[Int.one_mul]at h_;exact h_
   have di:a0≤64→(IntKind.i64.wrap (2^a0.toNat))=aM:=fun a7=>by have h_:=bq a7;rw[Int.one_mul]at h_;exact h_
   have dj:(wrap64 (1*2^min a0.toNat 64))=aM:=(i64_w _).symm.trans bp;have dk:a0≤64→(wrap64 (1*2^a0.toNat))=aM:=fun h_=>(i64_w _).symm.trans (bq h_)
   have H':=Asd.mk H;clear H;go_wp2_with (first|((with_reducible refine gate_callee (f:=111) rfl ?_);refine gsM (some 6) rfl rfl Try.func111 (by kernel_rfl) rfl #[.int .i64 a0] rfl ?_;(with_reducible refine(impl_areThings.calls a0 true _ A4.out).mono ?_);rintro e w' ⟨rfl,⟨nd,rfl⟩⟩;refine⟨_,rfl,?_⟩));go_meet
   case rel=>exact⟨_,(((l1.length:Int) !=(aM))),(by first|rfl|(simp;done)|(simp only[←aE]<;>(first|rfl|simp))|(simp[*];done)),H',⟨by first|omega|exact Nat.le_refl _⟩,⟨wZ HB⟩⟩
  ·replace c5:=Bool.eq_false_iff.mpr c5;subst c5;rw[if_neg (show¬(false=true) by decide)]at H;have H':=Asd.mk H;clear H;go_wp2_with (first|((with_reducible refine gate_callee (f:=111) rfl ?_);refine gsM (some 6) rfl rfl Try.func111 (by kernel_rfl) rfl #[.int .i64 a0] rfl ?_;(with_reducible refine(impl_areThings.calls a0 false _ A4.out).mono ?_);rintro e w' ⟨rfl,⟨nd,rfl⟩⟩;refine⟨_,rfl,?_⟩));go_meet
   case rel=>exact⟨_,(true),(by first|rfl|(simp;done)|(simp[*];done)),H',⟨by first|omega|exact Nat.le_refl _⟩,⟨wZ HB⟩⟩
 case rest=>
  clear ck;obtain⟨kq,aG,rfl,HA,dJ,HB⟩:=hcut;cases kq with
  |zero=>exact absurd HA.out (by simp[impl_isRank.j0])
  |succ kj2=>
   have H:=HA.out;clear HA;simp only[impl_isRank.j0]at H;by_cases c8:aG=true
   ·subst c8;rw[if_pos rfl]at H;obtain rfl:=Option.some.inj H;go_wp2;go_ret;exact⟨by first|rfl|(simp[*,errW_none,errW_some]<;>rfl),wZ HB⟩
   ·replace c8:=Bool.eq_false_iff.mpr c8;subst c8;rw[if_neg (show¬(false=true) by decide)]at H;replace H:=Option.bind_eq_some_iff.mp H;obtain⟨t109,cN,H⟩:=H;try dsimp only at H
    have A9:=Asd.mk cN;clear cN;by_cases c10:t109=0
    ·rw[if_pos c10]at H;have br:(t109==0)=true:=beq_iff_eq.mpr c10;have cl:(t109 !=0)=false:=bne_eq_false_iff_eq.mpr c10;clear c10;replace H:=Option.bind_eq_some_iff.mp H;obtain⟨t110,aN,H⟩:=H;try dsimp only at H
     have bI:=Asd.mk aN;clear aN;obtain rfl:=Option.some.inj H;go_wp2_with (first|((with_reducible refine gate_callee (f:=123) rfl ?_);refine gsM (some 16) rfl rfl Try.func123 (by kernel_rfl) rfl #[.slice A1 l1.length c1] rfl ?_;(with_reducible refine(slices_Min_int_int.calls kj2 _ _ l1 t109 _ ?side1 ?side2 A9.out).mono ?_);(case side1=>exact cZ (Kd.C_below ch.out HB.out));(case side2=>exact cj.out);rintro e w12 ⟨rfl,hb⟩;refine⟨_,rfl,?_⟩;replace HB:=bW HB hb;(try clear hb);(try clear hb2);(try clear hk);(try clear hi))|(go_at_call 124;(with_reducible refine(slices_Max_int_int.calls kj2 _ _ l1 t110 _ ?side1 ?side2 bI.out).mono ?_);(case side1=>exact cZ (Kd.C_below ch.out HB.out));(case side2=>exact cj.out);rintro e w13 ⟨rfl,hb⟩;replace HB:=bW HB hb;(try clear hb);(try clear hb2);(try clear hk);(try clear hi)));go_ret;exact⟨by first|rfl|(simp[*,errW_none,errW_some]<;>rfl),wZ HB⟩
    ·rw[if_neg c10]at H;have br:(t109==0)=false:=beq_eq_false_iff_ne.mpr c10;have cl:(t109 !=0)=true:=bne_iff_ne.mpr c10;obtain rfl:=Option.some.inj H;go_wp2_with (first|((with_reducible refine gate_callee (f:=123) rfl ?_);refine gsM (some 16) rfl rfl Try.func123 (by kernel_rfl) rfl #[.slice A1 l1.length c1] rfl ?_;(with_reducible refine(slices_Min_int_int.calls kj2 _ _ l1 t109 _ ?side1 ?side2 A9.out).mono ?_);(case side1=>exact cZ (Kd.C_below ch.out HB.out));(case side2=>exact cj.out);rintro e w14 ⟨rfl,hb⟩;refine⟨_,rfl,?_⟩;replace HB:=bW HB hb;(try clear hb);(try clear hb2);(try clear hk);(try clear hi)));go_ret;exact⟨by first|rfl|(simp[*,errW_none,errW_some]<;>rfl),wZ HB⟩

/-! ### cmp_isNaN_int: function 175 -/
def cmp_isNaN_int.f (a0:Int):Option (Bool):=some (a0 !=a0)
set_option maxHeartbeats 8000000 in
set_option maxRecDepth 100000 in
theorem cmp_isNaN_int.calls (a0:Int) (r:Bool) (w:World) (h:cmp_isNaN_int.f a0=some r):
  Calls Try.prog 175 #[.int .i64 a0] w fun e w'=>e= .returned (.bool r)∧Drawn0 w w':=by
 have H:(some (a0 !=a0))=some r:=h;clear h;obtain rfl:=Option.some.inj H;go_enter Try.func175,Try.ntmps175;go_wp2;go_ret;exact⟨by first|rfl|(simp;done)|(simp[*];done),by repeat(first|exact Drawn0.refl _|apply Drawn0.step)⟩

/-! ### cmp_Less_int: function 161 -/
def cmp_Less_int.f (a0:Int) (a1:Int):Option (Bool):=(cmp_isNaN_int.f a0).bind fun t111=>(if t111=true then((cmp_isNaN_int.f a1).bind fun t112=>(if t112=true then(some (decide (a0<a1)))else(some true)))else(some (decide (a0<a1))))
set_option maxHeartbeats 8000000 in
set_option maxRecDepth 100000 in
theorem cmp_Less_int.calls (a0:Int) (a1:Int) (r:Bool) (w:World) (h:cmp_Less_int.f a0 a1=some r):
  Calls Try.prog 161 #[.int .i64 a0,.int .i64 a1] w fun e w'=>e= .returned (.bool r)∧Drawn0 w w':=by
 have H:((cmp_isNaN_int.f a0).bind fun t111=>(if t111=true then((cmp_isNaN_int.f a1).bind fun t112=>(if t112=true then(some (decide (a0<a1)))else(some true)))else(some (decide (a0<a1)))))=some r:=h;clear h;replace H:=Option.bind_eq_some_iff.mp H;obtain⟨t111,aJ,H⟩:=H;try dsimp only at H
 have A3:=Asd.mk aJ;clear aJ;by_cases c4:t111=true
 ·subst c4;rw[if_pos rfl]at H;replace H:=Option.bind_eq_some_iff.mp H;obtain⟨t112,cO,H⟩:=H;try dsimp only at H
  have A5:=Asd.mk cO;clear cO;by_cases c6:t112=true
  ·subst c6;rw[if_pos rfl]at H;obtain rfl:=Option.some.inj H;go_enter Try.func161,Try.ntmps161;go_wp2_with (first|((with_reducible refine gate_callee (f:=175) rfl ?_);refine gsM (some 6) rfl rfl Try.func175 (by kernel_rfl) rfl #[.int .i64 a0] rfl ?_;(with_reducible refine(cmp_isNaN_int.calls a0 true _ A3.out).mono ?_);rintro e w' ⟨rfl,⟨nd,rfl⟩⟩;refine⟨_,rfl,?_⟩)|(go_at_call 175;(with_reducible refine(cmp_isNaN_int.calls a1 true _ A5.out).mono ?_);rintro e w' ⟨rfl,⟨nd,rfl⟩⟩));go_ret;exact⟨by first|rfl|(simp;done)|(simp[*];done),by repeat(first|exact Drawn0.refl _|apply Drawn0.step)⟩
  ·replace c6:=Bool.eq_false_iff.mpr c6;subst c6;rw[if_neg (show¬(false=true) by decide)]at H;obtain rfl:=Option.some.inj H;go_enter Try.func161,Try.ntmps161;go_wp2_with (first|((with_reducible refine gate_callee (f:=175) rfl ?_);refine gsM (some 6) rfl rfl Try.func175 (by kernel_rfl) rfl #[.int .i64 a0] rfl ?_;(with_reducible refine(cmp_isNaN_int.calls a0 true _ A3.out).mono ?_);rintro e w' ⟨rfl,⟨nd,rfl⟩⟩;refine⟨_,rfl,?_⟩)|(go_at_call 175;(with_reducible refine(cmp_isNaN_int.calls a1 false _ A5.out).mono ?_);rintro e w' ⟨rfl,⟨nd,rfl⟩⟩));go_ret;exact⟨by first|rfl|(simp;done)|(simp[*];done),by repeat(first|exact Drawn0.refl _|apply Drawn0.step)⟩
 ·replace c4:=Bool.eq_false_iff.mpr c4;subst c4;rw[if_neg (show¬(false=true) by decide)]at H;obtain rfl:=Option.some.inj H;go_enter Try.func161,Try.ntmps161;go_wp2_with (first|((with_reducible refine gate_callee (f:=175) rfl ?_);refine gsM (some 6) rfl rfl Try.func175 (by kernel_rfl) rfl #[.int .i64 a0] rfl ?_;(with_reducible refine(cmp_isNaN_int.calls a0 false _ A3.out).mono ?_);rintro e w' ⟨rfl,⟨nd,rfl⟩⟩;refine⟨_,rfl,?_⟩));go_ret;exact⟨by first|rfl|(simp;done)|(simp[*];done),by repeat(first|exact Drawn0.refl _|apply Drawn0.step)⟩

/-! ### slices_insertionSortOrdered_int: function 155 -/
mutual
def slices_insertionSortOrdered_int.l0:Nat→List Int→Int→Int→Int→Option (List Int)
 |0,_,_,_,_=>none
 |k+1,x0,x1,x2,x6=>if x6<x2 then(slices_insertionSortOrdered_int.l1 k x0 x1 x2 x6 x6)else(some x0)
def slices_insertionSortOrdered_int.l1:Nat→List Int→Int→Int→Int→Int→Option (List Int)
 |0,_,_,_,_,_=>none
 |k+1,x0,x1,x2,x6,x7=>if x7>x1 then(if 0≤x7 then(if x7<(x0.length:Int)then(if 0≤(wrap64 (x7 - 1))then(if(wrap64 (x7 - 1))<(x0.length:Int)then((cmp_Less_int.f (rd x0 x7) (rd x0 (wrap64 (x7 - 1)))).bind fun t115=>(if t115=true then(slices_insertionSortOrdered_int.l1 k ((x0.set (x7:Int).toNat (rd x0 (wrap64 (x7 - 1)))).set ((wrap64 (x7 - 1)):Int).toNat (rd x0 x7)) x1 x2 x6 (wrap64 (x7 - 1)))else(slices_insertionSortOrdered_int.l0 k x0 x1 x2 (wrap64 (x6+1)))))else(none))else(none))else(none))else(none))else(slices_insertionSortOrdered_int.l0 k x0 x1 x2 (wrap64 (x6+1)))
end
def slices_insertionSortOrdered_int.f (k:Nat) (l0:List Int) (a1:Int) (a2:Int):Option (List Int):=slices_insertionSortOrdered_int.l0 k l0 a1 a2 (wrap64 (a1+1))
theorem slices_insertionSortOrdered_int.mono_l:∀k,(∀y0 y1 y2 y3,LeO (slices_insertionSortOrdered_int.l0 k y0 y1 y2 y3) (slices_insertionSortOrdered_int.l0 (k+1) y0 y1 y2 y3))∧(∀y0 y1 y2 y3 y4,LeO (slices_insertionSortOrdered_int.l1 k y0 y1 y2 y3 y4) (slices_insertionSortOrdered_int.l1 (k+1) y0 y1 y2 y3 y4))
 |0=>⟨fun _ _ _ _ r h=>by simp[slices_insertionSortOrdered_int.l0]at h,fun _ _ _ _ _ r h=>by simp[slices_insertionSortOrdered_int.l1]at h⟩
 |k+1=>by
  obtain⟨ak,bJ⟩:=slices_insertionSortOrdered_int.mono_l k;refine⟨?_,?_⟩
  ·intro y0 y1 y2 y3;unfold slices_insertionSortOrdered_int.l0;repeat' first
   |(with_reducible first|exact ak _ _ _ _|exact bJ _ _ _ _ _|exact LeO.refl _|exact LeO.none _|refine LeO.ite ?_ ?_|refine LeO.bind ?_ (fun _=>?_))
   |refine LeO.ite ?_ ?_
   |refine LeO.bind ?_ (fun _=>?_)
  ·intro y0 y1 y2 y3 y4;unfold slices_insertionSortOrdered_int.l1;repeat' first
   |(with_reducible first|exact ak _ _ _ _|exact bJ _ _ _ _ _|exact LeO.refl _|exact LeO.none _|refine LeO.ite ?_ ?_|refine LeO.bind ?_ (fun _=>?_))
   |refine LeO.ite ?_ ?_
   |refine LeO.bind ?_ (fun _=>?_)
theorem slices_insertionSortOrdered_int.mono:∀a0 a1 a2 k,LeO (slices_insertionSortOrdered_int.f k a0 a1 a2) (slices_insertionSortOrdered_int.f (k+1) a0 a1 a2):=by
 intro a0 a1 a2 k;obtain⟨ak,bJ⟩:=slices_insertionSortOrdered_int.mono_l k;unfold slices_insertionSortOrdered_int.f
 repeat' first
   |(with_reducible first|exact ak _ _ _ _|exact bJ _ _ _ _ _|exact LeO.refl _|exact LeO.none _|refine LeO.ite ?_ ?_|refine LeO.bind ?_ (fun _=>?_))
   |refine LeO.ite ?_ ?_
   |refine LeO.bind ?_ (fun _=>?_)
def slices_insertionSortOrdered_int.T4:Bool×List (List Nat×List Nat):=(true,[([],[]),([],[]),([0,1],[0,1]),([2],[2]),([3],[3]),([3],[3]),([4,5,3],[3,4,5]),([6,3],[3,6]),([3],[3]),([3],[3]),([9,3],[3,9]),([8,10,3],[3,8,10]),([11,3],[3,11]),([7,12,3,3],[3,7,12]),([3,13],[3,13])])
def slices_insertionSortOrdered_int.B4:List Nat:=[0,0,3,7,15,15,63,127,15,15,527,1807,3855,8191,16383]
theorem slices_insertionSortOrdered_int.tab4:rtab .any (opsOf Try.f155 4)=slices_insertionSortOrdered_int.T4:=by kernel_rfl
theorem slices_insertionSortOrdered_int.bits4:waitsOk slices_insertionSortOrdered_int.T4.2 slices_insertionSortOrdered_int.B4=true:=by kernel_rfl
def slices_insertionSortOrdered_int.T6:Bool×List (List Nat×List Nat):=(true,[([],[]),([],[]),([],[]),([],[]),([3],[3]),([],[]),([],[]),([6],[6]),([5,7],[5,7]),([8],[8]),([],[]),([],[]),([10,11],[10,11]),([12],[12]),([0,1,0,1,5,6,7,8,9,13],[0,1]),([14,9,0,1,5,6,7,8,9,13],[9,14]),([2,4,0,1,2,3,4,5,6,7,8,9,10,11,12,13,14,15],[2,4]),([16,13,15,0,1,2,3,4,5,6,7,8,9,10,11,12,13,14,15],[13,16])])
def slices_insertionSortOrdered_int.B6:List Nat:=[0,0,0,0,8,0,0,64,224,480,0,0,3072,7168,16355,32739,65535,131071]
theorem slices_insertionSortOrdered_int.tab6:rtab .any (opsOf Try.f155 6)=slices_insertionSortOrdered_int.T6:=by kernel_rfl
theorem slices_insertionSortOrdered_int.bits6:waitsOk slices_insertionSortOrdered_int.T6.2 slices_insertionSortOrdered_int.B6=true:=by kernel_rfl
set_option maxHeartbeats 8000000 in
set_option maxRecDepth 100000 in
theorem slices_insertionSortOrdered_int.calls (k:Nat) (ae:Nat→Prop) (ab:Value) (l0:List Int) (a1:Int) (a2:Int) (r:List Int) (w0 w:World) (hB:Below w0.heap.size w0 w) (aB:Kd.R (Kd.int .i64) 3 w w0.heap.size ae ab l0) (h:slices_insertionSortOrdered_int.f k l0 a1 a2=some r):
  Calls Try.prog 155 #[ab,.int .i64 a1,.int .i64 a2] w fun e w'=>e= .returned (.tuple #[])∧Kd.R (Kd.int .i64) 3 w' w0.heap.size (fun k_=>(ae k_∨w.heap.size≤k_)) ab r∧Below w0.heap.size w0 w'∧Kept w w' (fun k_=>ae k_):=by
 have aO:=Asd.mk (show Kd.R (Kd.int .i64) 3 w w0.heap.size (fun k_=>(ae k_∨w.heap.size≤k_)) ab l0 from Kd.R_mono aB (fun k_ hk=>(.inl hk)));have HK:=Asd.mk (Kept.refl w (fun k_=>ae k_));have dm:=Asd.mk hB.size;have HB:=Asd.mk hB;clear hB;have H:(slices_insertionSortOrdered_int.l0 k l0 a1 a2 (wrap64 (a1+1)))=some r:=h;clear h;have H':=Asd.mk H;clear H;go_enter Try.func155,Try.ntmps155;go_wp2;go_loopg [6] k (fun kq v6 w'=>∃(aT:List Int) (ah:Int),v6= .int .i64 ah∧Asd (slices_insertionSortOrdered_int.l0 kq aT a1 a2 ah=some r)∧Asd (kq≤k)∧Asd (Kd.R (Kd.int .i64) 3 w' w0.heap.size (fun k_=>(ae k_∨w.heap.size≤k_)) ab aT)∧Asd (Kept w w' (fun k_=>ae k_))∧Asd (Below w0.heap.size w0 w'))
 case atStart=>exact⟨(l0),(wrap64 (a1+1)),(by first|rfl|(simp;done)|(simp[*];done)),H',⟨Nat.le_refl _⟩,⟨by(repeat apply Kd.RS);exact aO.out⟩,⟨by repeat(with_reducible first|exact HK.out|apply Kept.alloc|apply Kept.drewN|apply Kept.drew)⟩,⟨wZ HB⟩⟩
 case round=>
  clear H';obtain⟨aT,ah,rfl,HA,an,HO_0,HK,HB⟩:=hrel;cases gk with
  |zero=>exact absurd HA.out (by simp[slices_insertionSortOrdered_int.l0])
  |succ k1=>
   have H:=HA.out;clear HA;simp only[slices_insertionSortOrdered_int.l0]at H;by_cases c4:ah<a2
   ·rw[if_pos c4]at H;have aC:decide (ah<a2)=true:=decide_eq_true c4;clear c4;have H':=Asd.mk H;clear H;go_wp2;go_loopg [7] k1 (fun kq v7 w'=>∃(I:List Int) (J:Int),v7= .int .i64 J∧Asd (slices_insertionSortOrdered_int.l1 kq I a1 a2 ah J=some r)∧Asd (kq≤k1)∧Asd (Kd.R (Kd.int .i64) 3 w' w0.heap.size (fun k_=>(ae k_∨w.heap.size≤k_)) ab I)∧Asd (Kept w w' (fun k_=>ae k_))∧Asd (Below w0.heap.size w0 w'))
    case atStart=>exact⟨(aT),(ah),(by first|rfl|(simp;done)|(simp[*];done)),H',⟨Nat.le_refl _⟩,⟨by(repeat apply Kd.RS);exact HO_0.out⟩,⟨by repeat(with_reducible first|exact HK.out|apply Kept.alloc|apply Kept.drewN|apply Kept.drew)⟩,⟨wZ HB⟩⟩
    case round=>
     clear H';obtain⟨I,J,rfl,HA,aW,HO_0,HK,HB⟩:=hrel;cases gk with
     |zero=>exact absurd HA.out (by simp[slices_insertionSortOrdered_int.l1])
     |succ k2=>
      have H:=HA.out;clear HA;simp only[slices_insertionSortOrdered_int.l1]at H;by_cases c5:J>a1
      ·rw[if_pos c5]at H;have bg:decide (a1<J)=true:=decide_eq_true c5;clear c5;by_cases c6:0≤J;rotate_left;(rw[if_neg c6]at H;exact absurd H (by simp));rw[if_pos c6]at H;have cM:decide (0≤J)=true:=decide_eq_true c6;clear c6;by_cases c7:J<(I.length:Int);rotate_left;(rw[if_neg c7]at H;exact absurd H (by simp));rw[if_pos c7]at H;have dB:decide (J<(I.length:Int))=true:=decide_eq_true c7;clear c7;obtain⟨ad,aF⟩:∃j_:Int,(wrap64 (J - 1))=j_:=⟨_,rfl⟩;replace H:(if 0≤(ad)then(if(ad)<(I.length:Int)then((cmp_Less_int.f (rd I J) (rd I (ad))).bind fun t115=>(if t115=true then(slices_insertionSortOrdered_int.l1 k2 ((I.set (J:Int).toNat (rd I (ad))).set ((ad):Int).toNat (rd I J)) a1 a2 ah ad)else(slices_insertionSortOrdered_int.l0 k2 I a1 a2 (wrap64 (ah+1)))))else(none))else(none))=some r:=by first|(rw[aF]at H;exact H)|(simp only[aF]at H⊢;exact H)
       have dn:(IntKind.i64.wrap (J - 1))=ad:=(i64_w _).trans aF;by_cases c9:0≤(ad);rotate_left;(rw[if_neg c9]at H;exact absurd H (by simp));rw[if_pos c9]at H;have dC:decide (0≤(ad))=true:=decide_eq_true c9;clear c9;by_cases c10:(ad)<(I.length:Int);rotate_left;(rw[if_neg c10]at H;exact absurd H (by simp));rw[if_pos c10]at H;have br:decide ((ad)<(I.length:Int))=true:=decide_eq_true c10;clear c10;replace H:=Option.bind_eq_some_iff.mp H;obtain⟨t115,aN,H⟩:=H;try dsimp only at H
       have bI:=Asd.mk aN;clear aN;by_cases bO:t115=true
       ·subst bO;rw[if_pos rfl]at H;obtain⟨b0,ar⟩:∃y_:List Int,y_=(I.set (J:Int).toNat (rd I (ad))):=⟨_,rfl⟩;replace H:(slices_insertionSortOrdered_int.l1 k2 (b0.set ((ad):Int).toNat (rd I J)) a1 a2 ah ad)=some r:=by first|(rw[ar];with_reducible exact H)|(have aR:=(Option.bind_some _ _).symm.trans H;rw[ar];with_reducible exact aR)|(have aR:=(Option.bind_some _ _).symm.trans H;with_reducible exact aR)|with_reducible exact H|(rw[ar];exact H)|exact H
        have cm:=Asd.mk ar;clear ar;obtain⟨b1,au⟩:∃y_:List Int,y_=(b0.set ((ad):Int).toNat (rd I J)):=⟨_,rfl⟩;replace H:(slices_insertionSortOrdered_int.l1 k2 b1 a1 a2 ah ad)=some r:=by first|(rw[au];with_reducible exact H)|(have aR:=(Option.bind_some _ _).symm.trans H;rw[au];with_reducible exact aR)|(have aR:=(Option.bind_some _ _).symm.trans H;with_reducible exact aR)|with_reducible exact H|(rw[au];exact H)|exact H
        have cn:=Asd.mk au;clear au;have H':=Asd.mk H;clear H;try go_wp2
        replace HO_0:=Asd.mk (Kd.R_drew HO_0.out);replace HK:=Asd.mk (Kept.drew HK.out);replace HB:=Asd.mk (bwD HB.out);obtain⟨dD,cP,b4⟩:=Kd.R_slice HO_0.out;(first|subst b4|(injection b4 with f1_ f2_ f3_;have cp:=f1_.symm;have cq:=f3_.symm;clear f1_ f2_ f3_;subst cp;subst cq));have av:0≤(J:Int):=odt;have aw:J<(I.length:Int):=odt;obtain⟨ai,bs,af⟩:=Kd.at_int (Kd.R_reads' HO_0.out).2.2 J av aw;cases bs;replace av:=eq_true av;replace aw:=eq_true aw;have ax:0≤((ad):Int):=odt;have ay:(ad)<(I.length:Int):=odt;obtain⟨aS,bu,ag⟩:=Kd.at_int (Kd.R_reads' HO_0.out).2.2 (ad) ax ay;obtain rfl:ai=aS:=(by injection bu);replace ax:=eq_true ax;replace ay:=eq_true ay;refine start_ (n:=15) (S:=fun w'=>w'.cell? (ai.add (J).toNat)=some (.int .i64 (rd I J))∧w'.cell? (ai.add ((ad)).toNat)=some (.int .i64 (rd I (ad)))) (ds:=[]) Mk2_0 (by kernel_rfl) rfl rfl ⟨af,ag⟩ (fun hHeld=>?_);refine with_tabW slices_insertionSortOrdered_int.tab4 slices_insertionSortOrdered_int.bits4 (fun o aH=>?_);generalize wr.drew=w15 at HO_0 HK HB af ag hHeld⊢;refine pure_ (i:=0) (N:=some 16) (v:=?_) (a':=?_) Mk2_1 rfl rfl (any_of o.out (by kernel_rfl)) (fun _ _ _ h=>h) (Or.inl ⟨by rfl,?_⟩) ?_ ?_;rotate_left
        ·intro w';go_simp;with_reducible rfl
        rotate_left
        ·simp only[Act.put,qA,qB,qC,i64_w,i32_w];rfl
        refine pure_ (i:=1) (N:=some 17) (v:=?_) (a':=?_) Mk2_2 rfl rfl (any_of o.out (by kernel_rfl)) (fun _ _ _ h=>h) (Or.inl ⟨by rfl,?_⟩) ?_ ?_;rotate_left
        ·intro w';go_simp;with_reducible rfl
        rotate_left
        ·simp only[Act.put,qA,qB,qC,i64_w,i32_w];rfl
        refine pure_ (i:=2) (N:=some 18) (v:=?_) (a':=?_) Mk2_3 rfl rfl (any_of o.out (by kernel_rfl)) (fun _ _ _ h=>h) (Or.inl ⟨by rfl,?_⟩) ?_ ?_;rotate_left
        ·intro w';go_simp;with_reducible rfl
        rotate_left
        ·simp only[Act.put,qA,qB,qC,i64_w,i32_w];rfl
        refine pure_ (i:=3) (N:=some 19) (v:=?_) (a':=?_) Mk2_4 rfl rfl (any_of o.out (by kernel_rfl)) (fun _ _ _ h=>h) (Or.inl ⟨by rfl,?_⟩) ?_ ?_;rotate_left
        ·intro w';go_simp;with_reducible rfl
        rotate_left
        ·simp only[Act.put,qA,qB,qC,i64_w,i32_w];rfl
        refine pure_ (i:=4) (N:=some 20) (v:=?_) (a':=?_) Mk2_5 rfl rfl (any_of o.out (by kernel_rfl)) (fun _ _ _ h=>h) (Or.inl ⟨by rfl,?_⟩) ?_ ?_;rotate_left
        ·intro w';go_simp;with_reducible rfl
        rotate_left
        ·simp only[Act.put,qA,qB,qC,i64_w,i32_w];rfl
        refine pure_ (i:=5) (N:=some 21) (v:=?_) (a':=?_) Mk2_6 rfl rfl (any_of o.out (by kernel_rfl)) (fun _ _ _ h=>h) (Or.inl ⟨by rfl,?_⟩) ?_ ?_;rotate_left
        ·intro w';go_simp;with_reducible rfl
        rotate_left
        ·simp only[Act.put,qA,qB,qC,i64_w,i32_w];rfl
        refine pure_ (i:=6) (N:=some 22) (v:=?_) (a':=?_) Mk2_7 rfl rfl (any_of o.out (by kernel_rfl)) (fun _ _ _ h=>h) (Or.inl ⟨by rfl,?_⟩) ?_ ?_;rotate_left
        ·intro w';go_simp;with_reducible rfl
        rotate_left
        ·simp only[Act.put,qA,qB,qC,i64_w,i32_w];rfl
        refine pure_ (i:=8) (N:=some 24) (v:=?_) (a':=?_) Mk2_8 rfl rfl (any_of o.out (by kernel_rfl)) (fun _ _ _ h=>h) (Or.inl ⟨by rfl,?_⟩) ?_ ?_;rotate_left
        ·intro w';go_simp;with_reducible rfl
        rotate_left
        ·simp only[Act.put,qA,qB,qC,i64_w,i32_w];rfl
        refine pure_ (i:=9) (N:=some 25) (v:=?_) (a':=?_) Mk2_9 rfl rfl (any_of o.out (by kernel_rfl)) (fun _ _ _ h=>h) (Or.inl ⟨by rfl,?_⟩) ?_ ?_;rotate_left
        ·intro w';go_simp;with_reducible rfl
        rotate_left
        ·simp only[Act.put,qA,qB,qC,i64_w,i32_w];rfl
        refine pure_ (i:=10) (N:=some 26) (v:=?_) (a':=?_) Mk2_10 rfl rfl (any_of o.out (by kernel_rfl)) (fun _ _ _ h=>h) (Or.inl ⟨by rfl,?_⟩) ?_ ?_;rotate_left
        ·intro w';go_simp;with_reducible rfl
        rotate_left
        ·simp only[Act.put,qA,qB,qC,i64_w,i32_w];rfl
        refine pure_ (i:=11) (N:=some 27) (v:=?_) (a':=?_) Mk2_11 rfl rfl (any_of o.out (by kernel_rfl)) (fun _ _ _ h=>h) (Or.inl ⟨by rfl,?_⟩) ?_ ?_;rotate_left
        ·intro w';go_simp;with_reducible rfl
        rotate_left
        ·simp only[Act.put,qA,qB,qC,i64_w,i32_w];rfl
        refine take_ (i:=7) (N:=some 23) (v:=?_) (a':=?_) Mk2_12 rfl rfl (take_ofW o.out aH.out (by kernel_rfl)) (fun _ _ _ h=>h) (Or.inl ⟨by rfl,?_⟩) hHeld ?_ ?_;rotate_left
        ·rintro w' ⟨s0,s1⟩;go_simp;with_reducible rfl
        rotate_left
        ·simp only[Act.put,qA,qB,qC,i64_w,i32_w];rfl
        refine take_ (i:=12) (N:=some 28) (v:=?_) (a':=?_) Mk2_13 rfl rfl (take_ofW o.out aH.out (by kernel_rfl)) (fun _ _ _ h=>h) (Or.inl ⟨by rfl,?_⟩) hHeld ?_ ?_;rotate_left
        ·rintro w' ⟨s0,s1⟩;go_simp;with_reducible rfl
        rotate_left
        ·simp only[Act.put,qA,qB,qC,i64_w,i32_w];rfl
        refine one_ (i:=13) (N:=some 29) Mk2_14 rfl rfl (one_of o.out (by kernel_rfl)) (by decide) (fun K hK=>?_);refine goes_ Try.func161 (by kernel_rfl) rfl #[.int .i64 (rd I J),.int .i64 (rd I (ad))] (by rfl) rfl rfl (by(try simp only[List.map_toArray,List.map_cons,List.map_nil]);first|done|(simp only[aF];rfl)|rfl|(simp only[List.length_drop,List.length_take];rfl)) ?_;with_reducible refine(cmp_Less_int.calls (rd I J) (rd I (ad)) true _ bI.out).mono ?_
        rintro e w' ⟨rfl,⟨nd,rfl⟩⟩;refine⟨_,rfl,?_⟩;refine hK.out _ _ ⟨hHeld.1,hHeld.2⟩ (fun hHeld=>?_);clear hK K;refine norm_ (a':=?_) ?_ ?_;rotate_left
        ·show Act.put _ (some 29) _=_
         simp only[Act.put,qA,qB,qC,i64_w,i32_w];rfl
        refine pure_ (i:=14) (N:=some 30) (v:=?_) (a':=?_) Mk2_15 rfl rfl (any_of o.out (by kernel_rfl)) (fun _ _ _ h=>h) (Or.inl ⟨by rfl,?_⟩) ?_ ?_;rotate_left
        ·intro w';go_simp;with_reducible rfl
        rotate_left
        ·simp only[Act.put,qA,qB,qC,i64_w,i32_w];rfl
        refine done_ (done_of o.out (by kernel_rfl)) ?_;try go_wp2
        (try(rw[drewN_self w15];generalize hq_:World.drewN w15 _=w15;replace HO_0:Asd (Kd.R (Kd.int .i64) 3 w15 w0.heap.size (fun k_=>(ae k_∨w.heap.size≤k_)) (.slice (some ai) I.length cP) I):=⟨by rw[←hq_];exact(rS HO_0)⟩;replace HK:Asd (Kept w w15 (fun k_=>ae k_)):=⟨by rw[←hq_];exact(by repeat(with_reducible first|exact HK.out|apply Kept.alloc|apply Kept.drewN|apply Kept.drew))⟩;replace HB:Asd (Below w0.heap.size w0 w15):=⟨by rw[←hq_];exact(wZ HB)⟩;clear hq_));replace HO_0:=Asd.mk (Kd.R_drew HO_0.out);replace HK:=Asd.mk (Kept.drew HK.out);replace HB:=Asd.mk (bwD HB.out);have bw:0≤((ad):Int):=odt;have bx:(ad)<(I.length:Int):=odt;obtain⟨cr,cQ,az⟩:=Kd.at_int (Kd.R_reads' HO_0.out).2.2 (ad) bw bx;obtain rfl:ai=cr:=(by injection cQ);replace bw:=eq_true bw;replace bx:=eq_true bx;have bz:0≤(J:Int):=odt;have bA:J<(I.length:Int):=odt;obtain⟨ct,cR,aA⟩:=Kd.at_int (Kd.R_reads' HO_0.out).2.2 J bz bA;obtain rfl:ai=ct:=(by injection cR);replace bz:=eq_true bz;replace bA:=eq_true bA;have cu:0≤(J:Int):=odt;have cv:(J:Int)<((I.length:Int):Int):=odt;obtain⟨aU,dE,b5,b6,cS,dF,b7⟩:=Kd.R_form HO_0.out (by omega);(first|cases b5|(injection b5 with ea_ en_ ec_;(first|subst ea_|(injection ea_ with ea_;subst ea_));subst ec_;clear en_));have dG:=Asd.mk b6;have cT:=Asd.mk b7;clear b6 cS b7;have aV:=Asd.mk (show(ae aU∨w.heap.size≤aU) from(HO_0.out.1 _ rfl));(first|simp only[add_plain]at af|skip);(first|simp only[add_plain]at ag|skip);(first|simp only[add_plain]at az|skip);(first|simp only[add_plain]at aA|skip);obtain⟨bQ,bT⟩:=Kd.R_celln 0 HO_0.out (J:Int) cu cv;replace cu:=eq_true cu;replace cv:=eq_true cv;have bB:=Kd.R_putn HO_0.out (J:Int) (rd I (ad));rw[←cm.out]at bB;have bD:=Asd.mk bB;clear bB;have cw:0≤((ad):Int):=odt;have cx:((ad):Int)<((I.length:Int):Int):=odt;obtain⟨bV,bZ⟩:=Kd.R_celln 0 bD.out ((ad):Int) cw cx;replace cw:=eq_true cw;replace cx:=eq_true cx;have bF:=Kd.R_putn bD.out ((ad):Int) (rd I J);rw[←cn.out]at bF;have b8:=Asd.mk bF;clear bF;refine start_ (n:=18) (S:=fun w'=>w'.cell? ⟨aU,((ad)).toNat,none⟩=some (.int .i64 (rd I (ad)))∧w'.cell? ⟨aU,(J).toNat,none⟩=some (.int .i64 (rd I J))) (ds:=[15,17]) #[false,false,false,false,false,false,false,false,false,false,false,false,false,false,false,false,false,false] (by kernel_rfl) rfl rfl ⟨az,aA⟩ (fun hHeld=>?_);refine with_tabW slices_insertionSortOrdered_int.tab6 slices_insertionSortOrdered_int.bits6 (fun o aH=>?_);generalize w15.drew=w17 at HO_0 HK HB cT bD b8 bT bZ af ag az aA bQ bV hHeld⊢;refine pure_ (i:=0) (N:=some 33) (v:=?_) (a':=?_) #[true,false,false,false,false,false,false,false,false,false,false,false,false,false,false,false,false,false] rfl rfl (any_of o.out (by kernel_rfl)) (fun _ _ _ h=>h) (Or.inl ⟨by rfl,?_⟩) ?_ ?_;rotate_left
        ·intro w';go_simp;with_reducible rfl
        rotate_left
        ·simp only[Act.put,qA,qB,qC,i64_w,i32_w];rfl
        refine pure_ (i:=1) (N:=some 34) (v:=?_) (a':=?_) #[true,true,false,false,false,false,false,false,false,false,false,false,false,false,false,false,false,false] rfl rfl (any_of o.out (by kernel_rfl)) (fun _ _ _ h=>h) (Or.inl ⟨by rfl,?_⟩) ?_ ?_;rotate_left
        ·intro w';go_simp;with_reducible rfl
        rotate_left
        ·simp only[Act.put,qA,qB,qC,i64_w,i32_w];rfl
        refine pure_ (i:=2) (N:=some 35) (v:=?_) (a':=?_) #[true,true,true,false,false,false,false,false,false,false,false,false,false,false,false,false,false,false] rfl rfl (any_of o.out (by kernel_rfl)) (fun _ _ _ h=>h) (Or.inl ⟨by rfl,?_⟩) ?_ ?_;rotate_left
        ·intro w';go_simp;with_reducible rfl
        rotate_left
        ·simp only[Act.put,qA,qB,qC,i64_w,i32_w];rfl
        refine pure_ (i:=3) (N:=some 36) (v:=?_) (a':=?_) #[true,true,true,true,false,false,false,false,false,false,false,false,false,false,false,false,false,false] rfl rfl (any_of o.out (by kernel_rfl)) (fun _ _ _ h=>h) (Or.inl ⟨by rfl,?_⟩) ?_ ?_;rotate_left
        ·intro w';go_simp;with_reducible rfl
        rotate_left
        ·simp only[Act.put,qA,qB,qC,i64_w,i32_w];rfl
        refine pure_ (i:=4) (N:=some 37) (v:=?_) (a':=?_) #[true,true,true,true,true,false,false,false,false,false,false,false,false,false,false,false,false,false] rfl rfl (any_of o.out (by kernel_rfl)) (fun _ _ _ h=>h) (Or.inl ⟨by rfl,?_⟩) ?_ ?_;rotate_left
        ·intro w';go_simp;with_reducible rfl
        rotate_left
        ·simp only[Act.put,qA,qB,qC,i64_w,i32_w];rfl
        refine pure_ (i:=5) (N:=some 38) (v:=?_) (a':=?_) #[true,true,true,true,true,true,false,false,false,false,false,false,false,false,false,false,false,false] rfl rfl (any_of o.out (by kernel_rfl)) (fun _ _ _ h=>h) (Or.inl ⟨by rfl,?_⟩) ?_ ?_;rotate_left
        ·intro w';go_simp;with_reducible rfl
        rotate_left
        ·simp only[Act.put,qA,qB,qC,i64_w,i32_w];rfl
        refine pure_ (i:=6) (N:=some 39) (v:=?_) (a':=?_) #[true,true,true,true,true,true,true,false,false,false,false,false,false,false,false,false,false,false] rfl rfl (any_of o.out (by kernel_rfl)) (fun _ _ _ h=>h) (Or.inl ⟨by rfl,?_⟩) ?_ ?_;rotate_left
        ·intro w';go_simp;with_reducible rfl
        rotate_left
        ·simp only[Act.put,qA,qB,qC,i64_w,i32_w];rfl
        refine pure_ (i:=7) (N:=some 40) (v:=?_) (a':=?_) #[true,true,true,true,true,true,true,true,false,false,false,false,false,false,false,false,false,false] rfl rfl (any_of o.out (by kernel_rfl)) (fun _ _ _ h=>h) (Or.inl ⟨by rfl,?_⟩) ?_ ?_;rotate_left
        ·intro w';go_simp;with_reducible rfl
        rotate_left
        ·simp only[Act.put,qA,qB,qC,i64_w,i32_w];rfl
        refine pure_ (i:=8) (N:=some 41) (v:=?_) (a':=?_) #[true,true,true,true,true,true,true,true,true,false,false,false,false,false,false,false,false,false] rfl rfl (any_of o.out (by kernel_rfl)) (fun _ _ _ h=>h) (Or.inl ⟨by rfl,?_⟩) ?_ ?_;rotate_left
        ·intro w';go_simp;with_reducible rfl
        rotate_left
        ·simp only[Act.put,qA,qB,qC,i64_w,i32_w];rfl
        refine pure_ (i:=10) (N:=some 43) (v:=?_) (a':=?_) #[true,true,true,true,true,true,true,true,true,false,true,false,false,false,false,false,false,false] rfl rfl (any_of o.out (by kernel_rfl)) (fun _ _ _ h=>h) (Or.inl ⟨by rfl,?_⟩) ?_ ?_;rotate_left
        ·intro w';go_simp;with_reducible rfl
        rotate_left
        ·simp only[Act.put,qA,qB,qC,i64_w,i32_w];rfl
        refine pure_ (i:=11) (N:=some 44) (v:=?_) (a':=?_) #[true,true,true,true,true,true,true,true,true,false,true,true,false,false,false,false,false,false] rfl rfl (any_of o.out (by kernel_rfl)) (fun _ _ _ h=>h) (Or.inl ⟨by rfl,?_⟩) ?_ ?_;rotate_left
        ·intro w';go_simp;with_reducible rfl
        rotate_left
        ·simp only[Act.put,qA,qB,qC,i64_w,i32_w];rfl
        refine pure_ (i:=12) (N:=some 45) (v:=?_) (a':=?_) #[true,true,true,true,true,true,true,true,true,false,true,true,true,false,false,false,false,false] rfl rfl (any_of o.out (by kernel_rfl)) (fun _ _ _ h=>h) (Or.inl ⟨by rfl,?_⟩) ?_ ?_;rotate_left
        ·intro w';go_simp;with_reducible rfl
        rotate_left
        ·simp only[Act.put,qA,qB,qC,i64_w,i32_w];rfl
        refine take_ (i:=9) (N:=some 42) (v:=?_) (a':=?_) #[true,true,true,true,true,true,true,true,true,true,true,true,true,false,false,false,false,false] rfl rfl (take_ofW o.out aH.out (by kernel_rfl)) (fun _ _ _ h=>h) (Or.inl ⟨by rfl,?_⟩) hHeld ?_ ?_;rotate_left
        ·rintro w' ⟨s0,s1⟩;go_simp;with_reducible rfl
        rotate_left
        ·simp only[Act.put,qA,qB,qC,i64_w,i32_w];rfl
        refine take_ (i:=13) (N:=some 46) (v:=?_) (a':=?_) #[true,true,true,true,true,true,true,true,true,true,true,true,true,true,false,false,false,false] rfl rfl (take_ofW o.out aH.out (by kernel_rfl)) (fun _ _ _ h=>h) (Or.inl ⟨by rfl,?_⟩) hHeld ?_ ?_;rotate_left
        ·rintro w' ⟨s0,s1⟩;go_simp;with_reducible rfl
        rotate_left
        ·simp only[Act.put,qA,qB,qC,i64_w,i32_w];rfl
        refine pure_ (i:=14) (N:=some 47) (v:=?_) (a':=?_) #[true,true,true,true,true,true,true,true,true,true,true,true,true,true,true,false,false,false] rfl rfl (any_of o.out (by kernel_rfl)) (fun _ _ _ h=>h) (Or.inl ⟨by rfl,?_⟩) ?_ ?_;rotate_left
        ·intro w';go_simp;with_reducible rfl
        rotate_left
        ·simp only[Act.put,qA,qB,qC,i64_w,i32_w];rfl
        refine last_ (i:=15) (N:=none) #[true,true,true,true,true,true,true,true,true,true,true,true,true,true,true,true,false,false] rfl rfl (one_of o.out (by kernel_rfl)) (by decide) (fun K hK=>?_);refine skip_ (w1:=?_) (by rfl) rfl ?_ ?_;rotate_left
        ·go_simp;rfl
        refine hK.out _ _ ?_;clear hK K;refine pure_ (i:=16) (N:=some 48) (v:=?_) (a':=?_) #[true,true,true,true,true,true,true,true,true,true,true,true,true,true,true,true,true,false] rfl rfl (any_of o.out (by kernel_rfl)) (fun _ _ _ h=>h) (Or.inl ⟨by rfl,?_⟩) ?_ ?_;rotate_left
        ·intro w';go_simp;with_reducible rfl
        rotate_left
        ·simp only[Act.put,qA,qB,qC,i64_w,i32_w];rfl
        refine last_ (i:=17) (N:=none) #[true,true,true,true,true,true,true,true,true,true,true,true,true,true,true,true,true,true] rfl rfl (one_of o.out (by kernel_rfl)) (by decide) (fun K hK=>?_);refine skip_ (w1:=?_) (by rfl) rfl ?_ ?_;rotate_left
        ·go_simp;rfl
        refine hK.out _ _ ?_;clear hK K;refine done_ (done_of o.out (by kernel_rfl)) ?_;try go_wp2
        go_roundg k2
        case measure=>have:=an.out;have:=aW.out;omega
        case rel=>exact⟨(b1),(ad),(by first|rfl|(simp;done)|(simp only[←aF]<;>(first|rfl|simp))|(simp[*];done)),H',⟨by have:=an.out;have:=aW.out;omega⟩,⟨by(repeat apply Kd.RS);exact b8.out⟩,⟨by repeat(with_reducible first|exact HK.out|apply Kept.alloc|apply Kept.drewN|apply Kept.drew|refine Kept.setCell ?_ aV.out _|refine Kept.setCell ?_ aV.out _)⟩,⟨wZ HB⟩⟩
       ·replace bO:=Bool.eq_false_iff.mpr bO;subst bO;rw[if_neg (show¬(false=true) by decide)]at H;have H':=Asd.mk H;clear H;try go_wp2
        replace HO_0:=Asd.mk (Kd.R_drew HO_0.out);replace HK:=Asd.mk (Kept.drew HK.out);replace HB:=Asd.mk (bwD HB.out);obtain⟨dH,dI,b9⟩:=Kd.R_slice HO_0.out;(first|subst b9|(injection b9 with f1_ f2_ f3_;have cp:=f1_.symm;have cq:=f3_.symm;clear f1_ f2_ f3_;subst cp;subst cq));have av:0≤(J:Int):=odt;have aw:J<(I.length:Int):=odt;obtain⟨ai,bs,af⟩:=Kd.at_int (Kd.R_reads' HO_0.out).2.2 J av aw;cases bs;replace av:=eq_true av;replace aw:=eq_true aw;have ax:0≤((ad):Int):=odt;have ay:(ad)<(I.length:Int):=odt;obtain⟨aS,bu,ag⟩:=Kd.at_int (Kd.R_reads' HO_0.out).2.2 (ad) ax ay;obtain rfl:ai=aS:=(by injection bu);replace ax:=eq_true ax;replace ay:=eq_true ay;refine start_ (n:=15) (S:=fun w'=>w'.cell? (ai.add (J).toNat)=some (.int .i64 (rd I J))∧w'.cell? (ai.add ((ad)).toNat)=some (.int .i64 (rd I (ad)))) (ds:=[]) Mk2_0 (by kernel_rfl) rfl rfl ⟨af,ag⟩ (fun hHeld=>?_);refine with_tabW slices_insertionSortOrdered_int.tab4 slices_insertionSortOrdered_int.bits4 (fun o aH=>?_);generalize wr.drew=dK at HO_0 HK HB af ag hHeld⊢;refine pure_ (i:=0) (N:=some 16) (v:=?_) (a':=?_) Mk2_1 rfl rfl (any_of o.out (by kernel_rfl)) (fun _ _ _ h=>h) (Or.inl ⟨by rfl,?_⟩) ?_ ?_;rotate_left
        ·intro w';go_simp;with_reducible rfl
        rotate_left
        ·simp only[Act.put,qA,qB,qC,i64_w,i32_w];rfl
        refine pure_ (i:=1) (N:=some 17) (v:=?_) (a':=?_) Mk2_2 rfl rfl (any_of o.out (by kernel_rfl)) (fun _ _ _ h=>h) (Or.inl ⟨by rfl,?_⟩) ?_ ?_;rotate_left
        ·intro w';go_simp;with_reducible rfl
        rotate_left
        ·simp only[Act.put,qA,qB,qC,i64_w,i32_w];rfl
        refine pure_ (i:=2) (N:=some 18) (v:=?_) (a':=?_) Mk2_3 rfl rfl (any_of o.out (by kernel_rfl)) (fun _ _ _ h=>h) (Or.inl ⟨by rfl,?_⟩) ?_ ?_;rotate_left
        ·intro w';go_simp;with_reducible rfl
        rotate_left
        ·simp only[Act.put,qA,qB,qC,i64_w,i32_w];rfl
        refine pure_ (i:=3) (N:=some 19) (v:=?_) (a':=?_) Mk2_4 rfl rfl (any_of o.out (by kernel_rfl)) (fun _ _ _ h=>h) (Or.inl ⟨by rfl,?_⟩) ?_ ?_;rotate_left
        ·intro w';go_simp;with_reducible rfl
        rotate_left
        ·simp only[Act.put,qA,qB,qC,i64_w,i32_w];rfl
        refine pure_ (i:=4) (N:=some 20) (v:=?_) (a':=?_) Mk2_5 rfl rfl (any_of o.out (by kernel_rfl)) (fun _ _ _ h=>h) (Or.inl ⟨by rfl,?_⟩) ?_ ?_;rotate_left
        ·intro w';go_simp;with_reducible rfl
        rotate_left
        ·simp only[Act.put,qA,qB,qC,i64_w,i32_w];rfl
        refine pure_ (i:=5) (N:=some 21) (v:=?_) (a':=?_) Mk2_6 rfl rfl (any_of o.out (by kernel_rfl)) (fun _ _ _ h=>h) (Or.inl ⟨by rfl,?_⟩) ?_ ?_;rotate_left
        ·intro w';go_simp;with_reducible rfl
        rotate_left
        ·simp only[Act.put,qA,qB,qC,i64_w,i32_w];rfl
        refine pure_ (i:=6) (N:=some 22) (v:=?_) (a':=?_) Mk2_7 rfl rfl (any_of o.out (by kernel_rfl)) (fun _ _ _ h=>h) (Or.inl ⟨by rfl,?_⟩) ?_ ?_;rotate_left
        ·intro w';go_simp;with_reducible rfl
        rotate_left
        ·simp only[Act.put,qA,qB,qC,i64_w,i32_w];rfl
        refine pure_ (i:=8) (N:=some 24) (v:=?_) (a':=?_) Mk2_8 rfl rfl (any_of o.out (by kernel_rfl)) (fun _ _ _ h=>h) (Or.inl ⟨by rfl,?_⟩) ?_ ?_;rotate_left
        ·intro w';go_simp;with_reducible rfl
        rotate_left
        ·simp only[Act.put,qA,qB,qC,i64_w,i32_w];rfl
        refine pure_ (i:=9) (N:=some 25) (v:=?_) (a':=?_) Mk2_9 rfl rfl (any_of o.out (by kernel_rfl)) (fun _ _ _ h=>h) (Or.inl ⟨by rfl,?_⟩) ?_ ?_;rotate_left
        ·intro w';go_simp;with_reducible rfl
        rotate_left
        ·simp only[Act.put,qA,qB,qC,i64_w,i32_w];rfl
        refine pure_ (i:=10) (N:=some 26) (v:=?_) (a':=?_) Mk2_10 rfl rfl (any_of o.out (by kernel_rfl)) (fun _ _ _ h=>h) (Or.inl ⟨by rfl,?_⟩) ?_ ?_;rotate_left
        ·intro w';go_simp;with_reducible rfl
        rotate_left
        ·simp only[Act.put,qA,qB,qC,i64_w,i32_w];rfl
        refine pure_ (i:=11) (N:=some 27) (v:=?_) (a':=?_) Mk2_11 rfl rfl (any_of o.out (by kernel_rfl)) (fun _ _ _ h=>h) (Or.inl ⟨by rfl,?_⟩) ?_ ?_;rotate_left
        ·intro w';go_simp;with_reducible rfl
        rotate_left
        ·simp only[Act.put,qA,qB,qC,i64_w,i32_w];rfl
        refine take_ (i:=7) (N:=some 23) (v:=?_) (a':=?_) Mk2_12 rfl rfl (take_ofW o.out aH.out (by kernel_rfl)) (fun _ _ _ h=>h) (Or.inl ⟨by rfl,?_⟩) hHeld ?_ ?_;rotate_left
        ·rintro w' ⟨s0,s1⟩;go_simp;with_reducible rfl
        rotate_left
        ·simp only[Act.put,qA,qB,qC,i64_w,i32_w];rfl
        refine take_ (i:=12) (N:=some 28) (v:=?_) (a':=?_) Mk2_13 rfl rfl (take_ofW o.out aH.out (by kernel_rfl)) (fun _ _ _ h=>h) (Or.inl ⟨by rfl,?_⟩) hHeld ?_ ?_;rotate_left
        ·rintro w' ⟨s0,s1⟩;go_simp;with_reducible rfl
        rotate_left
        ·simp only[Act.put,qA,qB,qC,i64_w,i32_w];rfl
        refine one_ (i:=13) (N:=some 29) Mk2_14 rfl rfl (one_of o.out (by kernel_rfl)) (by decide) (fun K hK=>?_);refine goes_ Try.func161 (by kernel_rfl) rfl #[.int .i64 (rd I J),.int .i64 (rd I (ad))] (by rfl) rfl rfl (by(try simp only[List.map_toArray,List.map_cons,List.map_nil]);first|done|(simp only[aF];rfl)|rfl|(simp only[List.length_drop,List.length_take];rfl)) ?_;with_reducible refine(cmp_Less_int.calls (rd I J) (rd I (ad)) false _ bI.out).mono ?_
        rintro e w' ⟨rfl,⟨nd,rfl⟩⟩;refine⟨_,rfl,?_⟩;refine hK.out _ _ ⟨hHeld.1,hHeld.2⟩ (fun hHeld=>?_);clear hK K;refine norm_ (a':=?_) ?_ ?_;rotate_left
        ·show Act.put _ (some 29) _=_
         simp only[Act.put,qA,qB,qC,i64_w,i32_w];rfl
        refine pure_ (i:=14) (N:=some 30) (v:=?_) (a':=?_) Mk2_15 rfl rfl (any_of o.out (by kernel_rfl)) (fun _ _ _ h=>h) (Or.inl ⟨by rfl,?_⟩) ?_ ?_;rotate_left
        ·intro w';go_simp;with_reducible rfl
        rotate_left
        ·simp only[Act.put,qA,qB,qC,i64_w,i32_w];rfl
        refine done_ (done_of o.out (by kernel_rfl)) ?_;try go_wp2
        go_roundg k2
        case measure=>have:=an.out;have:=aW.out;omega
        case rel=>exact⟨(I),(wrap64 (ah+1)),(by first|rfl|(simp;done)|(simp[*];done)),H',⟨by have:=an.out;have:=aW.out;omega⟩,⟨by(repeat apply Kd.RS);exact HO_0.out⟩,⟨by repeat(with_reducible first|exact HK.out|apply Kept.alloc|apply Kept.drewN|apply Kept.drew)⟩,⟨wZ HB⟩⟩
      ·rw[if_neg c5]at H;have bg:decide (a1<J)=false:=decide_eq_false c5;clear c5;have H':=Asd.mk H;clear H;try go_wp2
       replace HO_0:=Asd.mk (Kd.R_drew HO_0.out);replace HK:=Asd.mk (Kept.drew HK.out);replace HB:=Asd.mk (bwD HB.out);refine start_ (n:=15) (S:=fun w'=>True) (ds:=[]) Mk2_0 (by kernel_rfl) rfl rfl trivial (fun hHeld=>?_);refine with_tabW slices_insertionSortOrdered_int.tab4 slices_insertionSortOrdered_int.bits4 (fun o aH=>?_);generalize wr.drew=dL at HO_0 HK HB hHeld⊢;refine pure_ (i:=0) (N:=some 16) (v:=?_) (a':=?_) Mk2_1 rfl rfl (any_of o.out (by kernel_rfl)) (fun _ _ _ h=>h) (Or.inl ⟨by rfl,?_⟩) ?_ ?_;rotate_left
       ·intro w';go_simp;with_reducible rfl
       rotate_left
       ·simp only[Act.put,qA,qB,qC,i64_w,i32_w];rfl
       refine pure_ (i:=1) (N:=some 17) (v:=?_) (a':=?_) Mk2_2 rfl rfl (any_of o.out (by kernel_rfl)) (fun _ _ _ h=>h) (Or.inl ⟨by rfl,?_⟩) ?_ ?_;rotate_left
       ·intro w';go_simp;with_reducible rfl
       rotate_left
       ·simp only[Act.put,qA,qB,qC,i64_w,i32_w];rfl
       refine pure_ (i:=2) (N:=some 18) (v:=?_) (a':=?_) Mk2_3 rfl rfl (any_of o.out (by kernel_rfl)) (fun _ _ _ h=>h) (Or.inl ⟨by rfl,?_⟩) ?_ ?_;rotate_left
       ·intro w';go_simp;with_reducible rfl
       rotate_left
       ·simp only[Act.put,qA,qB,qC,i64_w,i32_w];rfl
       refine pure_ (i:=3) (N:=some 19) (v:=?_) (a':=?_) Mk2_4 rfl rfl (any_of o.out (by kernel_rfl)) (fun _ _ _ h=>h) (Or.inl ⟨by rfl,?_⟩) ?_ ?_;rotate_left
       ·intro w';go_simp;with_reducible rfl
       rotate_left
       ·simp only[Act.put,qA,qB,qC,i64_w,i32_w];rfl
       refine pure_ (i:=4) (N:=some 20) (v:=undef) (a':=?_) Mk2_5 rfl rfl (any_of o.out (by kernel_rfl)) (fun _ _ _ h=>h) (Or.inr ⟨by rfl,rfl⟩) ?_ ?_;rotate_left
       ·simp only[Act.put,qA,qB,qC,i64_w,i32_w];rfl
       refine pure_ (i:=5) (N:=some 21) (v:=undef) (a':=?_) Mk2_6 rfl rfl (any_of o.out (by kernel_rfl)) (fun _ _ _ h=>h) (Or.inr ⟨by rfl,rfl⟩) ?_ ?_;rotate_left
       ·simp only[Act.put,qA,qB,qC,i64_w,i32_w];rfl
       refine pure_ (i:=6) (N:=some 22) (v:=undef) (a':=?_) Mk2_7 rfl rfl (any_of o.out (by kernel_rfl)) (fun _ _ _ h=>h) (Or.inr ⟨by rfl,rfl⟩) ?_ ?_;rotate_left
       ·simp only[Act.put,qA,qB,qC,i64_w,i32_w];rfl
       refine pure_ (i:=7) (N:=some 23) (v:=undef) (a':=?_) #[true,true,true,true,true,true,true,true,false,false,false,false,false,false,false] rfl rfl (any_of o.out (by kernel_rfl)) (fun _ _ _ h=>h) (Or.inr ⟨by rfl,rfl⟩) ?_ ?_;rotate_left
       ·simp only[Act.put,qA,qB,qC,i64_w,i32_w];rfl
       refine pure_ (i:=8) (N:=some 24) (v:=undef) (a':=?_) #[true,true,true,true,true,true,true,true,true,false,false,false,false,false,false] rfl rfl (any_of o.out (by kernel_rfl)) (fun _ _ _ h=>h) (Or.inr ⟨by rfl,rfl⟩) ?_ ?_;rotate_left
       ·simp only[Act.put,qA,qB,qC,i64_w,i32_w];rfl
       refine pure_ (i:=9) (N:=some 25) (v:=undef) (a':=?_) #[true,true,true,true,true,true,true,true,true,true,false,false,false,false,false] rfl rfl (any_of o.out (by kernel_rfl)) (fun _ _ _ h=>h) (Or.inr ⟨by rfl,rfl⟩) ?_ ?_;rotate_left
       ·simp only[Act.put,qA,qB,qC,i64_w,i32_w];rfl
       refine pure_ (i:=10) (N:=some 26) (v:=undef) (a':=?_) #[true,true,true,true,true,true,true,true,true,true,true,false,false,false,false] rfl rfl (any_of o.out (by kernel_rfl)) (fun _ _ _ h=>h) (Or.inr ⟨by rfl,rfl⟩) ?_ ?_;rotate_left
       ·simp only[Act.put,qA,qB,qC,i64_w,i32_w];rfl
       refine pure_ (i:=11) (N:=some 27) (v:=undef) (a':=?_) Mk2_12 rfl rfl (any_of o.out (by kernel_rfl)) (fun _ _ _ h=>h) (Or.inr ⟨by rfl,rfl⟩) ?_ ?_;rotate_left
       ·simp only[Act.put,qA,qB,qC,i64_w,i32_w];rfl
       refine pure_ (i:=12) (N:=some 28) (v:=undef) (a':=?_) Mk2_13 rfl rfl (any_of o.out (by kernel_rfl)) (fun _ _ _ h=>h) (Or.inr ⟨by rfl,rfl⟩) ?_ ?_;rotate_left
       ·simp only[Act.put,qA,qB,qC,i64_w,i32_w];rfl
       refine pure_ (i:=13) (N:=some 29) (v:=undef) (a':=?_) Mk2_14 rfl rfl (any_of o.out (by kernel_rfl)) (fun _ _ _ h=>h) (Or.inr ⟨by rfl,rfl⟩) ?_ ?_;rotate_left
       ·simp only[Act.put,qA,qB,qC,i64_w,i32_w];rfl
       refine pure_ (i:=14) (N:=some 30) (v:=?_) (a':=?_) Mk2_15 rfl rfl (any_of o.out (by kernel_rfl)) (fun _ _ _ h=>h) (Or.inl ⟨by rfl,?_⟩) ?_ ?_;rotate_left
       ·intro w';go_simp;with_reducible rfl
       rotate_left
       ·simp only[Act.put,qA,qB,qC,i64_w,i32_w];rfl
       refine done_ (done_of o.out (by kernel_rfl)) ?_;try go_wp2
       go_roundg k2
       case measure=>have:=an.out;have:=aW.out;omega
       case rel=>exact⟨(I),(wrap64 (ah+1)),(by first|rfl|(simp;done)|(simp[*];done)),H',⟨by have:=an.out;have:=aW.out;omega⟩,⟨by(repeat apply Kd.RS);exact HO_0.out⟩,⟨by repeat(with_reducible first|exact HK.out|apply Kept.alloc|apply Kept.drewN|apply Kept.drew)⟩,⟨wZ HB⟩⟩
   ·rw[if_neg c4]at H;have aC:decide (ah<a2)=false:=decide_eq_false c4;clear c4;obtain rfl:=Option.some.inj H;go_wp2;first|go_end0|((try simp only[Exit.inBlock,Exit.then]);refine bodyPost_ret (results_none rfl _ _ _) rfl ?_)
    exact⟨by first|rfl|(simp[*,errW_none,errW_some]<;>rfl),by(repeat apply Kd.RS);exact HO_0.out,wZ HB,by repeat(with_reducible first|exact HK.out|apply Kept.alloc|apply Kept.drewN|apply Kept.drew)⟩

/-! ### slices_pdqsortOrdered_int: function 143 (by hand) -/
def slices_pdqsortOrdered_int.f (k:Nat) (l0:List Int) (a1:Int) (a2:Int) (_a3:Int):Option (List Int):=if wrap64 (a2 - a1)≤12 then slices_insertionSortOrdered_int.f k l0 a1 a2 else none
theorem slices_pdqsortOrdered_int.mono:∀a0 a1 a2 a3 k,LeO (slices_pdqsortOrdered_int.f k a0 a1 a2 a3) (slices_pdqsortOrdered_int.f (k+1) a0 a1 a2 a3):=by
 intro a0 a1 a2 a3 k;unfold slices_pdqsortOrdered_int.f;exact LeO.ite (slices_insertionSortOrdered_int.mono _ _ _ _) (LeO.refl _)
set_option maxHeartbeats 4000000 in
set_option maxRecDepth 100000 in
theorem slices_pdqsortOrdered_int.calls (k:Nat) (ae:Nat→Prop) (ab:Value) (l0:List Int) (a1:Int) (a2:Int) (a3:Int) (r:List Int) (w0 w:World) (hB:Below w0.heap.size w0 w) (aB:Kd.R (Kd.int .i64) 3 w w0.heap.size ae ab l0) (h:slices_pdqsortOrdered_int.f k l0 a1 a2 a3=some r):
  Calls Try.prog 143 #[ab,.int .i64 a1,.int .i64 a2,.int .i64 a3] w fun e w'=>e= .returned (.tuple #[])∧Kd.R (Kd.int .i64) 3 w' w0.heap.size (fun k_=>(ae k_∨w.heap.size≤k_)) ab r∧Below w0.heap.size w0 w'∧Kept w w' (fun k_=>ae k_):=by
 unfold slices_pdqsortOrdered_int.f at h;by_cases c:wrap64 (a2 - a1)≤12
 ·rw[if_pos c]at h;have HI:=Asd.mk (slices_insertionSortOrdered_int.calls k ae ab l0 a1 a2 r w0 w hB aB h);have c':decide (wrap64 (a2 - a1)≤12)=true:=decide_eq_true c;clear h hB aB c;go_enter Try.func143,Try.ntmps143;go_wp2_with fail;refine wp_loop_rounds 1 ?_;rw[rounds_succ];go_wp2_with fail;refine HI.out.mono ?_;rintro e w' ⟨rfl,h1,h2,h3⟩;have G1:=Asd.mk h1;have G2:=Asd.mk h2;have G3:=Asd.mk h3;clear h1 h2 h3;go_wp2;first|go_end0|((try simp only[Exit.inBlock,Exit.then]);refine bodyPost_ret (results_none rfl _ _ _) rfl ?_)
  exact⟨rfl,G1.out,G2.out,G3.out⟩
 ·rw[if_neg c]at h;cases h

/-! ### bits_Len64: function 165 (by hand) -/
def bits_Len64.f (a0:Int):Option (Int):=if a0=0 then some 0 else if a0=1 then some 1 else if a0=2 then some 2 else if a0=3 then some 2 else if a0=4 then some 3 else if a0=5 then some 3 else if a0=6 then some 3 else if a0=7 then some 3 else if a0=8 then some 4 else none
theorem bits_Len64.at_ (a0 r:Int) (h:bits_Len64.f a0=some r):(a0=0∧r=0)∨(a0=1∧r=1)∨(a0=2∧r=2)∨(a0=3∧r=2)∨(a0=4∧r=3)∨(a0=5∧r=3)∨(a0=6∧r=3)∨(a0=7∧r=3)∨(a0=8∧r=4):=by
 unfold bits_Len64.f at h;repeat' split at h
 all_goals first|(exfalso;cases h;done)|(have h2:=Option.some.inj h;omega)
set_option maxHeartbeats 4000000 in
set_option maxRecDepth 100000 in
theorem bits_Len64.calls (a0:Int) (r:Int) (w:World) (h:bits_Len64.f a0=some r):
  Calls Try.prog 165 #[.int .u64 a0] w fun e w'=>e= .returned (.int .i64 r)∧Drawn0 w w':=by
 have h':=bits_Len64.at_ a0 r h;clear h;rcases h' with⟨rfl,rfl⟩|⟨rfl,rfl⟩|⟨rfl,rfl⟩|⟨rfl,rfl⟩|⟨rfl,rfl⟩|⟨rfl,rfl⟩|⟨rfl,rfl⟩|⟨rfl,rfl⟩|⟨rfl,rfl⟩
 all_goals
  go_enter Try.func165,Try.ntmps165;go_wp2;go_ret;exact⟨by kernel_rfl,Drawn0.refl _⟩

/-! ### bits_Len: function 144 (by hand) -/
def bits_Len.f (a0:Int):Option (Int):=(bits_Len64.f a0).bind fun t=>some t
theorem bits_Len.calls (a0:Int) (r:Int) (w:World) (h:bits_Len.f a0=some r):
  Calls Try.prog 144 #[.int .u64 a0] w fun e w'=>e= .returned (.int .i64 r)∧Drawn0 w w':=by
 obtain⟨t,ht,h⟩:=Option.bind_eq_some_iff.mp h;obtain rfl:=Option.some.inj h;have HT:=Asd.mk (bits_Len64.calls a0 t w ht);clear h ht;go_enter Try.func144,Try.ntmps144;go_wp2_with fail;refine HT.out.mono ?_;rintro e w1 ⟨rfl,⟨n,rfl⟩⟩;go_wp2;go_ret;exact⟨rfl,⟨⟨n,rfl⟩⟩⟩

/-! ### slices_Sort_int_int: function 125 -/
def slices_Sort_int_int.f (k:Nat) (l0:List Int):Option (List Int):=(bits_Len.f (IntKind.u64.wrap ((l0.length:Int)))).bind fun t120=>((slices_pdqsortOrdered_int.f k l0 0 (l0.length:Int) t120).bind fun t121=>(some t121))
theorem slices_Sort_int_int.mono:∀a0 k,LeO (slices_Sort_int_int.f k a0) (slices_Sort_int_int.f (k+1) a0):=by
 intro a0 k;unfold slices_Sort_int_int.f
 repeat' first
   |(with_reducible first|exact slices_pdqsortOrdered_int.mono _ _ _ _ _|exact LeO.refl _|exact LeO.none _|refine LeO.ite ?_ ?_|refine LeO.bind ?_ (fun _=>?_))
   |refine LeO.ite ?_ ?_
   |refine LeO.bind ?_ (fun _=>?_)
set_option maxHeartbeats 8000000 in
set_option maxRecDepth 100000 in
theorem slices_Sort_int_int.calls (k:Nat) (ae:Nat→Prop) (ab:Value) (l0:List Int) (r:List Int) (w0 w:World) (hB:Below w0.heap.size w0 w) (aB:Kd.R (Kd.int .i64) 3 w w0.heap.size ae ab l0) (h:slices_Sort_int_int.f k l0=some r):
  Calls Try.prog 125 #[ab] w fun e w'=>e= .returned (.tuple #[])∧Kd.R (Kd.int .i64) 3 w' w0.heap.size (fun k_=>(ae k_∨w.heap.size≤k_)) ab r∧Below w0.heap.size w0 w'∧Kept w w' (fun k_=>ae k_):=by
 have aO:=Asd.mk (show Kd.R (Kd.int .i64) 3 w w0.heap.size (fun k_=>(ae k_∨w.heap.size≤k_)) ab l0 from Kd.R_mono aB (fun k_ hk=>(.inl hk)));have HK:=Asd.mk (Kept.refl w (fun k_=>ae k_));have dm:=Asd.mk hB.size;have HB:=Asd.mk hB;clear hB;have H:((bits_Len.f (IntKind.u64.wrap ((l0.length:Int)))).bind fun t120=>((slices_pdqsortOrdered_int.f k l0 0 (l0.length:Int) t120).bind fun t121=>(some t121)))=some r:=h;clear h;replace H:=Option.bind_eq_some_iff.mp H;obtain⟨t120,aY,H⟩:=H;try dsimp only at H
 have A2:=Asd.mk aY;clear aY;replace H:=Option.bind_eq_some_iff.mp H;obtain⟨t121,aJ,H⟩:=H;try dsimp only at H
 have A3:=Asd.mk aJ;clear aJ;obtain rfl:=Option.some.inj H;obtain⟨cy,cz,dp⟩:=Kd.R_slice aO.out;subst dp;go_enter Try.func125,Try.ntmps125;go_wp2_with (first|((with_reducible refine gate_callee (f:=144) rfl ?_);refine gsM (some 9) rfl rfl Try.func144 (by kernel_rfl) rfl #[.int .u64 (IntKind.u64.wrap ((l0.length:Int)))] rfl ?_;(with_reducible refine(bits_Len.calls (IntKind.u64.wrap ((l0.length:Int))) t120 _ A2.out).mono ?_);rintro e w' ⟨rfl,⟨nd,rfl⟩⟩;refine⟨_,rfl,?_⟩)|((with_reducible refine gate_callee (f:=143) rfl ?_);refine gsM (some 10) rfl rfl Try.func143 (by kernel_rfl) rfl #[.slice cy l0.length cz,.int .i64 0,.int .i64 (l0.length:Int),.int .i64 t120] rfl ?_;(with_reducible refine(slices_pdqsortOrdered_int.calls k (fun k_=>some k_=(.slice cy l0.length cz:Value).ownBlock) (.slice cy l0.length cz) l0 0 (l0.length:Int) t120 t121 w0 _ ?side1 ?side2 A3.out).mono ?_);(case side1=>repeat(with_reducible first|exact HB.out|apply bwX));(case side2=>exact Kd.R_tight rfl aO.out);rintro e w5 ⟨rfl,cU,hb,cV⟩;refine⟨_,rfl,?_⟩;replace HK:=Asd.mk (Kept.then_ (S:=(fun k_=>ae k_)) (by repeat(with_reducible first|exact HK.out|apply Kept.alloc|apply Kept.drewN|apply Kept.drew)) cV (fun k_ dq=>(fun e_=>(aO.out.1 k_ e_.symm)) dq));replace aO:=Asd.mk (Kd.R_reok rfl cU (fun k_ e_=>aO.out.1 k_ e_));replace HB:=Asd.mk (hb);(try clear hb);(try clear cV);(try clear cU)));first|go_end0|((try simp only[Exit.inBlock,Exit.then]);refine bodyPost_ret (results_none rfl _ _ _) rfl ?_)
 exact⟨by first|rfl|(simp[*,errW_none,errW_some]<;>rfl),by(repeat apply Kd.RS);exact aO.out,wZ HB,by repeat(with_reducible first|exact HK.out|apply Kept.alloc|apply Kept.drewN|apply Kept.drew)⟩

/-! ### slices_Compact_int_int: function 126 (by hand) -/
def slices_Compact_int_int.f (l0:List Int):Option (List Int):=some (Lib.compact l0)
theorem slices_Compact_int_int.len (l:List Int):(Lib.compact l).length≤l.length:=by
 unfold Lib.compact Lib.compactUpTo;rw[List.length_map];exact Nat.le_trans (List.length_filter_le _ _) (by simp)
set_option maxHeartbeats 4000000 in
set_option maxRecDepth 100000 in
theorem slices_Compact_int_int.calls (ae:Nat→Prop) (ab:Value) (l0:List Int) (r:List Int) (w0 w:World) (hB:Below w0.heap.size w0 w) (aB:Kd.R (Kd.int .i64) 3 w w0.heap.size ae ab l0) (h:slices_Compact_int_int.f l0=some r):
  Calls Try.prog 126 #[ab] w fun e w'=>∃cW:Value,e= .returned (cW)∧Kd.R (Kd.int .i64) 3 w' w0.heap.size (fun k_=>(ae k_∨w.heap.size≤k_)) cW r∧Below w0.heap.size w0 w'∧Kept w w' (fun k_=>ae k_):=by
 obtain rfl:=Option.some.inj h;by_cases hp:l0.length=0
 ·obtain⟨A,c,rfl,_,_⟩:=Kd.R_reads aB;obtain rfl:l0= []:=List.eq_nil_of_length_eq_zero hp;refine(Try.slices_Compact_int_empty A c w).mono ?_;rintro e w' ⟨rfl,rfl⟩;exact⟨_,rfl,Kd.R_mono aB (fun k hk=>Or.inl hk),hB,Kept.refl _ _⟩
 ·obtain⟨cX,inner,ca,bH⟩:=aB;have dr:=ca;rcases ca.2 with⟨rfl,h0⟩|⟨g,cap,cur,rfl,cA,hb,h1,h2,h3,h4⟩
  ·exact absurd h0 hp
  ·have dt:inner=l0.map (Value.int .i64):=by
    have hl:=bH.1;have du:=bH.2;apply List.ext_getElem
    ·rw[hl,List.length_map];exact Nat.mul_one _
    ·intro j hj hj';rw[List.length_map]at hj';have:=du j l0[j] (List.getElem?_eq_getElem hj');have e1:(inner.drop (j*1)).take 1= [inner[j]]:=by rw[Nat.mul_one,List.drop_eq_getElem_cons hj];rfl
     have e2:(inner.drop (j*1)).take 1= [Value.int .i64 l0[j]]:=this;rw[e1]at e2;rw[List.getElem_map];exact List.head_eq_of_cons_eq e2
   have dv:cur.toList.take l0.length=l0.map (Value.int .i64):=by rw[←dt,←h4];show _=cur.toList.take (l0.length*1);rw[Nat.mul_one]
   have hH:=holds_of_blockI hb dv;have hm:l0.length≤9223372036854775807:=Nat.le_trans h1 h2;have dw:=slices_Compact_int_int.len l0;refine(Try.slices_Compact_int g 0 cap l0 w hH hm h1).mono ?_;rintro e w' ⟨rfl,n,rfl⟩;obtain⟨ts,cB⟩:∃ts,ts=Lib.compact l0++List.replicate (l0.length - (Lib.compact l0).length) 0:=⟨_,rfl⟩;have hlen:ts.length=l0.length:=by rw[cB,List.length_append,List.length_replicate];omega
   rw[←cB];have hs:=ownsRow_sortedI (w:=w) (n:=n) (os:= #[]) (base:=w0.heap.size) (cap:=cap) hlen cA hb h1 h2 h3;have hg:=grownBy_sortedI (w:=w) (g:=g) (n:=n) (os:= #[]) ts.toArray;rw[Sort.grow_empty]at hs hg
   have hRt:Kd.R (Kd.int .i64) 3 (Sort.putRow (Value.int .i64) (Sort.ahead w n) g 0 ts.toArray) w0.heap.size ae (.slice (some ⟨g,0,none⟩) l0.length cap) ts:=by
    refine⟨cX,_,by rw[hlen];exact hs,⟨by rw[List.length_map];exact(Nat.mul_one _).symm,fun j p hj=>?_⟩⟩;obtain⟨hj',rfl⟩:=List.getElem?_eq_some_iff.1 hj
    show(((ts.map (Value.int .i64)).drop (j*1)).take 1)= [Value.int .i64 ts[j]]
    rw[Nat.mul_one,List.drop_eq_getElem_cons (by rw[List.length_map];exact hj'),List.getElem_map];rfl
   have hT:=Kd.R_take (m:=(Lib.compact l0).length) hRt (by rw[hlen];exact dw);have dx:ts.take (Lib.compact l0).length=Lib.compact l0:=by rw[cB,List.take_left]
   rw[dx]at hT;refine⟨_,rfl,Kd.R_mono hT (fun k hk=>Or.inl hk),pw_below_grown hB (some g) hB.size hg (fun k hk=>by injection hk with hk;omega),hg.size,fun i hi dy=>hg.block i hi (fun e=>dy ?_)⟩;injection e with e
   subst e;exact cX _ rfl

end Go.Proofs.Ytihgpkohglcijaa.P
