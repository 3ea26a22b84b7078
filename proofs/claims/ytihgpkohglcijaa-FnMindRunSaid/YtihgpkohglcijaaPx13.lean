-- Written by a program of this session (wip/hook.py), which runs the kit's printer; Lean checks it.
import Derived.Test.YtihgpkohglcijaaPx0
import Derived.Test.YtihgpkohglcijaaPx2
namespace Go.Proofs.Ytihgpkohglcijaa.P
open Go.RowKit Go.Proofs.YtihgpkohglcijaaW.PrintWords Go.Proofs.YtihgpkohglcijaaW.PrintLast Go.Proofs.YtihgpkohglcijaaW.PrintMore
attribute [local go_sem] max2_int min2_int max_two min_two max_three min_three max_four min_four   -- for this text's walks alone
set_option linter.unusedVariables false
set_option linter.unusedSimpArgs false

abbrev Mk13_0:Array Bool:= #[false,false,false,false,false,false,false,false,false,false,false,false,false,false,false]
abbrev Mk13_1:Array Bool:= #[true,false,false,false,false,false,false,false,false,false,false,false,false,false,false]
abbrev Mk13_2:Array Bool:= #[true,true,false,false,false,false,false,false,false,false,false,false,false,false,false]
abbrev Mk13_3:Array Bool:= #[true,true,true,false,false,false,false,false,false,false,false,false,false,false,false]
abbrev Mk13_4:Array Bool:= #[true,true,true,true,false,false,false,false,false,false,false,false,false,false,false]
abbrev Mk13_5:Array Bool:= #[true,true,true,true,true,false,false,false,false,false,false,false,false,false,false]
abbrev Mk13_6:Array Bool:= #[true,true,true,true,true,true,false,false,false,false,false,false,false,false,false]
abbrev Mk13_7:Array Bool:= #[true,true,true,true,true,true,true,false,false,false,false,false,false,false,false]
abbrev Mk13_8:Array Bool:= #[true,true,true,true,true,true,true,false,true,false,false,false,false,false,false]
abbrev Mk13_9:Array Bool:= #[true,true,true,true,true,true,true,false,true,true,false,false,false,false,false]
abbrev Mk13_10:Array Bool:= #[true,true,true,true,true,true,true,false,true,true,true,false,false,false,false]
abbrev Mk13_11:Array Bool:= #[true,true,true,true,true,true,true,false,true,true,true,true,false,false,false]
abbrev Mk13_12:Array Bool:= #[true,true,true,true,true,true,true,true,true,true,true,true,false,false,false]
abbrev Mk13_13:Array Bool:= #[true,true,true,true,true,true,true,true,true,true,true,true,true,false,false]
abbrev Mk13_14:Array Bool:= #[true,true,true,true,true,true,true,true,true,true,true,true,true,true,false]
abbrev Mk13_15:Array Bool:= #[true,true,true,true,true,true,true,true,true,true,true,true,true,true,true]
/-! ### slices_Min_int_int: function 123 -/
def slices_Min_int_int.l0:Nat→List Int→Int→Int→Option (Int)
 |0,_,_,_=>none
 |k+1,x0,x3,x4=>if x4<(x0.length:Int)then(if 0≤x4 then(slices_Min_int_int.l0 k x0 (mn x3 (rd x0 x4)) (wrap64 (x4+1)))else(none))else(some x3)
def slices_Min_int_int.f (k:Nat) (l0:List Int):Option (Int):=if(l0.length:Int)<1 then(none)else(if 0<(l0.length:Int)then(slices_Min_int_int.l0 k l0 (rd l0 0) 1)else(none))
theorem slices_Min_int_int.mono_l:∀k,(∀y0 y1 y2,LeO (slices_Min_int_int.l0 k y0 y1 y2) (slices_Min_int_int.l0 (k+1) y0 y1 y2))
 |0=>fun _ _ _ r h=>by simp[slices_Min_int_int.l0]at h
 |k+1=>by
  have aj:=slices_Min_int_int.mono_l k
  ·intro y0 y1 y2;unfold slices_Min_int_int.l0;repeat' first
   |(with_reducible first|exact aj _ _ _|exact LeO.refl _|exact LeO.none _|refine LeO.ite ?_ ?_|refine LeO.bind ?_ (fun _=>?_))
   |refine LeO.ite ?_ ?_
   |refine LeO.bind ?_ (fun _=>?_)
theorem slices_Min_int_int.mono:∀a0 k,LeO (slices_Min_int_int.f k a0) (slices_Min_int_int.f (k+1) a0):=by
 intro a0 k;have aj:=slices_Min_int_int.mono_l k;unfold slices_Min_int_int.f
 repeat' first
   |(with_reducible first|exact aj _ _ _|exact LeO.refl _|exact LeO.none _|refine LeO.ite ?_ ?_|refine LeO.bind ?_ (fun _=>?_))
   |refine LeO.ite ?_ ?_
   |refine LeO.bind ?_ (fun _=>?_)
set_option maxHeartbeats 8000000 in
set_option maxRecDepth 100000 in
theorem slices_Min_int_int.calls (k:Nat) (A0:Option Addr) (c0:Nat) (l0:List Int) (r:Int) (w:World) (aI:Kd.C (Kd.int .i64) w A0 l0.length l0) (aJ:l0.length≤c0) (h:slices_Min_int_int.f k l0=some r):
  Calls Try.prog 123 #[.slice A0 l0.length c0] w fun e w'=>e= .returned (.int .i64 r)∧Below w.heap.size w w':=by
 have aK:=Asd.mk aI;have cC:=Asd.mk aJ;clear aI aJ;have HB:=Asd.mk (Below.refl w.heap.size w);have H:(if(l0.length:Int)<1 then(none)else(if 0<(l0.length:Int)then(slices_Min_int_int.l0 k l0 (rd l0 0) 1)else(none)))=some r:=h;clear h;rcases iT H with⟨c2,H⟩|⟨c2,H⟩
 ·exact absurd H (by simp)
 ·have cD:=decide_eq_false c2;have cE:decide (l0.length<1)=false:=decide_eq_false (by omega);clear c2;obtain⟨c3,H⟩:=iN H;have aY:=decide_eq_true c3;have cF:decide (0<l0.length)=true:=decide_eq_true (by omega);clear c3;have H':=Asd.mk H;clear H;have aZ:0≤(0:Int):=(by omega);have a6:0<(l0.length:Int):=odt;obtain⟨ca,cG,aL⟩:=Kd.at_int aK.out 0 aZ a6;cases cG;have cW:(0<l0.length)=True:=eq_true (by omega);(try rw[show((0:Int)).toNat=0 from rfl]at aL);(try rw[Addr.add_zero']at aL);replace aZ:=eq_true aZ;replace a6:=eq_true a6;go_enter Try.func123,Try.ntmps123;go_wp2;go_loopg [3,4] k (fun kq v3 v4 w'=>∃(ak:Int) (ab:Int),v3= .int .i64 ak∧v4= .int .i64 ab∧Asd (slices_Min_int_int.l0 kq l0 ak ab=some r)∧Asd (kq≤k)∧Asd (Below w.heap.size w w'))
  case atStart=>exact⟨(rd l0 0),(1),(by first|rfl|(simp;done)|(simp[*];done)),(by first|rfl|(simp;done)|(simp[*];done)),H',⟨Nat.le_refl _⟩,⟨wZ HB⟩⟩
  case round=>
   clear H';obtain⟨ak,ab,rfl,rfl,HA,al,HB⟩:=hrel;cases gk with
   |zero=>exact absurd HA.out (by simp[slices_Min_int_int.l0])
   |succ k1=>
    have H:=HA.out;clear HA;simp only[slices_Min_int_int.l0]at H;rcases iT H with⟨c4,H⟩|⟨c4,H⟩
    ·have aD:=decide_eq_true c4;clear c4;obtain⟨c5,H⟩:=iN H;have aS:=decide_eq_true c5;clear c5;obtain⟨a7,an⟩:∃j_:Int,(mn ak (rd l0 ab))=j_:=⟨_,rfl⟩;first|rw[an]at H|simp only[an]at H
     have cb:(if(rd l0 ab)<ak then(rd l0 ab)else ak)=a7:=an;have H':=Asd.mk H;clear H;have a8:0≤(ab:Int):=odt;have ba:ab<(l0.length:Int):=odt;obtain⟨cc,cH,aq⟩:=Kd.at_int aK.out ab a8 ba;obtain rfl:ca=cc:=(by injection cH);replace aq:=(HB.out.cell (World.block_lt_of_cell? w _ aq)).trans aq;replace a8:=eq_true a8;replace ba:=eq_true ba;go_wp2;go_roundg k1
     case measure=>have:=al.out;omega
     case rel=>exact⟨(a7),(wrap64 (ab+1)),(by first|rfl|(simp;done)|(simp only[←an]<;>(first|rfl|simp))|(simp[*];done)),(by first|rfl|(simp;done)|(simp[*];done)),H',⟨by have:=al.out;omega⟩,⟨wZ HB⟩⟩
    ·have aD:=decide_eq_false c4;clear c4;obtain rfl:=Option.some.inj H;go_wp2;go_ret;exact⟨by first|rfl|(simp[*,errW_none,errW_some]<;>rfl),wZ HB⟩

/-! ### slices_Max_int_int: function 124 -/
def slices_Max_int_int.l0:Nat→List Int→Int→Int→Option (Int)
 |0,_,_,_=>none
 |k+1,x0,x3,x4=>if x4<(x0.length:Int)then(if 0≤x4 then(slices_Max_int_int.l0 k x0 (mx x3 (rd x0 x4)) (wrap64 (x4+1)))else(none))else(some x3)
def slices_Max_int_int.f (k:Nat) (l0:List Int):Option (Int):=if(l0.length:Int)<1 then(none)else(if 0<(l0.length:Int)then(slices_Max_int_int.l0 k l0 (rd l0 0) 1)else(none))
theorem slices_Max_int_int.mono_l:∀k,(∀y0 y1 y2,LeO (slices_Max_int_int.l0 k y0 y1 y2) (slices_Max_int_int.l0 (k+1) y0 y1 y2))
 |0=>fun _ _ _ r h=>by simp[slices_Max_int_int.l0]at h
 |k+1=>by
  have aj:=slices_Max_int_int.mono_l k
  ·intro y0 y1 y2;unfold slices_Max_int_int.l0;repeat' first
   |(with_reducible first|exact aj _ _ _|exact LeO.refl _|exact LeO.none _|refine LeO.ite ?_ ?_|refine LeO.bind ?_ (fun _=>?_))
   |refine LeO.ite ?_ ?_
   |refine LeO.bind ?_ (fun _=>?_)
theorem slices_Max_int_int.mono:∀a0 k,LeO (slices_Max_int_int.f k a0) (slices_Max_int_int.f (k+1) a0):=by
 intro a0 k;have aj:=slices_Max_int_int.mono_l k;unfold slices_Max_int_int.f
 repeat' first
   |(with_reducible first|exact aj _ _ _|exact LeO.refl _|exact LeO.none _|refine LeO.ite ?_ ?_|refine LeO.bind ?_ (fun _=>?_))
   |refine LeO.ite ?_ ?_
   |refine LeO.bind ?_ (fun _=>?_)
set_option maxHeartbeats 8000000 in
set_option maxRecDepth 100000 in
theorem slices_Max_int_int.calls (k:Nat) (A0:Option Addr) (c0:Nat) (l0:List Int) (r:Int) (w:World) (aI:Kd.C (Kd.int .i64) w A0 l0.length l0) (aJ:l0.length≤c0) (h:slices_Max_int_int.f k l0=some r):
  Calls Try.prog 124 #[.slice A0 l0.length c0] w fun e w'=>e= .returned (.int .i64 r)∧Below w.heap.size w w':=by
 have aK:=Asd.mk aI;have cC:=Asd.mk aJ;clear aI aJ;have HB:=Asd.mk (Below.refl w.heap.size w);have H:(if(l0.length:Int)<1 then(none)else(if 0<(l0.length:Int)then(slices_Max_int_int.l0 k l0 (rd l0 0) 1)else(none)))=some r:=h;clear h;rcases iT H with⟨c2,H⟩|⟨c2,H⟩
 ·exact absurd H (by simp)
 ·have cD:=decide_eq_false c2;have cE:decide (l0.length<1)=false:=decide_eq_false (by omega);clear c2;obtain⟨c3,H⟩:=iN H;have aY:=decide_eq_true c3;have cF:decide (0<l0.length)=true:=decide_eq_true (by omega);clear c3;have H':=Asd.mk H;clear H;have bb:0≤(0:Int):=(by omega);have bc:0<(l0.length:Int):=odt;obtain⟨cd,cI,aM⟩:=Kd.at_int aK.out 0 bb bc;cases cI;have cX:(0<l0.length)=True:=eq_true (by omega);(try rw[show((0:Int)).toNat=0 from rfl]at aM);(try rw[Addr.add_zero']at aM);replace bb:=eq_true bb;replace bc:=eq_true bc;go_enter Try.func124,Try.ntmps124;go_wp2;go_loopg [3,4] k (fun kq v3 v4 w'=>∃(ak:Int) (ab:Int),v3= .int .i64 ak∧v4= .int .i64 ab∧Asd (slices_Max_int_int.l0 kq l0 ak ab=some r)∧Asd (kq≤k)∧Asd (Below w.heap.size w w'))
  case atStart=>exact⟨(rd l0 0),(1),(by first|rfl|(simp;done)|(simp[*];done)),(by first|rfl|(simp;done)|(simp[*];done)),H',⟨Nat.le_refl _⟩,⟨wZ HB⟩⟩
  case round=>
   clear H';obtain⟨ak,ab,rfl,rfl,HA,al,HB⟩:=hrel;cases gk with
   |zero=>exact absurd HA.out (by simp[slices_Max_int_int.l0])
   |succ k1=>
    have H:=HA.out;clear HA;simp only[slices_Max_int_int.l0]at H;rcases iT H with⟨c4,H⟩|⟨c4,H⟩
    ·have aD:=decide_eq_true c4;clear c4;obtain⟨c5,H⟩:=iN H;have aS:=decide_eq_true c5;clear c5;obtain⟨a7,an⟩:∃j_:Int,(mx ak (rd l0 ab))=j_:=⟨_,rfl⟩;first|rw[an]at H|simp only[an]at H
     have cb:(if ak<(rd l0 ab)then(rd l0 ab)else ak)=a7:=an;have H':=Asd.mk H;clear H;have bd:0≤(ab:Int):=odt;have bf:ab<(l0.length:Int):=odt;obtain⟨cf,cJ,ar⟩:=Kd.at_int aK.out ab bd bf;obtain rfl:cd=cf:=(by injection cJ);replace ar:=(HB.out.cell (World.block_lt_of_cell? w _ ar)).trans ar;replace bd:=eq_true bd;replace bf:=eq_true bf;go_wp2;go_roundg k1
     case measure=>have:=al.out;omega
     case rel=>exact⟨(a7),(wrap64 (ab+1)),(by first|rfl|(simp;done)|(simp only[←an]<;>(first|rfl|simp))|(simp[*];done)),(by first|rfl|(simp;done)|(simp[*];done)),H',⟨by have:=al.out;omega⟩,⟨wZ HB⟩⟩
    ·have aD:=decide_eq_false c4;clear c4;obtain rfl:=Option.some.inj H;go_wp2;go_ret;exact⟨by first|rfl|(simp[*,errW_none,errW_some]<;>rfl),wZ HB⟩

/-! ### impl_isRank: function 90 -/
def impl_isRank.j0:Nat→List Int→Bool→Option (Bool)
 |0,_,_=>none
 |k+1,x1,x14=>if x14=true then(some false)else((slices_Min_int_int.f k x1).bind fun t132=>(if t132=0 then((slices_Max_int_int.f k x1).bind fun t133=>(some (decide (t133≤9))))else(some false)))
def impl_isRank.f (k:Nat) (a0:Int) (l1:List Int):Option (Bool):=(impl_areThings.f a0).bind fun t131=>(if t131=true then(if 0≤a0 then(impl_isRank.j0 k l1 ((l1.length:Int) !=(shl .i64 1 a0)))else(none))else(impl_isRank.j0 k l1 true))
theorem impl_isRank.mono_l:∀k,(∀y0 y1,LeO (impl_isRank.j0 k y0 y1) (impl_isRank.j0 (k+1) y0 y1))
 |0=>fun _ _ r h=>by simp[impl_isRank.j0]at h
 |k+1=>by
  have aj:=impl_isRank.mono_l k
  ·intro y0 y1;unfold impl_isRank.j0;repeat' first
   |(with_reducible first|exact aj _ _|exact slices_Max_int_int.mono _ _|exact slices_Min_int_int.mono _ _|exact LeO.refl _|exact LeO.none _|refine LeO.ite ?_ ?_|refine LeO.bind ?_ (fun _=>?_))
   |refine LeO.ite ?_ ?_
   |refine LeO.bind ?_ (fun _=>?_)
theorem impl_isRank.mono:∀a0 a1 k,LeO (impl_isRank.f k a0 a1) (impl_isRank.f (k+1) a0 a1):=by
 intro a0 a1 k;have aj:=impl_isRank.mono_l k;unfold impl_isRank.f
 repeat' first
   |(with_reducible first|exact aj _ _|exact slices_Max_int_int.mono _ _|exact slices_Min_int_int.mono _ _|exact LeO.refl _|exact LeO.none _|refine LeO.ite ?_ ?_|refine LeO.bind ?_ (fun _=>?_))
   |refine LeO.ite ?_ ?_
   |refine LeO.bind ?_ (fun _=>?_)
set_option maxHeartbeats 8000000 in
set_option maxRecDepth 100000 in
theorem impl_isRank.calls (k:Nat) (a0:Int) (A1:Option Addr) (c1:Nat) (l1:List Int) (r:Bool) (w:World) (cK:Kd.C (Kd.int .i64) w A1 l1.length l1) (cL:l1.length≤c1) (h:impl_isRank.f k a0 l1=some r):
  Calls Try.prog 90 #[.int .i64 a0,.slice A1 l1.length c1] w fun e w'=>e= .returned (.bool r)∧Below w.heap.size w w':=by
 have cg:=Asd.mk cK;have ch:=Asd.mk cL;clear cK cL;have HB:=Asd.mk (Below.refl w.heap.size w);have H:((impl_areThings.f a0).bind fun t131=>(if t131=true then(if 0≤a0 then(impl_isRank.j0 k l1 ((l1.length:Int) !=(shl .i64 1 a0)))else(none))else(impl_isRank.j0 k l1 true)))=some r:=h;clear h;have cj:=Asd.mk H;clear H;go_enter Try.func90,Try.ntmps90;go_upto_region 1 with(fail)
 go_cut [14] (fun cY wc=>∃(kq:Nat) (aG:Bool),cY= .bool aG∧Asd (impl_isRank.j0 kq l1 aG=some r)∧Asd (kq≤k)∧Asd (Below w.heap.size w wc))
 case first=>
  have H:=cj.out;clear cj;obtain⟨t131,A4,H⟩:=bE H;try dsimp only at H
  by_cases c5:t131=true
  ·subst c5;rw[if_pos rfl]at H;obtain⟨c6,H⟩:=iN H;have bg:=eq_true c6;have bV:=decide_eq_true c6;clear c6;obtain⟨aO,aE⟩:∃j_:Int,(shl .i64 1 a0)=j_:=⟨_,rfl⟩;first|rw[aE]at H|simp only[aE]at H
   (try rw[aE]at A4);have bh:(IntKind.i64.wrap (1*2^min a0.toNat 64))=aO:=aE;have bj:a0≤64→(IntKind.i64.wrap (1*2^a0.toNat))=aO:=shl_small aE;have da:(IntKind.i64.wrap (2^min a0.toNat 64))=aO:=by have h_:=bh;rw[Int.one_mul]at h_;exact h_
   have db:a0≤64→(IntKind.i64.wrap (2^a0.toNat))=aO:=fun cM=>by have h_:=bj cM;rw[Int.one_mul]at h_;exact h_
   have dc:(wrap64 (1*2^min a0.toNat 64))=aO:=(i64_w _).symm.trans bh;have dd:a0≤64→(wrap64 (1*2^a0.toNat))=aO:=fun h_=>(i64_w _).symm.trans (bj h_)
   have H':=Asd.mk H;clear H;go_wp2_with (first|((with_reducible refine gate_callee (f:=111) rfl ?_);refine gB (some 6) Try.func111 #[.int .i64 a0] rfl ?_;(with_reducible refine(impl_areThings.calls a0 true _ A4.out).mono ?_);rintro e w' ⟨rfl,⟨nd,rfl⟩⟩;refine⟨_,rfl,?_⟩));go_meet
   case rel=>exact⟨_,(((l1.length:Int) !=(aO))),(by first|rfl|(simp;done)|(simp only[←aE]<;>(first|rfl|simp))|(simp[*];done)),H',⟨by first|omega|exact Nat.le_refl _⟩,⟨wZ HB⟩⟩
  ·replace c5:=Bool.eq_false_iff.mpr c5;subst c5;rw[if_neg (show¬(false=true) by decide)]at H;have H':=Asd.mk H;clear H;go_wp2_with (first|((with_reducible refine gate_callee (f:=111) rfl ?_);refine gB (some 6) Try.func111 #[.int .i64 a0] rfl ?_;(with_reducible refine(impl_areThings.calls a0 false _ A4.out).mono ?_);rintro e w' ⟨rfl,⟨nd,rfl⟩⟩;refine⟨_,rfl,?_⟩));go_meet
   case rel=>exact⟨_,(true),(by first|rfl|(simp;done)|(simp[*];done)),H',⟨by first|omega|exact Nat.le_refl _⟩,⟨wZ HB⟩⟩
 case rest=>
  clear cj;obtain⟨kq,aG,rfl,HA,dA,HB⟩:=hcut;cases kq with
  |zero=>exact absurd HA.out (by simp[impl_isRank.j0])
  |succ kj2=>
   have H:=HA.out;clear HA;simp only[impl_isRank.j0]at H;by_cases c8:aG=true
   ·subst c8;rw[if_pos rfl]at H;obtain rfl:=Option.some.inj H;go_wp2;go_ret;exact⟨by first|rfl|(simp[*,errW_none,errW_some]<;>rfl),wZ HB⟩
   ·replace c8:=Bool.eq_false_iff.mpr c8;subst c8;rw[if_neg (show¬(false=true) by decide)]at H;obtain⟨t132,A9,H⟩:=bE H;try dsimp only at H
    rcases iT H with⟨c10,H⟩|⟨c10,H⟩
    ·have bk:(t132==0)=true:=beq_iff_eq.mpr c10;have ck:(t132 !=0)=false:=bne_eq_false_iff_eq.mpr c10;clear c10;obtain⟨t133,bB,H⟩:=bE H;try dsimp only at H
     obtain rfl:=Option.some.inj H;go_wp2_with (first|((with_reducible refine gate_callee (f:=123) rfl ?_);refine gB (some 16) Try.func123 #[.slice A1 l1.length c1] rfl ?_;(with_reducible refine(slices_Min_int_int.calls kj2 _ _ l1 t132 _ ?side1 ?side2 A9.out).mono ?_);(case side1=>exact cZ (Kd.C_below cg.out HB.out));(case side2=>exact ch.out);rintro e w12 ⟨rfl,hb⟩;refine⟨_,rfl,?_⟩;replace HB:=bW HB hb;clear hb)|(go_at_call 124;(with_reducible refine(slices_Max_int_int.calls kj2 _ _ l1 t133 _ ?side1 ?side2 bB.out).mono ?_);(case side1=>exact cZ (Kd.C_below cg.out HB.out));(case side2=>exact ch.out);rintro e w13 ⟨rfl,hb⟩;replace HB:=bW HB hb;clear hb));go_ret;exact⟨by first|rfl|(simp[*,errW_none,errW_some]<;>rfl),wZ HB⟩
    ·have bk:(t132==0)=false:=beq_eq_false_iff_ne.mpr c10;have ck:(t132 !=0)=true:=bne_iff_ne.mpr c10;obtain rfl:=Option.some.inj H;go_wp2_with (first|((with_reducible refine gate_callee (f:=123) rfl ?_);refine gB (some 16) Try.func123 #[.slice A1 l1.length c1] rfl ?_;(with_reducible refine(slices_Min_int_int.calls kj2 _ _ l1 t132 _ ?side1 ?side2 A9.out).mono ?_);(case side1=>exact cZ (Kd.C_below cg.out HB.out));(case side2=>exact ch.out);rintro e w14 ⟨rfl,hb⟩;refine⟨_,rfl,?_⟩;replace HB:=bW HB hb;clear hb));go_ret;exact⟨by first|rfl|(simp[*,errW_none,errW_some]<;>rfl),wZ HB⟩

/-! ### cmp_isNaN_int: function 175 -/
def cmp_isNaN_int.f (a0:Int):Option (Bool):=some (a0 !=a0)
set_option maxHeartbeats 8000000 in
set_option maxRecDepth 100000 in
theorem cmp_isNaN_int.calls (a0:Int) (r:Bool) (w:World) (h:cmp_isNaN_int.f a0=some r):
  Calls Try.prog 175 #[.int .i64 a0] w fun e w'=>e= .returned (.bool r)∧Drawn0 w w':=by
 have H:(some (a0 !=a0))=some r:=h;clear h;obtain rfl:=Option.some.inj H;go_enter Try.func175,Try.ntmps175;go_wp2;go_ret;exact⟨by first|rfl|(simp;done)|(simp[*];done),by repeat(first|exact Drawn0.refl _|apply Drawn0.step)⟩

/-! ### cmp_Less_int: function 161 -/
def cmp_Less_int.f (a0:Int) (a1:Int):Option (Bool):=(cmp_isNaN_int.f a0).bind fun t134=>(if t134=true then((cmp_isNaN_int.f a1).bind fun t135=>(if t135=true then(some (decide (a0<a1)))else(some true)))else(some (decide (a0<a1))))
set_option maxHeartbeats 8000000 in
set_option maxRecDepth 100000 in
theorem cmp_Less_int.calls (a0:Int) (a1:Int) (r:Bool) (w:World) (h:cmp_Less_int.f a0 a1=some r):
  Calls Try.prog 161 #[.int .i64 a0,.int .i64 a1] w fun e w'=>e= .returned (.bool r)∧Drawn0 w w':=by
 have H:((cmp_isNaN_int.f a0).bind fun t134=>(if t134=true then((cmp_isNaN_int.f a1).bind fun t135=>(if t135=true then(some (decide (a0<a1)))else(some true)))else(some (decide (a0<a1)))))=some r:=h;clear h;obtain⟨t134,A3,H⟩:=bE H;try dsimp only at H
 by_cases c4:t134=true
 ·subst c4;rw[if_pos rfl]at H;obtain⟨t135,A5,H⟩:=bE H;try dsimp only at H
  by_cases c6:t135=true
  ·subst c6;rw[if_pos rfl]at H;obtain rfl:=Option.some.inj H;go_enter Try.func161,Try.ntmps161;go_wp2_with (first|((with_reducible refine gate_callee (f:=175) rfl ?_);refine gB (some 6) Try.func175 #[.int .i64 a0] rfl ?_;(with_reducible refine(cmp_isNaN_int.calls a0 true _ A3.out).mono ?_);rintro e w' ⟨rfl,⟨nd,rfl⟩⟩;refine⟨_,rfl,?_⟩)|(go_at_call 175;(with_reducible refine(cmp_isNaN_int.calls a1 true _ A5.out).mono ?_);rintro e w' ⟨rfl,⟨nd,rfl⟩⟩));go_ret;exact⟨by first|rfl|(simp;done)|(simp[*];done),by repeat(first|exact Drawn0.refl _|apply Drawn0.step)⟩
  ·replace c6:=Bool.eq_false_iff.mpr c6;subst c6;rw[if_neg (show¬(false=true) by decide)]at H;obtain rfl:=Option.some.inj H;go_enter Try.func161,Try.ntmps161;go_wp2_with (first|((with_reducible refine gate_callee (f:=175) rfl ?_);refine gB (some 6) Try.func175 #[.int .i64 a0] rfl ?_;(with_reducible refine(cmp_isNaN_int.calls a0 true _ A3.out).mono ?_);rintro e w' ⟨rfl,⟨nd,rfl⟩⟩;refine⟨_,rfl,?_⟩)|(go_at_call 175;(with_reducible refine(cmp_isNaN_int.calls a1 false _ A5.out).mono ?_);rintro e w' ⟨rfl,⟨nd,rfl⟩⟩));go_ret;exact⟨by first|rfl|(simp;done)|(simp[*];done),by repeat(first|exact Drawn0.refl _|apply Drawn0.step)⟩
 ·replace c4:=Bool.eq_false_iff.mpr c4;subst c4;rw[if_neg (show¬(false=true) by decide)]at H;obtain rfl:=Option.some.inj H;go_enter Try.func161,Try.ntmps161;go_wp2_with (first|((with_reducible refine gate_callee (f:=175) rfl ?_);refine gB (some 6) Try.func175 #[.int .i64 a0] rfl ?_;(with_reducible refine(cmp_isNaN_int.calls a0 false _ A3.out).mono ?_);rintro e w' ⟨rfl,⟨nd,rfl⟩⟩;refine⟨_,rfl,?_⟩));go_ret;exact⟨by first|rfl|(simp;done)|(simp[*];done),by repeat(first|exact Drawn0.refl _|apply Drawn0.step)⟩

/-! ### slices_insertionSortOrdered_int: function 155 -/
mutual
def slices_insertionSortOrdered_int.l0:Nat→List Int→Int→Int→Int→Option (List Int)
 |0,_,_,_,_=>none
 |k+1,x0,x1,x2,x6=>if x6<x2 then(slices_insertionSortOrdered_int.l1 k x0 x1 x2 x6 x6)else(some x0)
def slices_insertionSortOrdered_int.l1:Nat→List Int→Int→Int→Int→Int→Option (List Int)
 |0,_,_,_,_,_=>none
 |k+1,x0,x1,x2,x6,x7=>if x7>x1 then(if 0≤x7 then(if x7<(x0.length:Int)then(if 0≤(wrap64 (x7 - 1))then(if(wrap64 (x7 - 1))<(x0.length:Int)then((cmp_Less_int.f (rd x0 x7) (rd x0 (wrap64 (x7 - 1)))).bind fun t138=>(if t138=true then(slices_insertionSortOrdered_int.l1 k ((x0.set (x7:Int).toNat (rd x0 (wrap64 (x7 - 1)))).set ((wrap64 (x7 - 1)):Int).toNat (rd x0 x7)) x1 x2 x6 (wrap64 (x7 - 1)))else(slices_insertionSortOrdered_int.l0 k x0 x1 x2 (wrap64 (x6+1)))))else(none))else(none))else(none))else(none))else(slices_insertionSortOrdered_int.l0 k x0 x1 x2 (wrap64 (x6+1)))
end
def slices_insertionSortOrdered_int.f (k:Nat) (l0:List Int) (a1:Int) (a2:Int):Option (List Int):=slices_insertionSortOrdered_int.l0 k l0 a1 a2 (wrap64 (a1+1))
theorem slices_insertionSortOrdered_int.mono_l:∀k,(∀y0 y1 y2 y3,LeO (slices_insertionSortOrdered_int.l0 k y0 y1 y2 y3) (slices_insertionSortOrdered_int.l0 (k+1) y0 y1 y2 y3))∧(∀y0 y1 y2 y3 y4,LeO (slices_insertionSortOrdered_int.l1 k y0 y1 y2 y3 y4) (slices_insertionSortOrdered_int.l1 (k+1) y0 y1 y2 y3 y4))
 |0=>⟨fun _ _ _ _ r h=>by simp[slices_insertionSortOrdered_int.l0]at h,fun _ _ _ _ _ r h=>by simp[slices_insertionSortOrdered_int.l1]at h⟩
 |k+1=>by
  obtain⟨aj,bD⟩:=slices_insertionSortOrdered_int.mono_l k;refine⟨?_,?_⟩
  ·intro y0 y1 y2 y3;unfold slices_insertionSortOrdered_int.l0;repeat' first
   |(with_reducible first|exact aj _ _ _ _|exact bD _ _ _ _ _|exact LeO.refl _|exact LeO.none _|refine LeO.ite ?_ ?_|refine LeO.bind ?_ (fun _=>?_))
   |refine LeO.ite ?_ ?_
   |refine LeO.bind ?_ (fun _=>?_)
  ·intro y0 y1 y2 y3 y4;unfold slices_insertionSortOrdered_int.l1;repeat' first
   |(with_reducible first|exact aj _ _ _ _|exact bD _ _ _ _ _|exact LeO.refl _|exact LeO.none _|refine LeO.ite ?_ ?_|refine LeO.bind ?_ (fun _=>?_))
   |refine LeO.ite ?_ ?_
   |refine LeO.bind ?_ (fun _=>?_)
theorem slices_insertionSortOrdered_int.mono:∀a0 a1 a2 k,LeO (slices_insertionSortOrdered_int.f k a0 a1 a2) (slices_insertionSortOrdered_int.f (k+1) a0 a1 a2):=by
 intro a0 a1 a2 k;obtain⟨aj,bD⟩:=slices_insertionSortOrdered_int.mono_l k;unfold slices_insertionSortOrdered_int.f
 repeat' first
   |(with_reducible first|exact aj _ _ _ _|exact bD _ _ _ _ _|exact LeO.refl _|exact LeO.none _|refine LeO.ite ?_ ?_|refine LeO.bind ?_ (fun _=>?_))
   |refine LeO.ite ?_ ?_
   |refine LeO.bind ?_ (fun _=>?_)
def slices_insertionSortOrdered_int.T4:Bool×List (List Nat×List Nat):=(true,[([],[]),([],[]),([0,1],[0,1]),([2],[2]),([3],[3]),([3],[3]),([4,5,3],[3,4,5]),([6,3],[3,6]),([3],[3]),([3],[3]),([9,3],[3,9]),([8,10,3],[3,8,10]),([11,3],[3,11]),([7,12,3,3],[3,7,12]),([3,13],[3,13])])
def slices_insertionSortOrdered_int.B4:List Nat:=[0,0,3,7,15,15,63,127,15,15,527,1807,3855,8191,16383]
theorem slices_insertionSortOrdered_int.tab4:rtab .any (opsOf Try.f155 4)=slices_insertionSortOrdered_int.T4:=by kernel_rfl
theorem slices_insertionSortOrdered_int.bits4:waitsOk slices_insertionSortOrdered_int.T4.2 slices_insertionSortOrdered_int.B4=true:=by kernel_rfl
def slices_insertionSortOrdered_int.T6:Bool×List (List Nat×List Nat):=(true,[([],[]),([],[]),([],[]),([],[]),([3],[3]),([],[]),([],[]),([6],[6]),([5,7],[5,7]),([8],[8]),([],[]),([],[]),([10,11],[10,11]),([12],[12]),([0,1,0,1,5,6,7,8,9,13],[0,1]),([14,9,0,1,5,6,7,8,9,13],[9,14]),([2,4,0,1,2,3,4,5,6,7,8,9,10,11,12,13,14,15],[2,4]),([16,13,15,0,1,2,3,4,5,6,7,8,9,10,11,12,13,14,15],[13,16])])
def slices_insertionSortOrdered_int.B6:List Nat:=[0,0,0,0,8,0,0,64,224,480,0,0,3072,7168,16355,32739,65535,131071]
theorem slices_insertionSortOrdered_int.tab6:rtab .any (opsOf Try.f155 6)=slices_insertionSortOrdered_int.T6:=by kernel_rfl
theorem slices_insertionSortOrdered_int.bits6:waitsOk slices_insertionSortOrdered_int.T6.2 slices_insertionSortOrdered_int.B6=true:=by kernel_rfl
set_option maxHeartbeats 8000000 in
set_option maxRecDepth 100000 in
theorem slices_insertionSortOrdered_int.calls (k:Nat) (ae:Nat→Prop) (J:Value) (l0:List Int) (a1:Int) (a2:Int) (r:List Int) (w0 w:World) (hB:Below w0.heap.size w0 w) (aC:Kd.R (Kd.int .i64) 3 w w0.heap.size ae J l0) (h:slices_insertionSortOrdered_int.f k l0 a1 a2=some r):
  Calls Try.prog 155 #[J,.int .i64 a1,.int .i64 a2] w fun e w'=>e= .returned (.tuple #[])∧Kd.R (Kd.int .i64) 3 w' w0.heap.size (fun k_=>(ae k_∨w.heap.size≤k_)) J r∧Below w0.heap.size w0 w'∧Kept w w' (fun k_=>ae k_):=by
 have aN:=Asd.mk (show Kd.R (Kd.int .i64) 3 w w0.heap.size (fun k_=>(ae k_∨w.heap.size≤k_)) J l0 from Kd.R_mono aC (fun k_ hk=>(.inl hk)));have HK:=Asd.mk (Kept.refl w (fun k_=>ae k_));have de:=Asd.mk hB.size;have HB:=Asd.mk hB;clear hB;have H:(slices_insertionSortOrdered_int.l0 k l0 a1 a2 (wrap64 (a1+1)))=some r:=h;clear h;have H':=Asd.mk H;clear H;go_enter Try.func155,Try.ntmps155;go_wp2;go_loopg [6] k (fun kq v6 w'=>∃(aT:List Int) (ao:Int),v6= .int .i64 ao∧Asd (slices_insertionSortOrdered_int.l0 kq aT a1 a2 ao=some r)∧Asd (kq≤k)∧Asd (Kd.R (Kd.int .i64) 3 w' w0.heap.size (fun k_=>(ae k_∨w.heap.size≤k_)) J aT)∧Asd (Kept w w' (fun k_=>ae k_))∧Asd (Below w0.heap.size w0 w'))
 case atStart=>exact⟨(l0),(wrap64 (a1+1)),(by first|rfl|(simp;done)|(simp[*];done)),H',⟨Nat.le_refl _⟩,⟨by(repeat apply Kd.RS);exact aN.out⟩,⟨by repeat(with_reducible first|exact HK.out|apply Kept.alloc|apply Kept.drewN|apply Kept.drew)⟩,⟨wZ HB⟩⟩
 case round=>
  clear H';obtain⟨aT,ao,rfl,HA,al,HO_0,HK,HB⟩:=hrel;cases gk with
  |zero=>exact absurd HA.out (by simp[slices_insertionSortOrdered_int.l0])
  |succ k1=>
   have H:=HA.out;clear HA;simp only[slices_insertionSortOrdered_int.l0]at H;rcases iT H with⟨c4,H⟩|⟨c4,H⟩
   ·have aD:=decide_eq_true c4;clear c4;have H':=Asd.mk H;clear H;go_wp2;go_loopg [7] k1 (fun kq v7 w'=>∃(I:List Int) (aa:Int),v7= .int .i64 aa∧Asd (slices_insertionSortOrdered_int.l1 kq I a1 a2 ao aa=some r)∧Asd (kq≤k1)∧Asd (Kd.R (Kd.int .i64) 3 w' w0.heap.size (fun k_=>(ae k_∨w.heap.size≤k_)) J I)∧Asd (Kept w w' (fun k_=>ae k_))∧Asd (Below w0.heap.size w0 w'))
    case atStart=>exact⟨(aT),(ao),(by first|rfl|(simp;done)|(simp[*];done)),H',⟨Nat.le_refl _⟩,⟨by(repeat apply Kd.RS);exact HO_0.out⟩,⟨by repeat(with_reducible first|exact HK.out|apply Kept.alloc|apply Kept.drewN|apply Kept.drew)⟩,⟨wZ HB⟩⟩
    case round=>
     clear H';obtain⟨I,aa,rfl,HA,aW,HO_0,HK,HB⟩:=hrel;cases gk with
     |zero=>exact absurd HA.out (by simp[slices_insertionSortOrdered_int.l1])
     |succ k2=>
      have H:=HA.out;clear HA;simp only[slices_insertionSortOrdered_int.l1]at H;rcases iT H with⟨c5,H⟩|⟨c5,H⟩
      ·have aS:=decide_eq_true c5;clear c5;obtain⟨c6,H⟩:=iN H;have bg:=decide_eq_true c6;clear c6;obtain⟨c7,H⟩:=iN H;have dr:=decide_eq_true c7;clear c7;obtain⟨ad,aF⟩:∃j_:Int,(wrap64 (aa - 1))=j_:=⟨_,rfl⟩;first|rw[aF]at H|simp only[aF]at H
       have df:(IntKind.i64.wrap (aa - 1))=ad:=(i64_w _).trans aF;obtain⟨c9,H⟩:=iN H;have dt:=decide_eq_true c9;clear c9;obtain⟨c10,H⟩:=iN H;have bk:=decide_eq_true c10;clear c10;obtain⟨t138,bB,H⟩:=bE H;try dsimp only at H
       by_cases bF:t138=true
       ·subst bF;rw[if_pos rfl]at H;obtain⟨bZ,aP⟩:∃y_:List Int,y_=(I.set (aa:Int).toNat (rd I (ad))):=⟨_,rfl⟩;replace H:(slices_insertionSortOrdered_int.l1 k2 (bZ.set ((ad):Int).toNat (rd I aa)) a1 a2 ao ad)=some r:=by first|(rw[aP];exact H)|exact H
        have cl:=Asd.mk aP;clear aP;obtain⟨b0,aQ⟩:∃y_:List Int,y_=(bZ.set ((ad):Int).toNat (rd I aa)):=⟨_,rfl⟩;replace H:(slices_insertionSortOrdered_int.l1 k2 b0 a1 a2 ao ad)=some r:=by first|(rw[aQ];exact H)|exact H
        have cm:=Asd.mk aQ;clear aQ;have H':=Asd.mk H;clear H;try go_wp2
        replace HO_0:=Asd.mk (Kd.R_drew HO_0.out);replace HK:=Asd.mk (Kept.drew HK.out);replace HB:=Asd.mk (bwD HB.out);obtain⟨du,cN,b1⟩:=Kd.R_slice HO_0.out;(first|subst b1|(injection b1 with f1_ f2_ f3_;have cn:=f1_.symm;have cp:=f3_.symm;clear f1_ f2_ f3_;subst cn;subst cp));have au:0≤(aa:Int):=odt;have av:aa<(I.length:Int):=odt;obtain⟨ai,bl,af⟩:=Kd.at_int (Kd.R_reads' HO_0.out).2.2 aa au av;cases bl;replace au:=eq_true au;replace av:=eq_true av;have aw:0≤((ad):Int):=odt;have ax:(ad)<(I.length:Int):=odt;obtain⟨aR,bn,ag⟩:=Kd.at_int (Kd.R_reads' HO_0.out).2.2 (ad) aw ax;obtain rfl:ai=aR:=(by injection bn);replace aw:=eq_true aw;replace ax:=eq_true ax;refine start_ (n:=15) (S:=fun w'=>w'.cell? (ai.add (aa).toNat)=some (.int .i64 (rd I aa))∧w'.cell? (ai.add ((ad)).toNat)=some (.int .i64 (rd I (ad)))) (ds:=[]) Mk13_0 (by kernel_rfl) rfl rfl ⟨af,ag⟩ (fun hHeld=>?_);refine with_tabW slices_insertionSortOrdered_int.tab4 slices_insertionSortOrdered_int.bits4 (fun o aH=>?_);generalize wr.drew=w15 at HO_0 HK HB af ag hHeld⊢;refine pure_ (i:=0) (N:=some 16) (v:=?_) (a':=?_) Mk13_1 rfl rfl (any_of o.out (by kernel_rfl)) (fun _ _ _ h=>h) (Or.inl ⟨by rfl,?_⟩) ?_ ?_;rotate_left
        ·intro w';go_simp;with_reducible rfl
        rotate_left
        ·simp only[Act.put,qA,qB,qC,i64_w,i32_w];rfl
        refine pure_ (i:=1) (N:=some 17) (v:=?_) (a':=?_) Mk13_2 rfl rfl (any_of o.out (by kernel_rfl)) (fun _ _ _ h=>h) (Or.inl ⟨by rfl,?_⟩) ?_ ?_;rotate_left
        ·intro w';go_simp;with_reducible rfl
        rotate_left
        ·simp only[Act.put,qA,qB,qC,i64_w,i32_w];rfl
        refine pure_ (i:=2) (N:=some 18) (v:=?_) (a':=?_) Mk13_3 rfl rfl (any_of o.out (by kernel_rfl)) (fun _ _ _ h=>h) (Or.inl ⟨by rfl,?_⟩) ?_ ?_;rotate_left
        ·intro w';go_simp;with_reducible rfl
        rotate_left
        ·simp only[Act.put,qA,qB,qC,i64_w,i32_w];rfl
        refine pure_ (i:=3) (N:=some 19) (v:=?_) (a':=?_) Mk13_4 rfl rfl (any_of o.out (by kernel_rfl)) (fun _ _ _ h=>h) (Or.inl ⟨by rfl,?_⟩) ?_ ?_;rotate_left
        ·intro w';go_simp;with_reducible rfl
        rotate_left
        ·simp only[Act.put,qA,qB,qC,i64_w,i32_w];rfl
        refine pure_ (i:=4) (N:=some 20) (v:=?_) (a':=?_) Mk13_5 rfl rfl (any_of o.out (by kernel_rfl)) (fun _ _ _ h=>h) (Or.inl ⟨by rfl,?_⟩) ?_ ?_;rotate_left
        ·intro w';go_simp;with_reducible rfl
        rotate_left
        ·simp only[Act.put,qA,qB,qC,i64_w,i32_w];rfl
        refine pure_ (i:=5) (N:=some 21) (v:=?_) (a':=?_) Mk13_6 rfl rfl (any_of o.out (by kernel_rfl)) (fun _ _ _ h=>h) (Or.inl ⟨by rfl,?_⟩) ?_ ?_;rotate_left
        ·intro w';go_simp;with_reducible rfl
        rotate_left
        ·simp only[Act.put,qA,qB,qC,i64_w,i32_w];rfl
        refine pure_ (i:=6) (N:=some 22) (v:=?_) (a':=?_) Mk13_7 rfl rfl (any_of o.out (by kernel_rfl)) (fun _ _ _ h=>h) (Or.inl ⟨by rfl,?_⟩) ?_ ?_;rotate_left
        ·intro w';go_simp;with_reducible rfl
        rotate_left
        ·simp only[Act.put,qA,qB,qC,i64_w,i32_w];rfl
        refine pure_ (i:=8) (N:=some 24) (v:=?_) (a':=?_) Mk13_8 rfl rfl (any_of o.out (by kernel_rfl)) (fun _ _ _ h=>h) (Or.inl ⟨by rfl,?_⟩) ?_ ?_;rotate_left
        ·intro w';go_simp;with_reducible rfl
        rotate_left
        ·simp only[Act.put,qA,qB,qC,i64_w,i32_w];rfl
        refine pure_ (i:=9) (N:=some 25) (v:=?_) (a':=?_) Mk13_9 rfl rfl (any_of o.out (by kernel_rfl)) (fun _ _ _ h=>h) (Or.inl ⟨by rfl,?_⟩) ?_ ?_;rotate_left
        ·intro w';go_simp;with_reducible rfl
        rotate_left
        ·simp only[Act.put,qA,qB,qC,i64_w,i32_w];rfl
        refine pure_ (i:=10) (N:=some 26) (v:=?_) (a':=?_) Mk13_10 rfl rfl (any_of o.out (by kernel_rfl)) (fun _ _ _ h=>h) (Or.inl ⟨by rfl,?_⟩) ?_ ?_;rotate_left
        ·intro w';go_simp;with_reducible rfl
        rotate_left
        ·simp only[Act.put,qA,qB,qC,i64_w,i32_w];rfl
        refine pure_ (i:=11) (N:=some 27) (v:=?_) (a':=?_) Mk13_11 rfl rfl (any_of o.out (by kernel_rfl)) (fun _ _ _ h=>h) (Or.inl ⟨by rfl,?_⟩) ?_ ?_;rotate_left
        ·intro w';go_simp;with_reducible rfl
        rotate_left
        ·simp only[Act.put,qA,qB,qC,i64_w,i32_w];rfl
        refine take_ (i:=7) (N:=some 23) (v:=?_) (a':=?_) Mk13_12 rfl rfl (take_ofW o.out aH.out (by kernel_rfl)) (fun _ _ _ h=>h) (Or.inl ⟨by rfl,?_⟩) hHeld ?_ ?_;rotate_left
        ·rintro w' ⟨s0,s1⟩;go_simp;with_reducible rfl
        rotate_left
        ·simp only[Act.put,qA,qB,qC,i64_w,i32_w];rfl
        refine take_ (i:=12) (N:=some 28) (v:=?_) (a':=?_) Mk13_13 rfl rfl (take_ofW o.out aH.out (by kernel_rfl)) (fun _ _ _ h=>h) (Or.inl ⟨by rfl,?_⟩) hHeld ?_ ?_;rotate_left
        ·rintro w' ⟨s0,s1⟩;go_simp;with_reducible rfl
        rotate_left
        ·simp only[Act.put,qA,qB,qC,i64_w,i32_w];rfl
        refine one_ (i:=13) (N:=some 29) Mk13_14 rfl rfl (one_of o.out (by kernel_rfl)) (by decide) (fun K hK=>?_);refine goes_ Try.func161 (by kernel_rfl) rfl #[.int .i64 (rd I aa),.int .i64 (rd I (ad))] (by rfl) rfl rfl (by(try simp only[List.map_toArray,List.map_cons,List.map_nil]);first|done|(simp only[aF];rfl)|rfl|(simp only[List.length_drop,List.length_take];rfl)) ?_;with_reducible refine(cmp_Less_int.calls (rd I aa) (rd I (ad)) true _ bB.out).mono ?_
        rintro e w' ⟨rfl,⟨nd,rfl⟩⟩;refine⟨_,rfl,?_⟩;refine hK.out _ _ ⟨hHeld.1,hHeld.2⟩ (fun hHeld=>?_);clear hK K;refine norm_ (a':=?_) ?_ ?_;rotate_left
        ·show Act.put _ (some 29) _=_
         simp only[Act.put,qA,qB,qC,i64_w,i32_w];rfl
        refine pure_ (i:=14) (N:=some 30) (v:=?_) (a':=?_) Mk13_15 rfl rfl (any_of o.out (by kernel_rfl)) (fun _ _ _ h=>h) (Or.inl ⟨by rfl,?_⟩) ?_ ?_;rotate_left
        ·intro w';go_simp;with_reducible rfl
        rotate_left
        ·simp only[Act.put,qA,qB,qC,i64_w,i32_w];rfl
        refine done_ (done_of o.out (by kernel_rfl)) ?_;try go_wp2
        (try(rw[drewN_self w15];generalize hq_:World.drewN w15 _=w15;replace HO_0:Asd (Kd.R (Kd.int .i64) 3 w15 w0.heap.size (fun k_=>(ae k_∨w.heap.size≤k_)) (.slice (some ai) I.length cN) I):=⟨by rw[←hq_];exact(rS HO_0)⟩;replace HK:Asd (Kept w w15 (fun k_=>ae k_)):=⟨by rw[←hq_];exact(by repeat(with_reducible first|exact HK.out|apply Kept.alloc|apply Kept.drewN|apply Kept.drew))⟩;replace HB:Asd (Below w0.heap.size w0 w15):=⟨by rw[←hq_];exact(wZ HB)⟩;clear hq_));replace HO_0:=Asd.mk (Kd.R_drew HO_0.out);replace HK:=Asd.mk (Kept.drew HK.out);replace HB:=Asd.mk (bwD HB.out);have bo:0≤((ad):Int):=odt;have bp:(ad)<(I.length:Int):=odt;obtain⟨cq,cO,ay⟩:=Kd.at_int (Kd.R_reads' HO_0.out).2.2 (ad) bo bp;obtain rfl:ai=cq:=(by injection cO);replace bo:=eq_true bo;replace bp:=eq_true bp;have bq:0≤(aa:Int):=odt;have br:aa<(I.length:Int):=odt;obtain⟨cr,cP,az⟩:=Kd.at_int (Kd.R_reads' HO_0.out).2.2 aa bq br;obtain rfl:ai=cr:=(by injection cP);replace bq:=eq_true bq;replace br:=eq_true br;have ct:0≤(aa:Int):=odt;have cu:(aa:Int)<((I.length:Int):Int):=odt;obtain⟨aU,dv,b4,b5,cQ,dw,b6⟩:=Kd.R_form HO_0.out (by omega);(first|cases b4|(injection b4 with ea_ en_ ec_;(first|subst ea_|(injection ea_ with ea_;subst ea_));subst ec_;clear en_));have dx:=Asd.mk b5;have cR:=Asd.mk b6;clear b5 cQ b6;have aV:=Asd.mk (show(ae aU∨w.heap.size≤aU) from(HO_0.out.1 _ rfl));(first|simp only[add_plain]at af|skip);(first|simp only[add_plain]at ag|skip);(first|simp only[add_plain]at ay|skip);(first|simp only[add_plain]at az|skip);obtain⟨bH,bJ⟩:=Kd.R_celln 0 HO_0.out (aa:Int) ct cu;replace ct:=eq_true ct;replace cu:=eq_true cu;have bs:=Kd.R_putn HO_0.out (aa:Int) (rd I (ad));rw[←cl.out]at bs;have bu:=Asd.mk bs;clear bs;have cv:0≤((ad):Int):=odt;have cw:((ad):Int)<((I.length:Int):Int):=odt;obtain⟨bO,bT⟩:=Kd.R_celln 0 bu.out ((ad):Int) cv cw;replace cv:=eq_true cv;replace cw:=eq_true cw;have bw:=Kd.R_putn bu.out ((ad):Int) (rd I aa);rw[←cm.out]at bw;have b7:=Asd.mk bw;clear bw;refine start_ (n:=18) (S:=fun w'=>w'.cell? ⟨aU,((ad)).toNat,none⟩=some (.int .i64 (rd I (ad)))∧w'.cell? ⟨aU,(aa).toNat,none⟩=some (.int .i64 (rd I aa))) (ds:=[15,17]) #[false,false,false,false,false,false,false,false,false,false,false,false,false,false,false,false,false,false] (by kernel_rfl) rfl rfl ⟨ay,az⟩ (fun hHeld=>?_);refine with_tabW slices_insertionSortOrdered_int.tab6 slices_insertionSortOrdered_int.bits6 (fun o aH=>?_);generalize w15.drew=w17 at HO_0 HK HB cR bu b7 bJ bT af ag ay bH az bO hHeld⊢;refine pure_ (i:=0) (N:=some 33) (v:=?_) (a':=?_) #[true,false,false,false,false,false,false,false,false,false,false,false,false,false,false,false,false,false] rfl rfl (any_of o.out (by kernel_rfl)) (fun _ _ _ h=>h) (Or.inl ⟨by rfl,?_⟩) ?_ ?_;rotate_left
        ·intro w';go_simp;with_reducible rfl
        rotate_left
        ·simp only[Act.put,qA,qB,qC,i64_w,i32_w];rfl
        refine pure_ (i:=1) (N:=some 34) (v:=?_) (a':=?_) #[true,true,false,false,false,false,false,false,false,false,false,false,false,false,false,false,false,false] rfl rfl (any_of o.out (by kernel_rfl)) (fun _ _ _ h=>h) (Or.inl ⟨by rfl,?_⟩) ?_ ?_;rotate_left
        ·intro w';go_simp;with_reducible rfl
        rotate_left
        ·simp only[Act.put,qA,qB,qC,i64_w,i32_w];rfl
        refine pure_ (i:=2) (N:=some 35) (v:=?_) (a':=?_) #[true,true,true,false,false,false,false,false,false,false,false,false,false,false,false,false,false,false] rfl rfl (any_of o.out (by kernel_rfl)) (fun _ _ _ h=>h) (Or.inl ⟨by rfl,?_⟩) ?_ ?_;rotate_left
        ·intro w';go_simp;with_reducible rfl
        rotate_left
        ·simp only[Act.put,qA,qB,qC,i64_w,i32_w];rfl
        refine pure_ (i:=3) (N:=some 36) (v:=?_) (a':=?_) #[true,true,true,true,false,false,false,false,false,false,false,false,false,false,false,false,false,false] rfl rfl (any_of o.out (by kernel_rfl)) (fun _ _ _ h=>h) (Or.inl ⟨by rfl,?_⟩) ?_ ?_;rotate_left
        ·intro w';go_simp;with_reducible rfl
        rotate_left
        ·simp only[Act.put,qA,qB,qC,i64_w,i32_w];rfl
        refine pure_ (i:=4) (N:=some 37) (v:=?_) (a':=?_) #[true,true,true,true,true,false,false,false,false,false,false,false,false,false,false,false,false,false] rfl rfl (any_of o.out (by kernel_rfl)) (fun _ _ _ h=>h) (Or.inl ⟨by rfl,?_⟩) ?_ ?_;rotate_left
        ·intro w';go_simp;with_reducible rfl
        rotate_left
        ·simp only[Act.put,qA,qB,qC,i64_w,i32_w];rfl
        refine pure_ (i:=5) (N:=some 38) (v:=?_) (a':=?_) #[true,true,true,true,true,true,false,false,false,false,false,false,false,false,false,false,false,false] rfl rfl (any_of o.out (by kernel_rfl)) (fun _ _ _ h=>h) (Or.inl ⟨by rfl,?_⟩) ?_ ?_;rotate_left
        ·intro w';go_simp;with_reducible rfl
        rotate_left
        ·simp only[Act.put,qA,qB,qC,i64_w,i32_w];rfl
        refine pure_ (i:=6) (N:=some 39) (v:=?_) (a':=?_) #[true,true,true,true,true,true,true,false,false,false,false,false,false,false,false,false,false,false] rfl rfl (any_of o.out (by kernel_rfl)) (fun _ _ _ h=>h) (Or.inl ⟨by rfl,?_⟩) ?_ ?_;rotate_left
        ·intro w';go_simp;with_reducible rfl
        rotate_left
        ·simp only[Act.put,qA,qB,qC,i64_w,i32_w];rfl
        refine pure_ (i:=7) (N:=some 40) (v:=?_) (a':=?_) #[true,true,true,true,true,true,true,true,false,false,false,false,false,false,false,false,false,false] rfl rfl (any_of o.out (by kernel_rfl)) (fun _ _ _ h=>h) (Or.inl ⟨by rfl,?_⟩) ?_ ?_;rotate_left
        ·intro w';go_simp;with_reducible rfl
        rotate_left
        ·simp only[Act.put,qA,qB,qC,i64_w,i32_w];rfl
        refine pure_ (i:=8) (N:=some 41) (v:=?_) (a':=?_) #[true,true,true,true,true,true,true,true,true,false,false,false,false,false,false,false,false,false] rfl rfl (any_of o.out (by kernel_rfl)) (fun _ _ _ h=>h) (Or.inl ⟨by rfl,?_⟩) ?_ ?_;rotate_left
        ·intro w';go_simp;with_reducible rfl
        rotate_left
        ·simp only[Act.put,qA,qB,qC,i64_w,i32_w];rfl
        refine pure_ (i:=10) (N:=some 43) (v:=?_) (a':=?_) #[true,true,true,true,true,true,true,true,true,false,true,false,false,false,false,false,false,false] rfl rfl (any_of o.out (by kernel_rfl)) (fun _ _ _ h=>h) (Or.inl ⟨by rfl,?_⟩) ?_ ?_;rotate_left
        ·intro w';go_simp;with_reducible rfl
        rotate_left
        ·simp only[Act.put,qA,qB,qC,i64_w,i32_w];rfl
        refine pure_ (i:=11) (N:=some 44) (v:=?_) (a':=?_) #[true,true,true,true,true,true,true,true,true,false,true,true,false,false,false,false,false,false] rfl rfl (any_of o.out (by kernel_rfl)) (fun _ _ _ h=>h) (Or.inl ⟨by rfl,?_⟩) ?_ ?_;rotate_left
        ·intro w';go_simp;with_reducible rfl
        rotate_left
        ·simp only[Act.put,qA,qB,qC,i64_w,i32_w];rfl
        refine pure_ (i:=12) (N:=some 45) (v:=?_) (a':=?_) #[true,true,true,true,true,true,true,true,true,false,true,true,true,false,false,false,false,false] rfl rfl (any_of o.out (by kernel_rfl)) (fun _ _ _ h=>h) (Or.inl ⟨by rfl,?_⟩) ?_ ?_;rotate_left
        ·intro w';go_simp;with_reducible rfl
        rotate_left
        ·simp only[Act.put,qA,qB,qC,i64_w,i32_w];rfl
        refine take_ (i:=9) (N:=some 42) (v:=?_) (a':=?_) #[true,true,true,true,true,true,true,true,true,true,true,true,true,false,false,false,false,false] rfl rfl (take_ofW o.out aH.out (by kernel_rfl)) (fun _ _ _ h=>h) (Or.inl ⟨by rfl,?_⟩) hHeld ?_ ?_;rotate_left
        ·rintro w' ⟨s0,s1⟩;go_simp;with_reducible rfl
        rotate_left
        ·simp only[Act.put,qA,qB,qC,i64_w,i32_w];rfl
        refine take_ (i:=13) (N:=some 46) (v:=?_) (a':=?_) #[true,true,true,true,true,true,true,true,true,true,true,true,true,true,false,false,false,false] rfl rfl (take_ofW o.out aH.out (by kernel_rfl)) (fun _ _ _ h=>h) (Or.inl ⟨by rfl,?_⟩) hHeld ?_ ?_;rotate_left
        ·rintro w' ⟨s0,s1⟩;go_simp;with_reducible rfl
        rotate_left
        ·simp only[Act.put,qA,qB,qC,i64_w,i32_w];rfl
        refine pure_ (i:=14) (N:=some 47) (v:=?_) (a':=?_) #[true,true,true,true,true,true,true,true,true,true,true,true,true,true,true,false,false,false] rfl rfl (any_of o.out (by kernel_rfl)) (fun _ _ _ h=>h) (Or.inl ⟨by rfl,?_⟩) ?_ ?_;rotate_left
        ·intro w';go_simp;with_reducible rfl
        rotate_left
        ·simp only[Act.put,qA,qB,qC,i64_w,i32_w];rfl
        refine last_ (i:=15) (N:=none) #[true,true,true,true,true,true,true,true,true,true,true,true,true,true,true,true,false,false] rfl rfl (one_of o.out (by kernel_rfl)) (by decide) (fun K hK=>?_);refine skip_ (w1:=?_) (by rfl) rfl ?_ ?_;rotate_left
        ·go_simp;rfl
        refine hK.out _ _ ?_;clear hK K;refine pure_ (i:=16) (N:=some 48) (v:=?_) (a':=?_) #[true,true,true,true,true,true,true,true,true,true,true,true,true,true,true,true,true,false] rfl rfl (any_of o.out (by kernel_rfl)) (fun _ _ _ h=>h) (Or.inl ⟨by rfl,?_⟩) ?_ ?_;rotate_left
        ·intro w';go_simp;with_reducible rfl
        rotate_left
        ·simp only[Act.put,qA,qB,qC,i64_w,i32_w];rfl
        refine last_ (i:=17) (N:=none) #[true,true,true,true,true,true,true,true,true,true,true,true,true,true,true,true,true,true] rfl rfl (one_of o.out (by kernel_rfl)) (by decide) (fun K hK=>?_);refine skip_ (w1:=?_) (by rfl) rfl ?_ ?_;rotate_left
        ·go_simp;rfl
        refine hK.out _ _ ?_;clear hK K;refine done_ (done_of o.out (by kernel_rfl)) ?_;try go_wp2
        go_roundg k2
        case measure=>have:=al.out;have:=aW.out;omega
        case rel=>exact⟨(b0),(ad),(by first|rfl|(simp;done)|(simp only[←aF]<;>(first|rfl|simp))|(simp[*];done)),H',⟨by have:=al.out;have:=aW.out;omega⟩,⟨by(repeat apply Kd.RS);exact b7.out⟩,⟨by repeat(with_reducible first|exact HK.out|apply Kept.alloc|apply Kept.drewN|apply Kept.drew|refine Kept.setCell ?_ aV.out _|refine Kept.setCell ?_ aV.out _)⟩,⟨wZ HB⟩⟩
       ·replace bF:=Bool.eq_false_iff.mpr bF;subst bF;rw[if_neg (show¬(false=true) by decide)]at H;have H':=Asd.mk H;clear H;try go_wp2
        replace HO_0:=Asd.mk (Kd.R_drew HO_0.out);replace HK:=Asd.mk (Kept.drew HK.out);replace HB:=Asd.mk (bwD HB.out);obtain⟨dy,dz,b8⟩:=Kd.R_slice HO_0.out;(first|subst b8|(injection b8 with f1_ f2_ f3_;have cn:=f1_.symm;have cp:=f3_.symm;clear f1_ f2_ f3_;subst cn;subst cp));have au:0≤(aa:Int):=odt;have av:aa<(I.length:Int):=odt;obtain⟨ai,bl,af⟩:=Kd.at_int (Kd.R_reads' HO_0.out).2.2 aa au av;cases bl;replace au:=eq_true au;replace av:=eq_true av;have aw:0≤((ad):Int):=odt;have ax:(ad)<(I.length:Int):=odt;obtain⟨aR,bn,ag⟩:=Kd.at_int (Kd.R_reads' HO_0.out).2.2 (ad) aw ax;obtain rfl:ai=aR:=(by injection bn);replace aw:=eq_true aw;replace ax:=eq_true ax;refine start_ (n:=15) (S:=fun w'=>w'.cell? (ai.add (aa).toNat)=some (.int .i64 (rd I aa))∧w'.cell? (ai.add ((ad)).toNat)=some (.int .i64 (rd I (ad)))) (ds:=[]) Mk13_0 (by kernel_rfl) rfl rfl ⟨af,ag⟩ (fun hHeld=>?_);refine with_tabW slices_insertionSortOrdered_int.tab4 slices_insertionSortOrdered_int.bits4 (fun o aH=>?_);generalize wr.drew=dB at HO_0 HK HB af ag hHeld⊢;refine pure_ (i:=0) (N:=some 16) (v:=?_) (a':=?_) Mk13_1 rfl rfl (any_of o.out (by kernel_rfl)) (fun _ _ _ h=>h) (Or.inl ⟨by rfl,?_⟩) ?_ ?_;rotate_left
        ·intro w';go_simp;with_reducible rfl
        rotate_left
        ·simp only[Act.put,qA,qB,qC,i64_w,i32_w];rfl
        refine pure_ (i:=1) (N:=some 17) (v:=?_) (a':=?_) Mk13_2 rfl rfl (any_of o.out (by kernel_rfl)) (fun _ _ _ h=>h) (Or.inl ⟨by rfl,?_⟩) ?_ ?_;rotate_left
        ·intro w';go_simp;with_reducible rfl
        rotate_left
        ·simp only[Act.put,qA,qB,qC,i64_w,i32_w];rfl
        refine pure_ (i:=2) (N:=some 18) (v:=?_) (a':=?_) Mk13_3 rfl rfl (any_of o.out (by kernel_rfl)) (fun _ _ _ h=>h) (Or.inl ⟨by rfl,?_⟩) ?_ ?_;rotate_left
        ·intro w';go_simp;with_reducible rfl
        rotate_left
        ·simp only[Act.put,qA,qB,qC,i64_w,i32_w];rfl
        refine pure_ (i:=3) (N:=some 19) (v:=?_) (a':=?_) Mk13_4 rfl rfl (any_of o.out (by kernel_rfl)) (fun _ _ _ h=>h) (Or.inl ⟨by rfl,?_⟩) ?_ ?_;rotate_left
        ·intro w';go_simp;with_reducible rfl
        rotate_left
        ·simp only[Act.put,qA,qB,qC,i64_w,i32_w];rfl
        refine pure_ (i:=4) (N:=some 20) (v:=?_) (a':=?_) Mk13_5 rfl rfl (any_of o.out (by kernel_rfl)) (fun _ _ _ h=>h) (Or.inl ⟨by rfl,?_⟩) ?_ ?_;rotate_left
        ·intro w';go_simp;with_reducible rfl
        rotate_left
        ·simp only[Act.put,qA,qB,qC,i64_w,i32_w];rfl
        refine pure_ (i:=5) (N:=some 21) (v:=?_) (a':=?_) Mk13_6 rfl rfl (any_of o.out (by kernel_rfl)) (fun _ _ _ h=>h) (Or.inl ⟨by rfl,?_⟩) ?_ ?_;rotate_left
        ·intro w';go_simp;with_reducible rfl
        rotate_left
        ·simp only[Act.put,qA,qB,qC,i64_w,i32_w];rfl
        refine pure_ (i:=6) (N:=some 22) (v:=?_) (a':=?_) Mk13_7 rfl rfl (any_of o.out (by kernel_rfl)) (fun _ _ _ h=>h) (Or.inl ⟨by rfl,?_⟩) ?_ ?_;rotate_left
        ·intro w';go_simp;with_reducible rfl
        rotate_left
        ·simp only[Act.put,qA,qB,qC,i64_w,i32_w];rfl
        refine pure_ (i:=8) (N:=some 24) (v:=?_) (a':=?_) Mk13_8 rfl rfl (any_of o.out (by kernel_rfl)) (fun _ _ _ h=>h) (Or.inl ⟨by rfl,?_⟩) ?_ ?_;rotate_left
        ·intro w';go_simp;with_reducible rfl
        rotate_left
        ·simp only[Act.put,qA,qB,qC,i64_w,i32_w];rfl
        refine pure_ (i:=9) (N:=some 25) (v:=?_) (a':=?_) Mk13_9 rfl rfl (any_of o.out (by kernel_rfl)) (fun _ _ _ h=>h) (Or.inl ⟨by rfl,?_⟩) ?_ ?_;rotate_left
        ·intro w';go_simp;with_reducible rfl
        rotate_left
        ·simp only[Act.put,qA,qB,qC,i64_w,i32_w];rfl
        refine pure_ (i:=10) (N:=some 26) (v:=?_) (a':=?_) Mk13_10 rfl rfl (any_of o.out (by kernel_rfl)) (fun _ _ _ h=>h) (Or.inl ⟨by rfl,?_⟩) ?_ ?_;rotate_left
        ·intro w';go_simp;with_reducible rfl
        rotate_left
        ·simp only[Act.put,qA,qB,qC,i64_w,i32_w];rfl
        refine pure_ (i:=11) (N:=some 27) (v:=?_) (a':=?_) Mk13_11 rfl rfl (any_of o.out (by kernel_rfl)) (fun _ _ _ h=>h) (Or.inl ⟨by rfl,?_⟩) ?_ ?_;rotate_left
        ·intro w';go_simp;with_reducible rfl
        rotate_left
        ·simp only[Act.put,qA,qB,qC,i64_w,i32_w];rfl
        refine take_ (i:=7) (N:=some 23) (v:=?_) (a':=?_) Mk13_12 rfl rfl (take_ofW o.out aH.out (by kernel_rfl)) (fun _ _ _ h=>h) (Or.inl ⟨by rfl,?_⟩) hHeld ?_ ?_;rotate_left
        ·rintro w' ⟨s0,s1⟩;go_simp;with_reducible rfl
        rotate_left
        ·simp only[Act.put,qA,qB,qC,i64_w,i32_w];rfl
        refine take_ (i:=12) (N:=some 28) (v:=?_) (a':=?_) Mk13_13 rfl rfl (take_ofW o.out aH.out (by kernel_rfl)) (fun _ _ _ h=>h) (Or.inl ⟨by rfl,?_⟩) hHeld ?_ ?_;rotate_left
        ·rintro w' ⟨s0,s1⟩;go_simp;with_reducible rfl
        rotate_left
        ·simp only[Act.put,qA,qB,qC,i64_w,i32_w];rfl
        refine one_ (i:=13) (N:=some 29) Mk13_14 rfl rfl (one_of o.out (by kernel_rfl)) (by decide) (fun K hK=>?_);refine goes_ Try.func161 (by kernel_rfl) rfl #[.int .i64 (rd I aa),.int .i64 (rd I (ad))] (by rfl) rfl rfl (by(try simp only[List.map_toArray,List.map_cons,List.map_nil]);first|done|(simp only[aF];rfl)|rfl|(simp only[List.length_drop,List.length_take];rfl)) ?_;with_reducible refine(cmp_Less_int.calls (rd I aa) (rd I (ad)) false _ bB.out).mono ?_
        rintro e w' ⟨rfl,⟨nd,rfl⟩⟩;refine⟨_,rfl,?_⟩;refine hK.out _ _ ⟨hHeld.1,hHeld.2⟩ (fun hHeld=>?_);clear hK K;refine norm_ (a':=?_) ?_ ?_;rotate_left
        ·show Act.put _ (some 29) _=_
         simp only[Act.put,qA,qB,qC,i64_w,i32_w];rfl
        refine pure_ (i:=14) (N:=some 30) (v:=?_) (a':=?_) Mk13_15 rfl rfl (any_of o.out (by kernel_rfl)) (fun _ _ _ h=>h) (Or.inl ⟨by rfl,?_⟩) ?_ ?_;rotate_left
        ·intro w';go_simp;with_reducible rfl
        rotate_left
        ·simp only[Act.put,qA,qB,qC,i64_w,i32_w];rfl
        refine done_ (done_of o.out (by kernel_rfl)) ?_;try go_wp2
        go_roundg k2
        case measure=>have:=al.out;have:=aW.out;omega
        case rel=>exact⟨(I),(wrap64 (ao+1)),(by first|rfl|(simp;done)|(simp[*];done)),H',⟨by have:=al.out;have:=aW.out;omega⟩,⟨by(repeat apply Kd.RS);exact HO_0.out⟩,⟨by repeat(with_reducible first|exact HK.out|apply Kept.alloc|apply Kept.drewN|apply Kept.drew)⟩,⟨wZ HB⟩⟩
      ·have aS:=decide_eq_false c5;clear c5;have H':=Asd.mk H;clear H;try go_wp2
       replace HO_0:=Asd.mk (Kd.R_drew HO_0.out);replace HK:=Asd.mk (Kept.drew HK.out);replace HB:=Asd.mk (bwD HB.out);refine start_ (n:=15) (S:=fun w'=>True) (ds:=[]) Mk13_0 (by kernel_rfl) rfl rfl trivial (fun hHeld=>?_);refine with_tabW slices_insertionSortOrdered_int.tab4 slices_insertionSortOrdered_int.bits4 (fun o aH=>?_);generalize wr.drew=dC at HO_0 HK HB hHeld⊢;refine pure_ (i:=0) (N:=some 16) (v:=?_) (a':=?_) Mk13_1 rfl rfl (any_of o.out (by kernel_rfl)) (fun _ _ _ h=>h) (Or.inl ⟨by rfl,?_⟩) ?_ ?_;rotate_left
       ·intro w';go_simp;with_reducible rfl
       rotate_left
       ·simp only[Act.put,qA,qB,qC,i64_w,i32_w];rfl
       refine pure_ (i:=1) (N:=some 17) (v:=?_) (a':=?_) Mk13_2 rfl rfl (any_of o.out (by kernel_rfl)) (fun _ _ _ h=>h) (Or.inl ⟨by rfl,?_⟩) ?_ ?_;rotate_left
       ·intro w';go_simp;with_reducible rfl
       rotate_left
       ·simp only[Act.put,qA,qB,qC,i64_w,i32_w];rfl
       refine pure_ (i:=2) (N:=some 18) (v:=?_) (a':=?_) Mk13_3 rfl rfl (any_of o.out (by kernel_rfl)) (fun _ _ _ h=>h) (Or.inl ⟨by rfl,?_⟩) ?_ ?_;rotate_left
       ·intro w';go_simp;with_reducible rfl
       rotate_left
       ·simp only[Act.put,qA,qB,qC,i64_w,i32_w];rfl
       refine pure_ (i:=3) (N:=some 19) (v:=?_) (a':=?_) Mk13_4 rfl rfl (any_of o.out (by kernel_rfl)) (fun _ _ _ h=>h) (Or.inl ⟨by rfl,?_⟩) ?_ ?_;rotate_left
       ·intro w';go_simp;with_reducible rfl
       rotate_left
       ·simp only[Act.put,qA,qB,qC,i64_w,i32_w];rfl
       refine pure_ (i:=4) (N:=some 20) (v:=undef) (a':=?_) Mk13_5 rfl rfl (any_of o.out (by kernel_rfl)) (fun _ _ _ h=>h) (Or.inr ⟨by rfl,rfl⟩) ?_ ?_;rotate_left
       ·simp only[Act.put,qA,qB,qC,i64_w,i32_w];rfl
       refine pure_ (i:=5) (N:=some 21) (v:=undef) (a':=?_) Mk13_6 rfl rfl (any_of o.out (by kernel_rfl)) (fun _ _ _ h=>h) (Or.inr ⟨by rfl,rfl⟩) ?_ ?_;rotate_left
       ·simp only[Act.put,qA,qB,qC,i64_w,i32_w];rfl
       refine pure_ (i:=6) (N:=some 22) (v:=undef) (a':=?_) Mk13_7 rfl rfl (any_of o.out (by kernel_rfl)) (fun _ _ _ h=>h) (Or.inr ⟨by rfl,rfl⟩) ?_ ?_;rotate_left
       ·simp only[Act.put,qA,qB,qC,i64_w,i32_w];rfl
       refine pure_ (i:=7) (N:=some 23) (v:=undef) (a':=?_) #[true,true,true,true,true,true,true,true,false,false,false,false,false,false,false] rfl rfl (any_of o.out (by kernel_rfl)) (fun _ _ _ h=>h) (Or.inr ⟨by rfl,rfl⟩) ?_ ?_;rotate_left
       ·simp only[Act.put,qA,qB,qC,i64_w,i32_w];rfl
       refine pure_ (i:=8) (N:=some 24) (v:=undef) (a':=?_) #[true,true,true,true,true,true,true,true,true,false,false,false,false,false,false] rfl rfl (any_of o.out (by kernel_rfl)) (fun _ _ _ h=>h) (Or.inr ⟨by rfl,rfl⟩) ?_ ?_;rotate_left
       ·simp only[Act.put,qA,qB,qC,i64_w,i32_w];rfl
       refine pure_ (i:=9) (N:=some 25) (v:=undef) (a':=?_) #[true,true,true,true,true,true,true,true,true,true,false,false,false,false,false] rfl rfl (any_of o.out (by kernel_rfl)) (fun _ _ _ h=>h) (Or.inr ⟨by rfl,rfl⟩) ?_ ?_;rotate_left
       ·simp only[Act.put,qA,qB,qC,i64_w,i32_w];rfl
       refine pure_ (i:=10) (N:=some 26) (v:=undef) (a':=?_) #[true,true,true,true,true,true,true,true,true,true,true,false,false,false,false] rfl rfl (any_of o.out (by kernel_rfl)) (fun _ _ _ h=>h) (Or.inr ⟨by rfl,rfl⟩) ?_ ?_;rotate_left
       ·simp only[Act.put,qA,qB,qC,i64_w,i32_w];rfl
       refine pure_ (i:=11) (N:=some 27) (v:=undef) (a':=?_) Mk13_12 rfl rfl (any_of o.out (by kernel_rfl)) (fun _ _ _ h=>h) (Or.inr ⟨by rfl,rfl⟩) ?_ ?_;rotate_left
       ·simp only[Act.put,qA,qB,qC,i64_w,i32_w];rfl
       refine pure_ (i:=12) (N:=some 28) (v:=undef) (a':=?_) Mk13_13 rfl rfl (any_of o.out (by kernel_rfl)) (fun _ _ _ h=>h) (Or.inr ⟨by rfl,rfl⟩) ?_ ?_;rotate_left
       ·simp only[Act.put,qA,qB,qC,i64_w,i32_w];rfl
       refine pure_ (i:=13) (N:=some 29) (v:=undef) (a':=?_) Mk13_14 rfl rfl (any_of o.out (by kernel_rfl)) (fun _ _ _ h=>h) (Or.inr ⟨by rfl,rfl⟩) ?_ ?_;rotate_left
       ·simp only[Act.put,qA,qB,qC,i64_w,i32_w];rfl
       refine pure_ (i:=14) (N:=some 30) (v:=?_) (a':=?_) Mk13_15 rfl rfl (any_of o.out (by kernel_rfl)) (fun _ _ _ h=>h) (Or.inl ⟨by rfl,?_⟩) ?_ ?_;rotate_left
       ·intro w';go_simp;with_reducible rfl
       rotate_left
       ·simp only[Act.put,qA,qB,qC,i64_w,i32_w];rfl
       refine done_ (done_of o.out (by kernel_rfl)) ?_;try go_wp2
       go_roundg k2
       case measure=>have:=al.out;have:=aW.out;omega
       case rel=>exact⟨(I),(wrap64 (ao+1)),(by first|rfl|(simp;done)|(simp[*];done)),H',⟨by have:=al.out;have:=aW.out;omega⟩,⟨by(repeat apply Kd.RS);exact HO_0.out⟩,⟨by repeat(with_reducible first|exact HK.out|apply Kept.alloc|apply Kept.drewN|apply Kept.drew)⟩,⟨wZ HB⟩⟩
   ·have aD:=decide_eq_false c4;clear c4;obtain rfl:=Option.some.inj H;go_wp2;first|go_end0|((try simp only[Exit.inBlock,Exit.then]);refine bodyPost_ret (results_none rfl _ _ _) rfl ?_)
    exact⟨by first|rfl|(simp[*,errW_none,errW_some]<;>rfl),by(repeat apply Kd.RS);exact HO_0.out,wZ HB,by repeat(with_reducible first|exact HK.out|apply Kept.alloc|apply Kept.drewN|apply Kept.drew)⟩

/-! ### slices_pdqsortOrdered_int: function 143 (by hand) -/
def slices_pdqsortOrdered_int.f (k:Nat) (l0:List Int) (a1:Int) (a2:Int) (_a3:Int):Option (List Int):=if wrap64 (a2 - a1)≤12 then slices_insertionSortOrdered_int.f k l0 a1 a2 else none
theorem slices_pdqsortOrdered_int.mono:∀a0 a1 a2 a3 k,LeO (slices_pdqsortOrdered_int.f k a0 a1 a2 a3) (slices_pdqsortOrdered_int.f (k+1) a0 a1 a2 a3):=by
 intro a0 a1 a2 a3 k;unfold slices_pdqsortOrdered_int.f;exact LeO.ite (slices_insertionSortOrdered_int.mono _ _ _ _) (LeO.refl _)
set_option maxHeartbeats 4000000 in
set_option maxRecDepth 100000 in
theorem slices_pdqsortOrdered_int.calls (k:Nat) (ae:Nat→Prop) (J:Value) (l0:List Int) (a1:Int) (a2:Int) (a3:Int) (r:List Int) (w0 w:World) (hB:Below w0.heap.size w0 w) (aC:Kd.R (Kd.int .i64) 3 w w0.heap.size ae J l0) (h:slices_pdqsortOrdered_int.f k l0 a1 a2 a3=some r):
  Calls Try.prog 143 #[J,.int .i64 a1,.int .i64 a2,.int .i64 a3] w fun e w'=>e= .returned (.tuple #[])∧Kd.R (Kd.int .i64) 3 w' w0.heap.size (fun k_=>(ae k_∨w.heap.size≤k_)) J r∧Below w0.heap.size w0 w'∧Kept w w' (fun k_=>ae k_):=by
 unfold slices_pdqsortOrdered_int.f at h;by_cases c:wrap64 (a2 - a1)≤12
 ·rw[if_pos c]at h;have HI:=Asd.mk (slices_insertionSortOrdered_int.calls k ae J l0 a1 a2 r w0 w hB aC h);have c':decide (wrap64 (a2 - a1)≤12)=true:=decide_eq_true c;clear h hB aC c;go_enter Try.func143,Try.ntmps143;go_wp2_with fail;refine wp_loop_rounds 1 ?_;rw[rounds_succ];go_wp2_with fail;refine HI.out.mono ?_;rintro e w' ⟨rfl,h1,h2,h3⟩;have G1:=Asd.mk h1;have G2:=Asd.mk h2;have G3:=Asd.mk h3;clear h1 h2 h3;go_wp2;first|go_end0|((try simp only[Exit.inBlock,Exit.then]);refine bodyPost_ret (results_none rfl _ _ _) rfl ?_)
  exact⟨rfl,G1.out,G2.out,G3.out⟩
 ·rw[if_neg c]at h;cases h

/-! ### bits_Len64: function 165 (by hand) -/
def bits_Len64.f (a0:Int):Option (Int):=if a0=0 then some 0 else if a0=1 then some 1 else if a0=2 then some 2 else if a0=3 then some 2 else if a0=4 then some 3 else if a0=5 then some 3 else if a0=6 then some 3 else if a0=7 then some 3 else if a0=8 then some 4 else none
theorem bits_Len64.at_ (a0 r:Int) (h:bits_Len64.f a0=some r):(a0=0∧r=0)∨(a0=1∧r=1)∨(a0=2∧r=2)∨(a0=3∧r=2)∨(a0=4∧r=3)∨(a0=5∧r=3)∨(a0=6∧r=3)∨(a0=7∧r=3)∨(a0=8∧r=4):=by
 unfold bits_Len64.f at h;repeat' split at h
 all_goals first|(exfalso;cases h;done)|(have h2:=Option.some.inj h;omega)
set_option maxHeartbeats 4000000 in
set_option maxRecDepth 100000 in
theorem bits_Len64.calls (a0:Int) (r:Int) (w:World) (h:bits_Len64.f a0=some r):
  Calls Try.prog 165 #[.int .u64 a0] w fun e w'=>e= .returned (.int .i64 r)∧Drawn0 w w':=by
 have h':=bits_Len64.at_ a0 r h;clear h;rcases h' with⟨rfl,rfl⟩|⟨rfl,rfl⟩|⟨rfl,rfl⟩|⟨rfl,rfl⟩|⟨rfl,rfl⟩|⟨rfl,rfl⟩|⟨rfl,rfl⟩|⟨rfl,rfl⟩|⟨rfl,rfl⟩
 all_goals
  go_enter Try.func165,Try.ntmps165;go_wp2;go_ret;exact⟨by kernel_rfl,Drawn0.refl _⟩

/-! ### bits_Len: function 144 (by hand) -/
def bits_Len.f (a0:Int):Option (Int):=(bits_Len64.f a0).bind fun t=>some t
theorem bits_Len.calls (a0:Int) (r:Int) (w:World) (h:bits_Len.f a0=some r):
  Calls Try.prog 144 #[.int .u64 a0] w fun e w'=>e= .returned (.int .i64 r)∧Drawn0 w w':=by
 obtain⟨t,ht,h⟩:=Option.bind_eq_some_iff.mp h;obtain rfl:=Option.some.inj h;have HT:=Asd.mk (bits_Len64.calls a0 t w ht);clear h ht;go_enter Try.func144,Try.ntmps144;go_wp2_with fail;refine HT.out.mono ?_;rintro e w1 ⟨rfl,⟨n,rfl⟩⟩;go_wp2;go_ret;exact⟨rfl,⟨⟨n,rfl⟩⟩⟩

/-! ### slices_Sort_int_int: function 125 -/
def slices_Sort_int_int.f (k:Nat) (l0:List Int):Option (List Int):=(bits_Len.f (IntKind.u64.wrap ((l0.length:Int)))).bind fun t143=>((slices_pdqsortOrdered_int.f k l0 0 (l0.length:Int) t143).bind fun t144=>(some t144))
theorem slices_Sort_int_int.mono:∀a0 k,LeO (slices_Sort_int_int.f k a0) (slices_Sort_int_int.f (k+1) a0):=by
 intro a0 k;unfold slices_Sort_int_int.f
 repeat' first
   |(with_reducible first|exact slices_pdqsortOrdered_int.mono _ _ _ _ _|exact LeO.refl _|exact LeO.none _|refine LeO.ite ?_ ?_|refine LeO.bind ?_ (fun _=>?_))
   |refine LeO.ite ?_ ?_
   |refine LeO.bind ?_ (fun _=>?_)
set_option maxHeartbeats 8000000 in
set_option maxRecDepth 100000 in
theorem slices_Sort_int_int.calls (k:Nat) (ae:Nat→Prop) (J:Value) (l0:List Int) (r:List Int) (w0 w:World) (hB:Below w0.heap.size w0 w) (aC:Kd.R (Kd.int .i64) 3 w w0.heap.size ae J l0) (h:slices_Sort_int_int.f k l0=some r):
  Calls Try.prog 125 #[J] w fun e w'=>e= .returned (.tuple #[])∧Kd.R (Kd.int .i64) 3 w' w0.heap.size (fun k_=>(ae k_∨w.heap.size≤k_)) J r∧Below w0.heap.size w0 w'∧Kept w w' (fun k_=>ae k_):=by
 have aN:=Asd.mk (show Kd.R (Kd.int .i64) 3 w w0.heap.size (fun k_=>(ae k_∨w.heap.size≤k_)) J l0 from Kd.R_mono aC (fun k_ hk=>(.inl hk)));have HK:=Asd.mk (Kept.refl w (fun k_=>ae k_));have de:=Asd.mk hB.size;have HB:=Asd.mk hB;clear hB;have H:((bits_Len.f (IntKind.u64.wrap ((l0.length:Int)))).bind fun t143=>((slices_pdqsortOrdered_int.f k l0 0 (l0.length:Int) t143).bind fun t144=>(some t144)))=some r:=h;clear h;obtain⟨t143,A2,H⟩:=bE H;try dsimp only at H
 obtain⟨t144,A3,H⟩:=bE H;try dsimp only at H
 obtain rfl:=Option.some.inj H;obtain⟨cx,cy,dg⟩:=Kd.R_slice aN.out;subst dg;go_enter Try.func125,Try.ntmps125;go_wp2_with (first|((with_reducible refine gate_callee (f:=144) rfl ?_);refine gB (some 9) Try.func144 #[.int .u64 (IntKind.u64.wrap ((l0.length:Int)))] rfl ?_;(with_reducible refine(bits_Len.calls (IntKind.u64.wrap ((l0.length:Int))) t143 _ A2.out).mono ?_);rintro e w' ⟨rfl,⟨nd,rfl⟩⟩;refine⟨_,rfl,?_⟩)|((with_reducible refine gate_callee (f:=143) rfl ?_);refine gB (some 10) Try.func143 #[.slice cx l0.length cy,.int .i64 0,.int .i64 (l0.length:Int),.int .i64 t143] rfl ?_;(with_reducible refine(slices_pdqsortOrdered_int.calls k (fun k_=>some k_=(.slice cx l0.length cy:Value).ownBlock) (.slice cx l0.length cy) l0 0 (l0.length:Int) t143 t144 w0 _ ?side1 ?side2 A3.out).mono ?_);(case side1=>repeat(with_reducible first|exact HB.out|apply bwX));(case side2=>exact Kd.R_tight rfl aN.out);rintro e w5 ⟨rfl,cS,hb,cT⟩;refine⟨_,rfl,?_⟩;replace HK:=Asd.mk (Kept.then_ (S:=(fun k_=>ae k_)) (by repeat(with_reducible first|exact HK.out|apply Kept.alloc|apply Kept.drewN|apply Kept.drew)) cT (fun k_ dh=>(fun e_=>(aN.out.1 k_ e_.symm)) dh));replace aN:=Asd.mk (Kd.R_reok rfl cS (fun k_ e_=>aN.out.1 k_ e_));replace HB:=Asd.mk (hb);(try clear hb);(try clear cT);(try clear cS)));first|go_end0|((try simp only[Exit.inBlock,Exit.then]);refine bodyPost_ret (results_none rfl _ _ _) rfl ?_)
 exact⟨by first|rfl|(simp[*,errW_none,errW_some]<;>rfl),by(repeat apply Kd.RS);exact aN.out,wZ HB,by repeat(with_reducible first|exact HK.out|apply Kept.alloc|apply Kept.drewN|apply Kept.drew)⟩

/-! ### slices_Compact_int_int: function 126 (by hand) -/
def slices_Compact_int_int.f (l0:List Int):Option (List Int):=some (Lib.compact l0)
theorem slices_Compact_int_int.len (l:List Int):(Lib.compact l).length≤l.length:=by
 unfold Lib.compact Lib.compactUpTo;rw[List.length_map];exact Nat.le_trans (List.length_filter_le _ _) (by simp)
set_option maxHeartbeats 4000000 in
set_option maxRecDepth 100000 in
theorem slices_Compact_int_int.calls (ae:Nat→Prop) (J:Value) (l0:List Int) (r:List Int) (w0 w:World) (hB:Below w0.heap.size w0 w) (aC:Kd.R (Kd.int .i64) 3 w w0.heap.size ae J l0) (h:slices_Compact_int_int.f l0=some r):
  Calls Try.prog 126 #[J] w fun e w'=>∃cU:Value,e= .returned (cU)∧Kd.R (Kd.int .i64) 3 w' w0.heap.size (fun k_=>(ae k_∨w.heap.size≤k_)) cU r∧Below w0.heap.size w0 w'∧Kept w w' (fun k_=>ae k_):=by
 obtain rfl:=Option.some.inj h;by_cases hp:l0.length=0
 ·obtain⟨A,c,rfl,_,_⟩:=Kd.R_reads aC;obtain rfl:l0= []:=List.eq_nil_of_length_eq_zero hp;refine(Try.slices_Compact_int_empty A c w).mono ?_;rintro e w' ⟨rfl,rfl⟩;exact⟨_,rfl,Kd.R_mono aC (fun k hk=>Or.inl hk),hB,Kept.refl _ _⟩
 ·obtain⟨cV,inner,b9,bx⟩:=aC;have di:=b9;rcases b9.2 with⟨rfl,h0⟩|⟨g,cap,cur,rfl,cz,hb,h1,h2,h3,h4⟩
  ·exact absurd h0 hp
  ·have dj:inner=l0.map (Value.int .i64):=by
    have hl:=bx.1;have dk:=bx.2;apply List.ext_getElem
    ·rw[hl,List.length_map];exact Nat.mul_one _
    ·intro j hj hj';rw[List.length_map]at hj';have:=dk j l0[j] (List.getElem?_eq_getElem hj');have e1:(inner.drop (j*1)).take 1= [inner[j]]:=by rw[Nat.mul_one,List.drop_eq_getElem_cons hj];rfl
     have e2:(inner.drop (j*1)).take 1= [Value.int .i64 l0[j]]:=this;rw[e1]at e2;rw[List.getElem_map];exact List.head_eq_of_cons_eq e2
   have dm:cur.toList.take l0.length=l0.map (Value.int .i64):=by rw[←dj,←h4];show _=cur.toList.take (l0.length*1);rw[Nat.mul_one]
   have hH:=holds_of_blockI hb dm;have hm:l0.length≤9223372036854775807:=Nat.le_trans h1 h2;have dn:=slices_Compact_int_int.len l0;refine(Try.slices_Compact_int g 0 cap l0 w hH hm h1).mono ?_;rintro e w' ⟨rfl,n,rfl⟩;obtain⟨ts,cA⟩:∃ts,ts=Lib.compact l0++List.replicate (l0.length - (Lib.compact l0).length) 0:=⟨_,rfl⟩;have hlen:ts.length=l0.length:=by rw[cA,List.length_append,List.length_replicate];omega
   rw[←cA];have hs:=ownsRow_sortedI (w:=w) (n:=n) (os:= #[]) (base:=w0.heap.size) (cap:=cap) hlen cz hb h1 h2 h3;have hg:=grownBy_sortedI (w:=w) (g:=g) (n:=n) (os:= #[]) ts.toArray;rw[Sort.grow_empty]at hs hg
   have hRt:Kd.R (Kd.int .i64) 3 (Sort.putRow (Value.int .i64) (Sort.ahead w n) g 0 ts.toArray) w0.heap.size ae (.slice (some ⟨g,0,none⟩) l0.length cap) ts:=by
    refine⟨cV,_,by rw[hlen];exact hs,⟨by rw[List.length_map];exact(Nat.mul_one _).symm,fun j p hj=>?_⟩⟩;obtain⟨hj',rfl⟩:=List.getElem?_eq_some_iff.1 hj
    show(((ts.map (Value.int .i64)).drop (j*1)).take 1)= [Value.int .i64 ts[j]]
    rw[Nat.mul_one,List.drop_eq_getElem_cons (by rw[List.length_map];exact hj'),List.getElem_map];rfl
   have hT:=Kd.R_take (m:=(Lib.compact l0).length) hRt (by rw[hlen];exact dn);have dp:ts.take (Lib.compact l0).length=Lib.compact l0:=by rw[cA,List.take_left]
   rw[dp]at hT;refine⟨_,rfl,Kd.R_mono hT (fun k hk=>Or.inl hk),pw_below_grown hB (some g) hB.size hg (fun k hk=>by injection hk with hk;omega),hg.size,fun i hi dq=>hg.block i hi (fun e=>dq ?_)⟩;injection e with e
   subst e;exact cV _ rfl

/-! ### slices_Index_int_int: function 127 -/
def slices_Index_int_int.l0:Nat→List Int→Int→Int→Int→Option (Int)
 |0,_,_,_,_=>none
 |k+1,x0,x1,x7,x8=>if x8<x7 then(if 0≤x8 then(if x8<(x0.length:Int)then(if x1=(rd x0 x8)then(some x8)else(slices_Index_int_int.l0 k x0 x1 x7 (wrap64 (x8+1))))else(none))else(none))else(some (-1))
def slices_Index_int_int.f (k:Nat) (l0:List Int) (a1:Int):Option (Int):=slices_Index_int_int.l0 k l0 a1 (l0.length:Int) 0
theorem slices_Index_int_int.mono_l:∀k,(∀y0 y1 y2 y3,LeO (slices_Index_int_int.l0 k y0 y1 y2 y3) (slices_Index_int_int.l0 (k+1) y0 y1 y2 y3))
 |0=>fun _ _ _ _ r h=>by simp[slices_Index_int_int.l0]at h
 |k+1=>by
  have aj:=slices_Index_int_int.mono_l k
  ·intro y0 y1 y2 y3;unfold slices_Index_int_int.l0;repeat' first
   |(with_reducible first|exact aj _ _ _ _|exact LeO.refl _|exact LeO.none _|refine LeO.ite ?_ ?_|refine LeO.bind ?_ (fun _=>?_))
   |refine LeO.ite ?_ ?_
   |refine LeO.bind ?_ (fun _=>?_)
theorem slices_Index_int_int.mono:∀a0 a1 k,LeO (slices_Index_int_int.f k a0 a1) (slices_Index_int_int.f (k+1) a0 a1):=by
 intro a0 a1 k;have aj:=slices_Index_int_int.mono_l k;unfold slices_Index_int_int.f
 repeat' first
   |(with_reducible first|exact aj _ _ _ _|exact LeO.refl _|exact LeO.none _|refine LeO.ite ?_ ?_|refine LeO.bind ?_ (fun _=>?_))
   |refine LeO.ite ?_ ?_
   |refine LeO.bind ?_ (fun _=>?_)
set_option maxHeartbeats 8000000 in
set_option maxRecDepth 100000 in
theorem slices_Index_int_int.calls (k:Nat) (A0:Option Addr) (c0:Nat) (l0:List Int) (a1:Int) (r:Int) (w:World) (aI:Kd.C (Kd.int .i64) w A0 l0.length l0) (aJ:l0.length≤c0) (h:slices_Index_int_int.f k l0 a1=some r):
  Calls Try.prog 127 #[.slice A0 l0.length c0,.int .i64 a1] w fun e w'=>e= .returned (.int .i64 r)∧Drawn0 w w':=by
 have aK:=Asd.mk aI;have cC:=Asd.mk aJ;clear aI aJ;have H:(slices_Index_int_int.l0 k l0 a1 (l0.length:Int) 0)=some r:=h;clear h;have H':=Asd.mk H;clear H;go_enter Try.func127,Try.ntmps127;go_wp2;go_loopg [8] k (fun kq v8 w'=>∃(ah:Int),v8= .int .i64 ah∧Asd (slices_Index_int_int.l0 kq l0 a1 (l0.length:Int) ah=some r)∧Asd (kq≤k)∧Drawn0 w w')
 case atStart=>exact⟨(0),(by first|rfl|(simp;done)|(simp[*];done)),H',⟨Nat.le_refl _⟩,by repeat(first|exact Drawn0.refl _|apply Drawn0.step)⟩
 case round=>
  clear H';obtain⟨ah,rfl,HA,al,⟨m1,rfl⟩⟩:=hrel;cases gk with
  |zero=>exact absurd HA.out (by simp[slices_Index_int_int.l0])
  |succ k1=>
   have H:=HA.out;clear HA;simp only[slices_Index_int_int.l0]at H;rcases iT H with⟨c3,H⟩|⟨c3,H⟩
   ·have aY:=decide_eq_true c3;clear c3;obtain⟨c4,H⟩:=iN H;have aD:=decide_eq_true c4;clear c4;obtain⟨c5,H⟩:=iN H;have aS:=decide_eq_true c5;clear c5;rcases iT H with⟨c6,H⟩|⟨c6,H⟩
    ·have bg:(a1==(rd l0 ah))=true:=beq_iff_eq.mpr c6;have bV:(a1 !=(rd l0 ah))=false:=bne_eq_false_iff_eq.mpr c6;clear c6;obtain rfl:=Option.some.inj H;have aA:0≤(ah:Int):=odt;have aB:ah<(l0.length:Int):=odt;obtain⟨cB,bz,bA⟩:=Kd.at_int aK.out ah aA aB;cases bz;replace aA:=eq_true aA;replace aB:=eq_true aB;go_wp2;go_ret;exact⟨by first|rfl|(simp;done)|(simp[*];done),by repeat(first|exact Drawn0.refl _|apply Drawn0.step)⟩
    ·have bg:(a1==(rd l0 ah))=false:=beq_eq_false_iff_ne.mpr c6;have bV:(a1 !=(rd l0 ah))=true:=bne_iff_ne.mpr c6;have H':=Asd.mk H;clear H;have aA:0≤(ah:Int):=odt;have aB:ah<(l0.length:Int):=odt;obtain⟨cB,bz,bA⟩:=Kd.at_int aK.out ah aA aB;cases bz;replace aA:=eq_true aA;replace aB:=eq_true aB;go_wp2;go_roundg k1
     case measure=>have:=al.out;omega
     case rel=>exact⟨(wrap64 (ah+1)),(by first|rfl|(simp;done)|(simp[*];done)),H',⟨by have:=al.out;omega⟩,by repeat(first|exact Drawn0.refl _|apply Drawn0.step)⟩
   ·have aY:=decide_eq_false c3;clear c3;obtain rfl:=Option.some.inj H;go_wp2;go_ret;exact⟨by first|rfl|(simp;done)|(simp[*];done),by repeat(first|exact Drawn0.refl _|apply Drawn0.step)⟩

end Go.Proofs.Ytihgpkohglcijaa.P
