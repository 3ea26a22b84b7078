-- Written by a program of this session (wip/hook.py), which runs the kit's printer; Lean checks it.
import Derived.Test.YtihgpkohglcijaaPx0
import Derived.Test.YtihgpkohglcijaaPx13
namespace Go.Proofs.Ytihgpkohglcijaa.P
open Go.RowKit Go.Proofs.YtihgpkohglcijaaW.PrintWords Go.Proofs.YtihgpkohglcijaaW.PrintLast Go.Proofs.YtihgpkohglcijaaW.PrintMore
attribute [local go_sem] max2_int min2_int max_two min_two max_three min_three max_four min_four   -- for this text's walks alone
set_option linter.unusedVariables false
set_option linter.unusedSimpArgs false

/-! ### impl_tidy: function 91 -/
def impl_tidy.l0:Nat→List Int→List Int→List Int→Int→Int→Option (List Int)
 |0,_,_,_,_,_=>none
 |k+1,x3,x4,x15,x16,x17=>if x17<x16 then(if 0≤x17 then(if x17<(x15.length:Int)then((slices_Index_int_int.f k x3 (rd x15 x17)).bind fun t160=>(if x4.length<17592186044416 then(impl_tidy.l0 k x3 (x4++ [t160]) x15 x16 (wrap64 (x17+1)))else(none)))else(none))else(none))else(some x4)
def impl_tidy.f (k:Nat) (l0:List Int):Option (List Int):=(some (([]:List Int):List Int)).bind fun aJ=>(if aJ.length+l0.length<17592186044416 then((slices_Sort_int_int.f k (aJ++l0)).bind fun t152=>((slices_Compact_int_int.f t152).bind fun t153=>(impl_tidy.l0 k t153 (([]:List Int)) l0 (l0.length:Int) 0)))else(none))
theorem impl_tidy.mono_l:∀k,(∀y0 y1 y2 y3 y4,LeO (impl_tidy.l0 k y0 y1 y2 y3 y4) (impl_tidy.l0 (k+1) y0 y1 y2 y3 y4))
 |0=>fun _ _ _ _ _ r h=>by simp[impl_tidy.l0]at h
 |k+1=>by
  have aK:=impl_tidy.mono_l k
  ·intro y0 y1 y2 y3 y4;unfold impl_tidy.l0;repeat' first
   |(with_reducible first|exact aK _ _ _ _ _|exact slices_Index_int_int.mono _ _ _|exact slices_Sort_int_int.mono _ _|exact LeO.refl _|exact LeO.none _|refine LeO.ite ?_ ?_|refine LeO.bind ?_ (fun _=>?_))
   |refine LeO.ite ?_ ?_
   |refine LeO.bind ?_ (fun _=>?_)
theorem impl_tidy.mono:∀a0 k,LeO (impl_tidy.f k a0) (impl_tidy.f (k+1) a0):=by
 intro a0 k;have aK:=impl_tidy.mono_l k;unfold impl_tidy.f
 repeat' first
   |(with_reducible first|exact aK _ _ _ _ _|exact slices_Index_int_int.mono _ _ _|exact slices_Sort_int_int.mono _ _|exact LeO.refl _|exact LeO.none _|refine LeO.ite ?_ ?_|refine LeO.bind ?_ (fun _=>?_))
   |refine LeO.ite ?_ ?_
   |refine LeO.bind ?_ (fun _=>?_)
set_option maxHeartbeats 8000000 in
set_option maxRecDepth 100000 in
theorem impl_tidy.calls (k:Nat) (A0:Option Addr) (c0:Nat) (l0:List Int) (r:List Int) (w:World) (aW:Kd.C (Kd.int .i64) w A0 l0.length l0) (aN:l0.length≤c0) (h:impl_tidy.f k l0=some r):
  Calls Try.prog 91 #[.slice A0 l0.length c0] w fun e w'=>∃dB:Value,e= .returned (dB)∧Kd.R (Kd.int .i64) 3 w' w.heap.size (fun _=>True) dB r∧Below w.heap.size w w':=by
 have aY:=Asd.mk aW;have dg:=Asd.mk aN;clear aW aN;have HB:=Asd.mk (Below.refl w.heap.size w);have H:((some (([]:List Int):List Int)).bind fun aJ=>(if aJ.length+l0.length<17592186044416 then((slices_Sort_int_int.f k (aJ++l0)).bind fun t152=>((slices_Compact_int_int.f t152).bind fun t153=>(impl_tidy.l0 k t153 (([]:List Int)) l0 (l0.length:Int) 0)))else(none)))=some r:=h;clear h;obtain⟨aJ,bV⟩:∃y_:List Int,y_=(([]:List Int)):=⟨_,rfl⟩;replace H:(if aJ.length+l0.length<17592186044416 then((slices_Sort_int_int.f k (aJ++l0)).bind fun t152=>((slices_Compact_int_int.f t152).bind fun t153=>(impl_tidy.l0 k t153 (([]:List Int)) l0 (l0.length:Int) 0)))else(none))=some r:=by first|(rw[bV];exact H)|exact H
 have cc:=Asd.mk bV;clear bV;obtain⟨c2,H⟩:=iN H;have dC:=Asd.mk c2;clear c2;obtain⟨aV,bZ⟩:∃y_:List Int,y_=(aJ++l0):=⟨_,rfl⟩;replace H:((slices_Sort_int_int.f k aV).bind fun t152=>((slices_Compact_int_int.f t152).bind fun t153=>(impl_tidy.l0 k t153 (([]:List Int)) l0 (l0.length:Int) 0)))=some r:=by first|(rw[bZ];exact H)|exact H
 have dh:=Asd.mk bZ;clear bZ;obtain⟨t152,A3,H⟩:=bE H;try dsimp only at H
 obtain⟨t153,A4,H⟩:=bE H;try dsimp only at H
 obtain⟨cX,b0⟩:∃y_:List Int,y_=(([]:List Int)):=⟨_,rfl⟩;replace H:(impl_tidy.l0 k t153 cX l0 (l0.length:Int) 0)=some r:=by first|(rw[b0];exact H)|exact H
 have cd:=Asd.mk b0;clear b0;have H':=Asd.mk H;clear H;go_enter Try.func91,Try.ntmps91;go_wp2_with (first|((with_reducible refine gate_dst (N:=7) rfl ?_);refine Kd.R_lit (Kd.int .i64) _ 3 ?hg (N:=7) ?hd (xs:=([]:List Int)) (inner:=[]) (ok:=fun _=>True) (okp:=fun _=>True) ?hr ?hp (fun _ hk=>hk) trivial (Below.refl _ _) (Nat.le_refl _) (by simp) ?_;(case hd=>rfl);(case hg=>rfl);(case hr=>first|(go_simp;done)|(go_simp;rfl));(case hp=>exact(Reps.none _ _));intro dD w5 cf hb di b1;clear di b1;(first|rw[←cc.out]at cf|(simp only[Int.reduceToNat]at cf;rw[←cc.out]at cf));have cg:=Asd.mk (Kd.R_lower cf (below_size (wZ HB)));replace HB:=bW HB hb;clear hb cf)|((with_reducible refine gate_builtin (b:=.append) (xs:= #[.tmp 7,.tmp 8]) rfl ?_);at_builtin;refine Kd.R_append_rows (Kd.int .i64) (w0:=w) w.heap.size rfl (.tmp 7) (.tmp 8) 55 3 (.int .i64 0) 8 rfl Try.underlying55 info3 rfl (by decide) (by omega) dD aJ l0 _ _ _ (fun _=>True) (fun _=>False) rfl rfl ?aO ?aR (fun _ _ h=>h) (fun _ h=>h.elim) ?aF ?aB ?aS ?aL ?_;(case aR=>repeat(first|exact(Kd.C_below aY.out HB.out)|(with_reducible refine Kd.C_alloc ?_ _)|(with_reducible refine Kd.C_drewN ?_ _)|(with_reducible refine Kd.C_drew ?_)));(case aB=>exact(wZ HB));(case aF=>exact(fun _ _=>trivial));(case aO=>exact(rS cg));(case aS=>exact(below_size (wZ HB)));(case aL=>have:=dC.out;omega);intro e1 w7 ho hb hg cM;rw[←dh.out]at ho;replace HB:=Asd.mk (hb);have aQ:=Asd.mk (ho);clear cg;clear ho hb hg cM;obtain⟨ca,cb,eF⟩:=Kd.R_slice aQ.out;subst eF)|((with_reducible refine gate_callee (f:=125) rfl ?_);refine gB (some 11) Try.func125 #[.slice ca aV.length cb] rfl ?_;(with_reducible refine(slices_Sort_int_int.calls k (fun k_=>some k_=(.slice ca aV.length cb:Value).ownBlock) (.slice ca aV.length cb) aV t152 w _ ?side1 ?side2 A3.out).mono ?_);(case side1=>repeat(with_reducible first|exact HB.out|apply bwX));(case side2=>exact Kd.R_tight rfl aQ.out);rintro e w9 ⟨rfl,dE,hb,dj⟩;refine⟨_,rfl,?_⟩;replace aQ:=Asd.mk (Kd.R_reok rfl dE (fun k_ e_=>aQ.out.1 k_ e_));replace HB:=Asd.mk (hb);(try clear hb);(try clear dj);(try clear dE))|((with_reducible refine gate_callee (f:=126) rfl ?_);refine gB (some 13) Try.func126 #[.slice ca aV.length cb] rfl ?_;(with_reducible refine(slices_Compact_int_int.calls (fun k_=>some k_=(.slice ca aV.length cb:Value).ownBlock) (.slice ca aV.length cb) t152 t153 w _ ?side1 ?side2 A4.out).mono ?_);(case side1=>repeat(with_reducible first|exact HB.out|apply bwX));(case side2=>exact Kd.R_tight rfl aQ.out);rintro e w10 ⟨v154,rfl,ch,hb,dj⟩;refine⟨_,rfl,?_⟩;have bA:=Asd.mk (Kd.R_mono (ok':=fun k_=>True) ch (fun k_ e5=>trivial));replace HB:=Asd.mk (hb);clear aQ;(try clear hb);(try clear dj);(try clear ch))|((with_reducible refine gate_dst (N:=14) rfl ?_);refine Kd.R_lit (Kd.int .i64) _ 3 ?hg (N:=14) ?hd (xs:=([]:List Int)) (inner:=[]) (ok:=fun _=>True) (okp:=fun _=>True) ?hr ?hp (fun _ hk=>hk) trivial (Below.refl _ _) (Nat.le_refl _) (by simp) ?_;(case hd=>rfl);(case hg=>rfl);(case hr=>first|(go_simp;done)|(go_simp;rfl));(case hp=>exact(Reps.none _ _));intro v157 w11 bz hb di b1;clear di b1;(first|rw[←cd.out]at bz|(simp only[Int.reduceToNat]at bz;rw[←cd.out]at bz));have dk:=Asd.mk (Kd.R_lower (Kd.R_new' bz (Kd.R_lt (rS bA))) (below_size (wZ HB)));replace bA:=Asd.mk (Kd.R_elder' (rS bA) (Kd.R_base bz) hb);replace HB:=bW HB hb;clear hb bz));go_loopg [4,17] k (fun kq v4 eG w'=>∃(bB:List Int) (ax:Int),eG= .int .i64 ax∧Asd (impl_tidy.l0 kq t153 bB l0 (l0.length:Int) ax=some r)∧Asd (kq≤k)∧Asd (Kd.R (Kd.int .i64) 3 w' w.heap.size (fun k_=>some k_≠(v4:Value).ownBlock) v154 t153)∧Asd (Kd.R (Kd.int .i64) 3 w' w.heap.size (fun k_=>some k_≠(v154:Value).ownBlock) v4 bB)∧Asd (Below w.heap.size w w'))
 case atStart=>exact⟨(cX),(0),(by first|rfl|(simp;done)|(simp[*];done)),H',⟨Nat.le_refl _⟩,⟨by(repeat apply Kd.RS);exact Kd.R_mono bA.out (fun _ hk=>hk.2)⟩,⟨by(repeat apply Kd.RS);exact Kd.R_mono dk.out (fun _ hk=>hk.2)⟩,⟨wZ HB⟩⟩
 case round=>
  clear H';obtain⟨bB,ax,rfl,HA,aZ,HO_3,HO_4,HB⟩:=hrel;cases gk with
  |zero=>exact absurd HA.out (by simp[impl_tidy.l0])
  |succ k1=>
   have H:=HA.out;clear HA;simp only[impl_tidy.l0]at H;rcases iT H with⟨cj,H⟩|⟨cj,H⟩
   ·have dm:=decide_eq_true cj;clear cj;obtain⟨dF,H⟩:=iN H;have eH:=decide_eq_true dF;clear dF;obtain⟨dG,H⟩:=iN H;have eI:=decide_eq_true dG;clear dG;obtain⟨t160,eJ,H⟩:=bE H;try dsimp only at H
    obtain⟨dH,H⟩:=iN H;have dn:=Asd.mk dH;clear dH;obtain⟨cY,b4⟩:∃y_:List Int,y_=(bB++ [t160]):=⟨_,rfl⟩;replace H:(impl_tidy.l0 k1 t153 cY l0 (l0.length:Int) (wrap64 (ax+1)))=some r:=by first|(rw[b4];exact H)|exact H
    have dp:=Asd.mk b4;clear b4;have H':=Asd.mk H;clear H;have ck:0≤(ax:Int):=odt;have cl:ax<(l0.length:Int):=odt;obtain⟨eK,dI,a6⟩:=Kd.at_int aY.out ax ck cl;cases dI;replace a6:=(HB.out.cell (World.block_lt_of_cell? w _ a6)).trans a6;replace ck:=eq_true ck;replace cl:=eq_true cl;obtain⟨da,db,dJ⟩:=Kd.R_slice HO_3.out;subst dJ;go_wp2_with (first|((with_reducible refine gate_callee (f:=127) rfl ?_);refine gB (some 24) Try.func127 #[.slice da t153.length db,.int .i64 (rd l0 ax)] rfl ?_;(with_reducible refine(slices_Index_int_int.calls k1 _ _ t153 (rd l0 ax) t160 _ ?side1 ?side2 eJ.out).mono ?_);(case side1=>exact cZ (Kd.R_reads' HO_3.out).2.2);(case side2=>exact(Kd.R_reads' HO_3.out).2.1);rintro e w' ⟨rfl,⟨nd,rfl⟩⟩;refine⟨_,rfl,?_⟩)|((with_reducible refine gate_builtin (b:=.append) (xs:= #[.tmp 21,.tmp 25]) rfl ?_);at_builtin;refine Kd.R_append (Kd.int .i64) (w0:=w) w.heap.size rfl (.tmp 21) (.tmp 25) 55 3 (.int .i64 0) 8 rfl Try.underlying55 info3 rfl (by decide) (by omega) u4 bB t160 [.int .i64 t160] (fun k_=>some k_≠(.slice da t153.length db:Value).ownBlock) (fun _=>False) rfl rfl ?aP (fun _ hk=>hk.elim) ?aF ?aO ?aB ?aS ?aL ?_;(case aP=>exact rfl);(case aB=>exact(wZ HB));(case aF=>exact(fun k_ hk=>Kd.fresh' (Kd.R_lt (rS HO_3)) k_ hk));(case aO=>exact(rS HO_4));(case aS=>exact(below_size (wZ HB)));(case aL=>have:=dn.out;omega);intro v162 w19 ho hb hg cM;rw[←dp.out]at ho;replace HO_3:=Asd.mk (Kd.R_after (ok:=(fun _=>True)) (by(repeat apply Kd.RS);exact Kd.R_mono HO_3.out (fun _ hk=>⟨trivial,hk⟩)) hg cM);replace HB:=Asd.mk (hb);have dq:=Asd.mk (ho);clear HO_4;clear ho hb hg cM));go_roundg k1
    case measure=>have:=aZ.out;omega
    case rel=>exact⟨(cY),(wrap64 (ax+1)),(by first|rfl|(simp;done)|(simp[*];done)),H',⟨by have:=aZ.out;omega⟩,⟨by(repeat apply Kd.RS);exact Kd.R_mono HO_3.out (fun _ hk=>hk.2)⟩,⟨by(repeat apply Kd.RS);exact dq.out⟩,⟨wZ HB⟩⟩
   ·have dm:=decide_eq_false cj;clear cj;obtain rfl:=Option.some.inj H;go_wp2;go_ret;exact⟨_,by first|rfl|(simp[*,errW_none,errW_some]<;>rfl),by(repeat apply Kd.RS);exact Kd.R_mono HO_4.out (fun _ hk=>trivial),wZ HB⟩

/-! ### slices_Equal_int_int: function 106 -/
def slices_Equal_int_int.l0:Nat→List Int→List Int→Int→Int→Option (Bool)
 |0,_,_,_,_=>none
 |k+1,x0,x1,x12,x13=>if x13<x12 then(if 0≤x13 then(if x13<(x0.length:Int)then(if x13<(x1.length:Int)then(if(rd x0 x13)=(rd x1 x13)then(slices_Equal_int_int.l0 k x0 x1 x12 (wrap64 (x13+1)))else(some false))else(none))else(none))else(none))else(some true)
def slices_Equal_int_int.f (k:Nat) (l0:List Int) (l1:List Int):Option (Bool):=if(l0.length:Int)=(l1.length:Int)then(slices_Equal_int_int.l0 k l0 l1 (l0.length:Int) 0)else(some false)
theorem slices_Equal_int_int.mono_l:∀k,(∀y0 y1 y2 y3,LeO (slices_Equal_int_int.l0 k y0 y1 y2 y3) (slices_Equal_int_int.l0 (k+1) y0 y1 y2 y3))
 |0=>fun _ _ _ _ r h=>by simp[slices_Equal_int_int.l0]at h
 |k+1=>by
  have aK:=slices_Equal_int_int.mono_l k
  ·intro y0 y1 y2 y3;unfold slices_Equal_int_int.l0;repeat' first
   |(with_reducible first|exact aK _ _ _ _|exact LeO.refl _|exact LeO.none _|refine LeO.ite ?_ ?_|refine LeO.bind ?_ (fun _=>?_))
   |refine LeO.ite ?_ ?_
   |refine LeO.bind ?_ (fun _=>?_)
theorem slices_Equal_int_int.mono:∀a0 a1 k,LeO (slices_Equal_int_int.f k a0 a1) (slices_Equal_int_int.f (k+1) a0 a1):=by
 intro a0 a1 k;have aK:=slices_Equal_int_int.mono_l k;unfold slices_Equal_int_int.f
 repeat' first
   |(with_reducible first|exact aK _ _ _ _|exact LeO.refl _|exact LeO.none _|refine LeO.ite ?_ ?_|refine LeO.bind ?_ (fun _=>?_))
   |refine LeO.ite ?_ ?_
   |refine LeO.bind ?_ (fun _=>?_)
set_option maxHeartbeats 8000000 in
set_option maxRecDepth 100000 in
theorem slices_Equal_int_int.calls (k:Nat) (A0:Option Addr) (c0:Nat) (l0:List Int) (A1:Option Addr) (c1:Nat) (l1:List Int) (r:Bool) (w:World) (aW:Kd.C (Kd.int .i64) w A0 l0.length l0) (aN:l0.length≤c0) (a7:Kd.C (Kd.int .i64) w A1 l1.length l1) (a8:l1.length≤c1) (h:slices_Equal_int_int.f k l0 l1=some r):
  Calls Try.prog 106 #[.slice A0 l0.length c0,.slice A1 l1.length c1] w fun e w'=>e= .returned (.bool r)∧Drawn0 w w':=by
 have aY:=Asd.mk aW;have dg:=Asd.mk aN;clear aW aN;have aD:=Asd.mk a7;have b5:=Asd.mk a8;clear a7 a8;have H:(if(l0.length:Int)=(l1.length:Int)then(slices_Equal_int_int.l0 k l0 l1 (l0.length:Int) 0)else(some false))=some r:=h;clear h;rcases iT H with⟨c3,H⟩|⟨c3,H⟩
 ·have ba:((l0.length:Int)==(l1.length:Int))=true:=beq_iff_eq.mpr c3;have bb:((l0.length:Int) !=(l1.length:Int))=false:=bne_eq_false_iff_eq.mpr c3;have bD:(l0.length==l1.length)=true:=by first|simpa using c3|(simp at c3⊢;omega)
  clear c3;have H':=Asd.mk H;clear H;go_enter Try.func106,Try.ntmps106;go_wp2;repeat(go_quiet (fail);try go_wp2)
  go_loopg [13] k (fun kq eL w'=>∃(ab:Int),eL= .int .i64 ab∧Asd (slices_Equal_int_int.l0 kq l0 l1 (l0.length:Int) ab=some r)∧Asd (kq≤k)∧Drawn0 w w')
  case atStart=>exact⟨(0),(by first|rfl|(simp;done)|(simp[*];done)),H',⟨Nat.le_refl _⟩,by repeat(first|exact Drawn0.refl _|apply Drawn0.step)⟩
  case round=>
   clear H';obtain⟨ab,rfl,HA,aZ,⟨m1,rfl⟩⟩:=hrel;cases gk with
   |zero=>exact absurd HA.out (by simp[slices_Equal_int_int.l0])
   |succ k1=>
    have H:=HA.out;clear HA;simp only[slices_Equal_int_int.l0]at H;rcases iT H with⟨c4,H⟩|⟨c4,H⟩
    ·have bF:=decide_eq_true c4;clear c4;obtain⟨c5,H⟩:=iN H;have dc:=decide_eq_true c5;clear c5;obtain⟨c6,H⟩:=iN H;have dd:=decide_eq_true c6;clear c6;obtain⟨c7,H⟩:=iN H;have de:=decide_eq_true c7;clear c7;rcases iT H with⟨c8,H⟩|⟨c8,H⟩
     ·have dK:((rd l0 ab)==(rd l1 ab))=true:=beq_iff_eq.mpr c8;have dL:((rd l0 ab) !=(rd l1 ab))=false:=bne_eq_false_iff_eq.mpr c8;clear c8;have H':=Asd.mk H;clear H;have bc:0≤(ab:Int):=odt;have bd:ab<(l0.length:Int):=odt;obtain⟨dr,cm,cn⟩:=Kd.at_int aY.out ab bc bd;cases cm;replace bc:=eq_true bc;replace bd:=eq_true bd;have bf:0≤(ab:Int):=odt;have bg:ab<(l1.length:Int):=odt;obtain⟨ds,cp,cq⟩:=Kd.at_int aD.out ab bf bg;cases cp;replace bf:=eq_true bf;replace bg:=eq_true bg;go_wp2;repeat(go_quiet (fail);try go_wp2)
      go_roundg k1
      case measure=>have:=aZ.out;omega
      case rel=>exact⟨(wrap64 (ab+1)),(by first|rfl|(simp;done)|(simp[*];done)),H',⟨by have:=aZ.out;omega⟩,by repeat(first|exact Drawn0.refl _|apply Drawn0.step)⟩
     ·have dK:((rd l0 ab)==(rd l1 ab))=false:=beq_eq_false_iff_ne.mpr c8;have dL:((rd l0 ab) !=(rd l1 ab))=true:=bne_iff_ne.mpr c8;obtain rfl:=Option.some.inj H;have bc:0≤(ab:Int):=odt;have bd:ab<(l0.length:Int):=odt;obtain⟨dr,cm,cn⟩:=Kd.at_int aY.out ab bc bd;cases cm;replace bc:=eq_true bc;replace bd:=eq_true bd;have bf:0≤(ab:Int):=odt;have bg:ab<(l1.length:Int):=odt;obtain⟨ds,cp,cq⟩:=Kd.at_int aD.out ab bf bg;cases cp;replace bf:=eq_true bf;replace bg:=eq_true bg;go_wp2;repeat(go_quiet (fail);try go_wp2)
      go_ret;exact⟨by first|rfl|(simp;done)|(simp[*];done),by repeat(first|exact Drawn0.refl _|apply Drawn0.step)⟩
    ·have bF:=decide_eq_false c4;clear c4;obtain rfl:=Option.some.inj H;go_wp2;repeat(go_quiet (fail);try go_wp2)
     go_ret;exact⟨by first|rfl|(simp;done)|(simp[*];done),by repeat(first|exact Drawn0.refl _|apply Drawn0.step)⟩
 ·have ba:((l0.length:Int)==(l1.length:Int))=false:=beq_eq_false_iff_ne.mpr c3;have bb:((l0.length:Int) !=(l1.length:Int))=true:=bne_iff_ne.mpr c3;have bD:(l0.length==l1.length)=false:=by first|simpa using c3|(simp at c3⊢;omega)
  obtain rfl:=Option.some.inj H;go_enter Try.func106,Try.ntmps106;go_wp2;repeat(go_quiet (fail);try go_wp2)
  go_ret;exact⟨by first|rfl|(simp;done)|(simp[*];done),by repeat(first|exact Drawn0.refl _|apply Drawn0.step)⟩

/-! ### impl_isTidy: function 128 -/
def impl_isTidy.f (k:Nat) (a0:Int) (l1:List Int):Option (Bool):=(impl_isRank.f k a0 l1).bind fun t166=>(if t166=true then((impl_tidy.f k l1).bind fun t167=>((slices_Equal_int_int.f k t167 l1).bind fun t170=>(some t170)))else(some false))
theorem impl_isTidy.mono:∀a0 a1 k,LeO (impl_isTidy.f k a0 a1) (impl_isTidy.f (k+1) a0 a1):=by
 intro a0 a1 k;unfold impl_isTidy.f
 repeat' first
   |(with_reducible first|exact impl_isRank.mono _ _ _|exact impl_tidy.mono _ _|exact slices_Equal_int_int.mono _ _ _|exact LeO.refl _|exact LeO.none _|refine LeO.ite ?_ ?_|refine LeO.bind ?_ (fun _=>?_))
   |refine LeO.ite ?_ ?_
   |refine LeO.bind ?_ (fun _=>?_)
set_option maxHeartbeats 8000000 in
set_option maxRecDepth 100000 in
theorem impl_isTidy.calls (k:Nat) (a0:Int) (A1:Option Addr) (c1:Nat) (l1:List Int) (r:Bool) (w:World) (a7:Kd.C (Kd.int .i64) w A1 l1.length l1) (a8:l1.length≤c1) (h:impl_isTidy.f k a0 l1=some r):
  Calls Try.prog 128 #[.int .i64 a0,.slice A1 l1.length c1] w fun e w'=>e= .returned (.bool r)∧Below w.heap.size w w':=by
 have aD:=Asd.mk a7;have b5:=Asd.mk a8;clear a7 a8;have HB:=Asd.mk (Below.refl w.heap.size w);have H:((impl_isRank.f k a0 l1).bind fun t166=>(if t166=true then((impl_tidy.f k l1).bind fun t167=>((slices_Equal_int_int.f k t167 l1).bind fun t170=>(some t170)))else(some false)))=some r:=h;clear h;obtain⟨t166,A3,H⟩:=bE H;try dsimp only at H
 by_cases c4:t166=true
 ·subst c4;rw[if_pos rfl]at H;obtain⟨t167,A5,H⟩:=bE H;try dsimp only at H
  obtain⟨t170,A6,H⟩:=bE H;try dsimp only at H
  obtain rfl:=Option.some.inj H;go_enter Try.func128,Try.ntmps128;go_wp2_with (first|((with_reducible refine gate_callee (f:=90) rfl ?_);refine gB (some 7) Try.func90 #[.int .i64 a0,.slice A1 l1.length c1] rfl ?_;(with_reducible refine(impl_isRank.calls k a0 _ _ l1 true _ ?side1 ?side2 A3.out).mono ?_);(case side1=>exact cZ aD.out);(case side2=>exact b5.out);rintro e w7 ⟨rfl,hb⟩;refine⟨_,rfl,?_⟩;replace HB:=bW HB hb;clear hb)|(go_at_call 91;(with_reducible refine(impl_tidy.calls k _ _ l1 t167 _ ?side1 ?side2 A5.out).mono ?_);(case side1=>exact cZ (Kd.C_below aD.out HB.out));(case side2=>exact b5.out);rintro e w8 ⟨v168,rfl,ch,hb⟩;have b6:=Asd.mk (Kd.R_lower ch (below_size (wZ HB)));replace HB:=bW HB hb;clear hb;(try clear ch);obtain⟨e6,e7,eM⟩:=Kd.R_slice b6.out;subst eM)|(go_at_call 106;(with_reducible refine(slices_Equal_int_int.calls k _ _ t167 _ _ l1 t170 _ ?side1 ?side2 ?side3 ?side4 A6.out).mono ?_);(case side1=>exact cZ (Kd.R_reads' b6.out).2.2);(case side2=>exact(Kd.R_reads' b6.out).2.1);(case side3=>exact cZ (Kd.C_below aD.out HB.out));(case side4=>exact b5.out);rintro e w' ⟨rfl,⟨nd,rfl⟩⟩));go_ret;exact⟨by first|rfl|(simp[*,errW_none,errW_some]<;>rfl),wZ HB⟩
 ·replace c4:=Bool.eq_false_iff.mpr c4;subst c4;rw[if_neg (show¬(false=true) by decide)]at H;obtain rfl:=Option.some.inj H;go_enter Try.func128,Try.ntmps128;go_wp2_with (first|((with_reducible refine gate_callee (f:=90) rfl ?_);refine gB (some 7) Try.func90 #[.int .i64 a0,.slice A1 l1.length c1] rfl ?_;(with_reducible refine(impl_isRank.calls k a0 _ _ l1 false _ ?side1 ?side2 A3.out).mono ?_);(case side1=>exact cZ aD.out);(case side2=>exact b5.out);rintro e w10 ⟨rfl,hb⟩;refine⟨_,rfl,?_⟩;replace HB:=bW HB hb;clear hb));go_ret;exact⟨by first|rfl|(simp[*,errW_none,errW_some]<;>rfl),wZ HB⟩

/-! ### slices_IndexFunc_int_int: function 145 (by hand) -/
/-- Called at a row of numbers, in every world in which all that lay in w lies, the function value answers what p says, where p says something. -/
def GivesR (g:Nat) (lb:Array Value) (p:List Int→Option Bool) (w:World):Prop:=
 ∀(W:World) (A:Option Addr) (c:Nat) (l:List Int) (b:Bool),Below w.heap.size w W→Kd.C (Kd.int .i64) W A l.length l→l.length≤c→p l=some b→
  Calls Try.prog g (#[.slice A l.length c]++lb) W fun e w'=>e= .returned (.bool b)∧Below W.heap.size W w'
theorem at_row {w:World} {A:Option Addr} {n:Nat} {xs:List (List Int)} (h:Kd.C (Kd.slice 3 (Kd.int .i64)) w A n xs) (i:Int) (h0:0≤i) (h1:i<n):
  ∃ad A0 c0,A=some ad∧w.cell? (ad.add i.toNat)=some (.slice A0 (xs.getD i.toNat []).length c0)∧(xs.getD i.toNat []).length≤c0∧Kd.C (Kd.int .i64) w A0 (xs.getD i.toNat []).length (xs.getD i.toNat []):=by
 obtain⟨ad,c,e,_,hK,aN⟩:=Kd.C_get h ([]:List Int) i h0 h1;have hc:∀j u,c[j]?=some u→w.cell? (ad.add (i.toNat*1+j))=some u:=aN;obtain⟨A0,c0,rfl,l0,g0⟩:=hK;exact⟨ad,A0,c0,e,by have hq:=hc 0 _ rfl;rwa [Nat.mul_one,Nat.add_zero]at hq,l0,g0⟩
theorem idxR_step {p:List Int→Option Bool} {l:List (List Int)} {x:Int} (h0:0≤x) (h1:x<(l.length:Int)):
  Hof.idxL p (l.drop x.toNat) x=(p (l.getD x.toNat [])).bind fun b=>if b=true then some x else Hof.idxL p (l.drop (x+1).toNat) (x+1):=by
 have hl:x.toNat<l.length:=by omega
 rw[List.drop_eq_getElem_cons hl,show(x+1).toNat=x.toNat+1 from by omega,List.getD_eq_getElem?_getD,List.getElem?_eq_getElem hl];rfl
set_option maxHeartbeats 2000000 in
theorem IndexFuncR_calls (g:Nat) (lb:Array Value) (eg:∀args w,(callFunc g args).run Try.prog w= .ok (.enter g args) w) (p:List Int→Option Bool)
  (A:Option Addr) (c:Nat) (l:List (List Int)) (r:Int) (w:World) (hr:Kd.C (Kd.slice 3 (Kd.int .i64)) w A l.length l) (hp:GivesR g lb p w) (h:Hof.idxL p l 0=some r):
  Calls Try.prog 145 #[.slice A l.length c,.func (.func g) #[] lb] w fun e w'=>e= .returned (.int .i64 r)∧Below w.heap.size w w':=by
 have HR:=Asd.mk hr;have HP:=Asd.mk hp;have HH:Asd (Hof.idxL p (l.drop (0:Int).toNat) 0=some r):=Asd.mk h;have hlen:(l.length:Int)≤9223372036854775807:=by have:=hr.2.1;omega
 clear hr hp h;go_enter Try.func145,Try.ntmps145;go_wp2;go_loopg [5,8] l.length (fun gg _ s8 wr=>∃x:Int,0≤x∧x≤(l.length:Int)∧(l.length:Int) - x≤gg∧s8= .int .i64 x∧Asd (Below w.heap.size w wr)∧Asd (Hof.idxL p (l.drop x.toNat) x=some r))
 case atStart=>exact⟨0,by omega,by omega,by omega,rfl,⟨Below.refl _ _⟩,HH⟩
 case round=>
  clear HH;obtain⟨x,dM,e8,hg,rfl,HB,HA⟩:=hrel;by_cases dN:x<(l.length:Int)
  ·obtain⟨ad,A0,c0,e,hx,dt,dO⟩:=at_row HR.out x dM dN;cases e;replace hx:=(HB.out.cell (World.block_lt_of_cell? w _ hx)).trans hx;have du:=Kd.C_below dO HB.out;obtain⟨b,hb,bh⟩:=Option.bind_eq_some_iff.mp ((idxR_step dM dN).symm.trans HA.out);clear HA;obtain⟨y,hy⟩:∃y,y=l.getD x.toNat []:=⟨_,rfl⟩;rw[←hy]at hx dt du hb;have bj:=HP.out wr A0 c0 y b HB.out du dt hb;have HRest:=Asd.mk bh;clear bh hb HR HP dO du dt hy;cases b with
   |true=>
    go_wp2_with fail;refine bj.mono ?_;rintro e w' ⟨rfl,hb'⟩;go_wp2_with fail;obtain rfl:x=r:=by have:=HRest.out;simpa using this
    go_ret;exact⟨rfl,below_then HB.out HB.out.size hb'⟩
   |false=>
    go_wp2_with fail;refine bj.mono ?_;rintro e w' ⟨rfl,hb'⟩;go_wp2_with fail;go_roundg (l.length - (x+1).toNat)
    case measure=>omega
    case rel=>exact⟨x+1,by omega,by omega,by omega,by go_num,⟨below_then HB.out HB.out.size hb'⟩,⟨by have:=HRest.out;simpa using this⟩⟩
  ·have eN:x=(l.length:Int):=by omega
   have e2:(-1:Int)=r:=by
    have:=HA.out;rw[eN,show((l.length:Int)).toNat=l.length from by omega,List.drop_length]at this;simpa [Hof.idxL] using this
   clear HA;subst e2;go_wp2;go_ret;exact⟨rfl,HB.out⟩

/-! ### slices_ContainsFunc_int_int: function 129 (by hand) -/
set_option maxHeartbeats 2000000 in
theorem ContainsFuncR_calls (g:Nat) (lb:Array Value) (eg:∀args w,(callFunc g args).run Try.prog w= .ok (.enter g args) w) (p:List Int→Option Bool)
  (A:Option Addr) (c:Nat) (l:List (List Int)) (r:Bool) (w:World) (hr:Kd.C (Kd.slice 3 (Kd.int .i64)) w A l.length l) (hp:GivesR g lb p w) (h:Hof.contL p l=some r):
  Calls Try.prog 129 #[.slice A l.length c,.func (.func g) #[] lb] w fun e w'=>e= .returned (.bool r)∧Below w.heap.size w w':=by
 obtain⟨i,hi,hr'⟩:=Option.bind_eq_some_iff.mp h;obtain rfl:=Option.some.inj hr';clear h;have bj:=IndexFuncR_calls g lb eg p A c l i w hr hp hi;clear hi hp hr hr';have HC:=Asd.mk bj;clear bj;go_enter Try.func129,Try.ntmps129;go_wp2_with (go_at_call 145;refine HC.out.mono ?_;rintro e w' ⟨rfl,hb'⟩);go_ret;exact⟨rfl,hb'⟩

/-! ### impl_isMind: function 101 (by hand) -/
def impl_isMind.no (k:Nat) (a0:Int) (x:List Int):Option Bool:=(impl_isTidy.f k a0 x).bind fun b=>some (!b)
def impl_isMind.f (k:Nat) (aa:Int) (J:List Int) (o:List (List Int)):Option Bool:=(impl_isTidy.f k aa J).bind fun t=>if t=true then(if(o.length:Int)≤10 then(Hof.contL (impl_isMind.no k aa) o).bind fun b=>some (!b)else some false)else some false
theorem idxL_mono {α:Type} {p q:α→Option Bool} (h:∀x,LeO (p x) (q x)):∀(l:List α) (i:Int),LeO (Hof.idxL p l i) (Hof.idxL q l i)
 | [],_=>LeO.refl _
 |x::l,i=>by
  unfold Hof.idxL;refine LeO.bind (h x) (fun b=>?_);split
  ·exact LeO.refl _
  ·exact idxL_mono h l (i+1)
theorem impl_isMind.mono:∀a0 a1 a2 k,LeO (impl_isMind.f k a0 a1 a2) (impl_isMind.f (k+1) a0 a1 a2):=by
 intro a0 a1 a2 k;unfold impl_isMind.f;refine LeO.bind (impl_isTidy.mono _ _ _) (fun t=>LeO.ite (LeO.ite (LeO.bind ?_ (fun b=>LeO.refl _)) (LeO.refl _)) (LeO.refl _));unfold Hof.contL;refine LeO.bind (idxL_mono (fun x=>?_) _ _) (fun b=>LeO.refl _);unfold impl_isMind.no;exact LeO.bind (impl_isTidy.mono _ _ _) (fun b=>LeO.refl _)
theorem impl_isMind.gives (k:Nat) (w:World) (B:Nat) (a0:Int) (hB:B<w.heap.size) (hc:w.cell? ⟨B,0,none⟩=some (.int .i64 a0)):GivesR 130 #[.pointer (some ⟨B,0,none⟩)] (impl_isMind.no k a0) w:=fun W A c l b hb hC hl hp=>by
 have hc':=(hb.cell (p:=⟨B,0,none⟩) hB).trans hc;obtain⟨t,ht,bh⟩:=Option.bind_eq_some_iff.mp hp;obtain rfl:=Option.some.inj bh;have HS:=Asd.mk (impl_isTidy.calls k a0 A c l t W hC hl ht);clear hc hb hp ht bh hC hl;have hu:=Try.underlying58;go_enter Try.func130,Try.ntmps130;go_wp2_with fail;refine HS.out.mono ?_;rintro e w1 ⟨rfl,aM⟩;go_wp2;go_ret;exact⟨rfl,aM⟩
set_option maxHeartbeats 4000000 in
theorem impl_isMind.calls (k:Nat) (aa:Int) (ai:Option Addr) (aj:Nat) (J:List Int) (ag:Option Addr) (ah:Nat) (o:List (List Int)) (r:Bool) (w:World) (ak:Kd.C (Kd.int .i64) w ai J.length J) (al:J.length≤aj) (an:Kd.C (Kd.slice 3 (Kd.int .i64)) w ag o.length o) (az:o.length≤ah) (h:impl_isMind.f k aa J o=some r):
  Calls Try.prog 101 #[.agg #[.int .i64 aa,.slice ai J.length aj,.slice ag o.length ah]] w fun e w'=>e= .returned (.bool r)∧Below w.heap.size w w':=by
 have hu:=Try.underlying58;obtain⟨t,ht,h⟩:=Option.bind_eq_some_iff.mp h;have aD:=Asd.mk ak;have eO:=Asd.mk an;have HB:=Asd.mk (Below.refl w.heap.size w);have HA:=Asd.mk (bwA HB.out (.cells #[.int .i64 aa,.slice ai J.length aj,.slice ag o.length ah] 58));have HT:=Asd.mk (fun W hR=>impl_isTidy.calls k aa ai aj J t W hR al ht);clear ak an ht al;cases t with
 |false=>
  obtain rfl:false=r:=by simpa using h
  clear h;go_enter Try.func101,Try.ntmps101;go_wp2_with fail;refine(HT.out _ (Kd.C_below aD.out HA.out)).mono ?_;rintro e w1 ⟨rfl,aM⟩;have b7:=Asd.mk (below_then HA.out HA.out.size aM);clear aM;go_wp2;go_ret;exact⟨rfl,b7.out⟩
 |true=>
  rw[if_pos rfl]at h;by_cases hl:(o.length:Int)≤10
  ·rw[if_pos hl]at h;obtain⟨b,hb,h⟩:=Option.bind_eq_some_iff.mp h;obtain rfl:=Option.some.inj h;have HC:=Asd.mk (fun W hR hp=>ContainsFuncR_calls 130 #[.pointer (some ⟨w.heap.size,0,none⟩)] (Hof.enters Try.func130 (by kernel_rfl) rfl) (impl_isMind.no k aa) ag ah o b W hR hp hb);clear h hb;have hl':decide ((o.length:Int)≤10)=true:=decide_eq_true hl;have eP:decide (o.length≤10)=true:=decide_eq_true (by omega);clear hl;go_enter Try.func101,Try.ntmps101;go_wp2_with fail;refine(HT.out _ (Kd.C_below aD.out HA.out)).mono ?_;rintro e w1 ⟨rfl,aM⟩;have k0:w1.cell? ⟨w.heap.size,0,none⟩=some (.int .i64 aa):=(aM.cell (p:=⟨w.heap.size,0,none⟩) (by simp)).trans (by simp);have k2:w1.cell? ⟨w.heap.size,2,none⟩=some (.slice ag o.length ah):=(aM.cell (p:=⟨w.heap.size,2,none⟩) (by simp)).trans (by simp);have hz:w.heap.size<w1.heap.size:=Nat.lt_of_lt_of_le (by simp) aM.size;have b7:=Asd.mk (below_then HA.out HA.out.size aM);have HG:=Asd.mk (impl_isMind.gives k w1 w.heap.size aa hz k0);clear aM hz;go_wp2_with fail;refine(HC.out _ (Kd.C_below eO.out b7.out) HG.out).mono ?_;rintro e w2 ⟨rfl,eQ⟩;go_wp2;go_ret;exact⟨rfl,below_then b7.out b7.out.size eQ⟩
  ·rw[if_neg hl]at h;obtain rfl:=Option.some.inj h;clear h;have hl':decide ((o.length:Int)≤10)=false:=decide_eq_false hl;have eP:decide (o.length≤10)=false:=decide_eq_false (by omega);clear hl;go_enter Try.func101,Try.ntmps101;go_wp2_with fail;refine(HT.out _ (Kd.C_below aD.out HA.out)).mono ?_;rintro e w1 ⟨rfl,aM⟩;have k2:w1.cell? ⟨w.heap.size,2,none⟩=some (.slice ag o.length ah):=(aM.cell (p:=⟨w.heap.size,2,none⟩) (by simp)).trans (by simp);have b7:=Asd.mk (below_then HA.out HA.out.size aM);clear aM;go_wp2;go_ret;exact⟨rfl,b7.out⟩

/-! ### impl_MindValid: function 54 -/
def impl_MindValid.f (k:Nat) (aa:Int) (J:List Int) (o:List (List Int)):Option (Bool):=(impl_isMind.f k aa J o).bind fun t172=>(some t172)
theorem impl_MindValid.mono:∀a0 a1 a2 k,LeO (impl_MindValid.f k a0 a1 a2) (impl_MindValid.f (k+1) a0 a1 a2):=by
 intro a0 a1 a2 k;unfold impl_MindValid.f
 repeat' first
   |(with_reducible first|exact impl_isMind.mono _ _ _ _|exact LeO.refl _|exact LeO.none _|refine LeO.ite ?_ ?_|refine LeO.bind ?_ (fun _=>?_))
   |refine LeO.ite ?_ ?_
   |refine LeO.bind ?_ (fun _=>?_)
set_option maxHeartbeats 8000000 in
set_option maxRecDepth 100000 in
theorem impl_MindValid.calls (k:Nat) (aa:Int) (ai:Option Addr) (aj:Nat) (J:List Int) (ag:Option Addr) (ah:Nat) (o:List (List Int)) (r:Bool) (w:World) (ak:Kd.C (Kd.int .i64) w ai J.length J) (al:J.length≤aj) (an:Kd.C (Kd.slice 3 (Kd.int .i64)) w ag o.length o) (az:o.length≤ah) (h:impl_MindValid.f k aa J o=some r):
  Calls Try.prog 54 #[.agg #[.int .i64 aa,.slice ai J.length aj,.slice ag o.length ah]] w fun e w'=>e= .returned (.bool r)∧Below w.heap.size w w':=by
 have df:=Try.underlying58;have aT:=Asd.mk ak;have aU:=Asd.mk al;clear ak al;have bk:=Asd.mk an;have bl:=Asd.mk az;clear an az;have HB:=Asd.mk (Below.refl w.heap.size w);have H:((impl_isMind.f k aa J o).bind fun t172=>(some t172))=some r:=h;clear h;obtain⟨t172,A2,H⟩:=bE H;try dsimp only at H
 obtain rfl:=Option.some.inj H;go_enter Try.func54,Try.ntmps54;go_wp2_with (first|((with_reducible refine gate_dst (N:=1) rfl ?_);refine bxA 1 #[.int .i64 aa,.slice ai J.length aj,.slice ag o.length ah] 58 ?_;intro eR hg w3 ae hb;have b8:=Asd.mk (ae);have eS:=bG HB hg;have eT:=bG HB hg;replace HB:=bW HB hb;clear hb ae hg;obtain⟨cN,cO,cP,cQ,cR,cS⟩:=b3 b8)|((with_reducible refine gate_callee (f:=101) rfl ?_);refine gB (some 4) Try.func101 #[.agg #[.int .i64 aa,.slice ai J.length aj,.slice ag o.length ah]] rfl ?_;(with_reducible refine(impl_isMind.calls k aa _ _ J _ _ o t172 _ ?side1 ?side2 ?side3 ?side4 A2.out).mono ?_);(case side1=>exact cZ (Kd.C_below aT.out HB.out));(case side2=>exact aU.out);(case side3=>exact cZ (Kd.C_below bk.out HB.out));(case side4=>exact bl.out);rintro e w5 ⟨rfl,hb⟩;refine⟨_,rfl,?_⟩;replace b8:=bU b8 hb;replace HB:=bW HB hb;clear hb));go_ret;exact⟨by first|rfl|(simp[*,errW_none,errW_some]<;>rfl),wZ HB⟩

/-! ### laws_sameInts: function 104 -/
def laws_sameInts.l0:Nat→List Int→List Int→Int→Option (Bool)
 |0,_,_,_=>none
 |k+1,x0,x1,x5=>if x5<(x0.length:Int)then(if 0≤x5 then(if x5<(x1.length:Int)then(if(rd x0 x5)=(rd x1 x5)then(laws_sameInts.l0 k x0 x1 (wrap64 (x5+1)))else(some false))else(none))else(none))else(some true)
def laws_sameInts.f (k:Nat) (l0:List Int) (l1:List Int):Option (Bool):=if(l0.length:Int)=(l1.length:Int)then(laws_sameInts.l0 k l0 l1 0)else(some false)
theorem laws_sameInts.mono_l:∀k,(∀y0 y1 y2,LeO (laws_sameInts.l0 k y0 y1 y2) (laws_sameInts.l0 (k+1) y0 y1 y2))
 |0=>fun _ _ _ r h=>by simp[laws_sameInts.l0]at h
 |k+1=>by
  have aK:=laws_sameInts.mono_l k
  ·intro y0 y1 y2;unfold laws_sameInts.l0;repeat' first
   |(with_reducible first|exact aK _ _ _|exact LeO.refl _|exact LeO.none _|refine LeO.ite ?_ ?_|refine LeO.bind ?_ (fun _=>?_))
   |refine LeO.ite ?_ ?_
   |refine LeO.bind ?_ (fun _=>?_)
theorem laws_sameInts.mono:∀a0 a1 k,LeO (laws_sameInts.f k a0 a1) (laws_sameInts.f (k+1) a0 a1):=by
 intro a0 a1 k;have aK:=laws_sameInts.mono_l k;unfold laws_sameInts.f
 repeat' first
   |(with_reducible first|exact aK _ _ _|exact LeO.refl _|exact LeO.none _|refine LeO.ite ?_ ?_|refine LeO.bind ?_ (fun _=>?_))
   |refine LeO.ite ?_ ?_
   |refine LeO.bind ?_ (fun _=>?_)
set_option maxHeartbeats 8000000 in
set_option maxRecDepth 100000 in
theorem laws_sameInts.calls (k:Nat) (A0:Option Addr) (c0:Nat) (l0:List Int) (A1:Option Addr) (c1:Nat) (l1:List Int) (r:Bool) (w:World) (aW:Kd.C (Kd.int .i64) w A0 l0.length l0) (aN:l0.length≤c0) (a7:Kd.C (Kd.int .i64) w A1 l1.length l1) (a8:l1.length≤c1) (h:laws_sameInts.f k l0 l1=some r):
  Calls Try.prog 104 #[.slice A0 l0.length c0,.slice A1 l1.length c1] w fun e w'=>e= .returned (.bool r)∧Drawn0 w w':=by
 have aY:=Asd.mk aW;have dg:=Asd.mk aN;clear aW aN;have aD:=Asd.mk a7;have b5:=Asd.mk a8;clear a7 a8;have H:(if(l0.length:Int)=(l1.length:Int)then(laws_sameInts.l0 k l0 l1 0)else(some false))=some r:=h;clear h;rcases iT H with⟨c3,H⟩|⟨c3,H⟩
 ·have ba:((l0.length:Int)==(l1.length:Int))=true:=beq_iff_eq.mpr c3;have bb:((l0.length:Int) !=(l1.length:Int))=false:=bne_eq_false_iff_eq.mpr c3;have bD:(l0.length==l1.length)=true:=by first|simpa using c3|(simp at c3⊢;omega)
  clear c3;have H':=Asd.mk H;clear H;go_enter Try.func104,Try.ntmps104;go_wp2;repeat(go_quiet (fail);try go_wp2)
  go_loopg [5] k (fun kq v5 w'=>∃(I:Int),v5= .int .i64 I∧Asd (laws_sameInts.l0 kq l0 l1 I=some r)∧Asd (kq≤k)∧Drawn0 w w')
  case atStart=>exact⟨(0),(by first|rfl|(simp;done)|(simp[*];done)),H',⟨Nat.le_refl _⟩,by repeat(first|exact Drawn0.refl _|apply Drawn0.step)⟩
  case round=>
   clear H';obtain⟨I,rfl,HA,aZ,⟨m1,rfl⟩⟩:=hrel;cases gk with
   |zero=>exact absurd HA.out (by simp[laws_sameInts.l0])
   |succ k1=>
    have H:=HA.out;clear HA;simp only[laws_sameInts.l0]at H;rcases iT H with⟨c4,H⟩|⟨c4,H⟩
    ·have bF:=decide_eq_true c4;clear c4;obtain⟨c5,H⟩:=iN H;have dc:=decide_eq_true c5;clear c5;obtain⟨c6,H⟩:=iN H;have dd:=decide_eq_true c6;clear c6;rcases iT H with⟨c7,H⟩|⟨c7,H⟩
     ·have de:((rd l0 I)==(rd l1 I))=true:=beq_iff_eq.mpr c7;have dP:((rd l0 I) !=(rd l1 I))=false:=bne_eq_false_iff_eq.mpr c7;clear c7;have H':=Asd.mk H;clear H;have bn:0≤(I:Int):=odt;have bo:I<(l0.length:Int):=odt;obtain⟨dv,cr,ct⟩:=Kd.at_int aY.out I bn bo;cases cr;replace bn:=eq_true bn;replace bo:=eq_true bo;have bp:0≤(I:Int):=odt;have bq:I<(l1.length:Int):=odt;obtain⟨dw,cu,cv⟩:=Kd.at_int aD.out I bp bq;cases cu;replace bp:=eq_true bp;replace bq:=eq_true bq;go_wp2;repeat(go_quiet (fail);try go_wp2)
      go_roundg k1
      case measure=>have:=aZ.out;omega
      case rel=>exact⟨(wrap64 (I+1)),(by first|rfl|(simp;done)|(simp[*];done)),H',⟨by have:=aZ.out;omega⟩,by repeat(first|exact Drawn0.refl _|apply Drawn0.step)⟩
     ·have de:((rd l0 I)==(rd l1 I))=false:=beq_eq_false_iff_ne.mpr c7;have dP:((rd l0 I) !=(rd l1 I))=true:=bne_iff_ne.mpr c7;obtain rfl:=Option.some.inj H;have bn:0≤(I:Int):=odt;have bo:I<(l0.length:Int):=odt;obtain⟨dv,cr,ct⟩:=Kd.at_int aY.out I bn bo;cases cr;replace bn:=eq_true bn;replace bo:=eq_true bo;have bp:0≤(I:Int):=odt;have bq:I<(l1.length:Int):=odt;obtain⟨dw,cu,cv⟩:=Kd.at_int aD.out I bp bq;cases cu;replace bp:=eq_true bp;replace bq:=eq_true bq;go_wp2;repeat(go_quiet (fail);try go_wp2)
      go_ret;exact⟨by first|rfl|(simp;done)|(simp[*];done),by repeat(first|exact Drawn0.refl _|apply Drawn0.step)⟩
    ·have bF:=decide_eq_false c4;clear c4;obtain rfl:=Option.some.inj H;go_wp2;repeat(go_quiet (fail);try go_wp2)
     go_ret;exact⟨by first|rfl|(simp;done)|(simp[*];done),by repeat(first|exact Drawn0.refl _|apply Drawn0.step)⟩
 ·have ba:((l0.length:Int)==(l1.length:Int))=false:=beq_eq_false_iff_ne.mpr c3;have bb:((l0.length:Int) !=(l1.length:Int))=true:=bne_iff_ne.mpr c3;have bD:(l0.length==l1.length)=false:=by first|simpa using c3|(simp at c3⊢;omega)
  obtain rfl:=Option.some.inj H;go_enter Try.func104,Try.ntmps104;go_wp2;repeat(go_quiet (fail);try go_wp2)
  go_ret;exact⟨by first|rfl|(simp;done)|(simp[*];done),by repeat(first|exact Drawn0.refl _|apply Drawn0.step)⟩

/-! ### laws_sameRows: function 105 -/
def laws_sameRows.l0:Nat→List (List Int)→List (List Int)→Int→Option (Bool)
 |0,_,_,_=>none
 |k+1,x0,x1,x5=>if x5<(x0.length:Int)then(if 0≤x5 then(if x5<(x1.length:Int)then((laws_sameInts.f k (rd_L1 x0 x5) (rd_L1 x1 x5)).bind fun t177=>(if t177=true then(laws_sameRows.l0 k x0 x1 (wrap64 (x5+1)))else(some false)))else(none))else(none))else(some true)
def laws_sameRows.f (k:Nat) (l0:List (List Int)) (l1:List (List Int)):Option (Bool):=if(l0.length:Int)=(l1.length:Int)then(laws_sameRows.l0 k l0 l1 0)else(some false)
theorem laws_sameRows.mono_l:∀k,(∀y0 y1 y2,LeO (laws_sameRows.l0 k y0 y1 y2) (laws_sameRows.l0 (k+1) y0 y1 y2))
 |0=>fun _ _ _ r h=>by simp[laws_sameRows.l0]at h
 |k+1=>by
  have aK:=laws_sameRows.mono_l k
  ·intro y0 y1 y2;unfold laws_sameRows.l0;repeat' first
   |(with_reducible first|exact aK _ _ _|exact laws_sameInts.mono _ _ _|exact LeO.refl _|exact LeO.none _|refine LeO.ite ?_ ?_|refine LeO.bind ?_ (fun _=>?_))
   |refine LeO.ite ?_ ?_
   |refine LeO.bind ?_ (fun _=>?_)
theorem laws_sameRows.mono:∀a0 a1 k,LeO (laws_sameRows.f k a0 a1) (laws_sameRows.f (k+1) a0 a1):=by
 intro a0 a1 k;have aK:=laws_sameRows.mono_l k;unfold laws_sameRows.f
 repeat' first
   |(with_reducible first|exact aK _ _ _|exact laws_sameInts.mono _ _ _|exact LeO.refl _|exact LeO.none _|refine LeO.ite ?_ ?_|refine LeO.bind ?_ (fun _=>?_))
   |refine LeO.ite ?_ ?_
   |refine LeO.bind ?_ (fun _=>?_)
set_option maxHeartbeats 8000000 in
set_option maxRecDepth 100000 in
theorem laws_sameRows.calls (k:Nat) (A0:Option Addr) (c0:Nat) (l0:List (List Int)) (A1:Option Addr) (c1:Nat) (l1:List (List Int)) (r:Bool) (w:World) (aW:Kd.C (Kd.slice 3 (Kd.int .i64)) w A0 l0.length l0) (aN:l0.length≤c0) (a7:Kd.C (Kd.slice 3 (Kd.int .i64)) w A1 l1.length l1) (a8:l1.length≤c1) (h:laws_sameRows.f k l0 l1=some r):
  Calls Try.prog 105 #[.slice A0 l0.length c0,.slice A1 l1.length c1] w fun e w'=>e= .returned (.bool r)∧Drawn0 w w':=by
 have aY:=Asd.mk aW;have dg:=Asd.mk aN;clear aW aN;have aD:=Asd.mk a7;have b5:=Asd.mk a8;clear a7 a8;have H:(if(l0.length:Int)=(l1.length:Int)then(laws_sameRows.l0 k l0 l1 0)else(some false))=some r:=h;clear h;rcases iT H with⟨c3,H⟩|⟨c3,H⟩
 ·have ba:((l0.length:Int)==(l1.length:Int))=true:=beq_iff_eq.mpr c3;have bb:((l0.length:Int) !=(l1.length:Int))=false:=bne_eq_false_iff_eq.mpr c3;have bD:(l0.length==l1.length)=true:=by first|simpa using c3|(simp at c3⊢;omega)
  clear c3;have H':=Asd.mk H;clear H;go_enter Try.func105,Try.ntmps105;go_wp2;repeat(go_quiet (fail);try go_wp2)
  go_loopg [5] k (fun kq v5 w'=>∃(I:Int),v5= .int .i64 I∧Asd (laws_sameRows.l0 kq l0 l1 I=some r)∧Asd (kq≤k)∧Drawn0 w w')
  case atStart=>exact⟨(0),(by first|rfl|(simp;done)|(simp[*];done)),H',⟨Nat.le_refl _⟩,by repeat(first|exact Drawn0.refl _|apply Drawn0.step)⟩
  case round=>
   clear H';obtain⟨I,rfl,HA,aZ,⟨m1,rfl⟩⟩:=hrel;cases gk with
   |zero=>exact absurd HA.out (by simp[laws_sameRows.l0])
   |succ k1=>
    have H:=HA.out;clear HA;simp only[laws_sameRows.l0]at H;rcases iT H with⟨c4,H⟩|⟨c4,H⟩
    ·have bF:=decide_eq_true c4;clear c4;obtain⟨c5,H⟩:=iN H;have dc:=decide_eq_true c5;clear c5;obtain⟨c6,H⟩:=iN H;have dd:=decide_eq_true c6;clear c6;obtain⟨t177,A7,H⟩:=bE H;try dsimp only at H
     by_cases c8:t177=true
     ·subst c8;rw[if_pos rfl]at H;have H':=Asd.mk H;clear H;have br:0≤(I:Int):=odt;have bs:I<(l0.length:Int):=odt;obtain⟨dx,cT,cU,cw,cx,aE,aG⟩:=at_L1 aY.out I br bs;cases cw;have ao:=Asd.mk aG;have aq:=Asd.mk aE;clear aG aE;replace br:=eq_true br;replace bs:=eq_true bs;have bu:0≤(I:Int):=odt;have bw:I<(l1.length:Int):=odt;obtain⟨dy,cV,cW,cy,cz,aH,aI⟩:=at_L1 aD.out I bu bw;cases cy;have ar:=Asd.mk aI;have au:=Asd.mk aH;clear aI aH;replace bu:=eq_true bu;replace bw:=eq_true bw;go_wp2_with (first|(go_at_call 104;(with_reducible refine(laws_sameInts.calls k1 _ _ (rd_L1 l0 I) _ _ (rd_L1 l1 I) true _ ?side1 ?side2 ?side3 ?side4 A7.out).mono ?_);(case side1=>exact cZ ao.out);(case side2=>exact aq.out);(case side3=>exact cZ ar.out);(case side4=>exact au.out);rintro e w' ⟨rfl,⟨nd,rfl⟩⟩;(try first|exact⟨rfl,_,World.drewN_drewN _ _ _⟩|exact⟨rfl,_,Eq.trans (World.drewN_drewN _ _ _) (congrArg (World.drewN _) (Nat.add_assoc _ _ _))⟩)));repeat(go_quiet (first|(go_at_call 104;(with_reducible refine(laws_sameInts.calls k1 _ _ (rd_L1 l0 I) _ _ (rd_L1 l1 I) true _ ?side1 ?side2 ?side3 ?side4 A7.out).mono ?_);(case side1=>exact cZ ao.out);(case side2=>exact aq.out);(case side3=>exact cZ ar.out);(case side4=>exact au.out);rintro e w' ⟨rfl,⟨nd,rfl⟩⟩;(try first|exact⟨rfl,_,World.drewN_drewN _ _ _⟩|exact⟨rfl,_,Eq.trans (World.drewN_drewN _ _ _) (congrArg (World.drewN _) (Nat.add_assoc _ _ _))⟩)));try go_wp2_with (first|(go_at_call 104;(with_reducible refine(laws_sameInts.calls k1 _ _ (rd_L1 l0 I) _ _ (rd_L1 l1 I) true _ ?side1 ?side2 ?side3 ?side4 A7.out).mono ?_);(case side1=>exact cZ ao.out);(case side2=>exact aq.out);(case side3=>exact cZ ar.out);(case side4=>exact au.out);rintro e w' ⟨rfl,⟨nd,rfl⟩⟩;(try first|exact⟨rfl,_,World.drewN_drewN _ _ _⟩|exact⟨rfl,_,Eq.trans (World.drewN_drewN _ _ _) (congrArg (World.drewN _) (Nat.add_assoc _ _ _))⟩))))
      go_roundg k1
      case measure=>have:=aZ.out;omega
      case rel=>exact⟨(wrap64 (I+1)),(by first|rfl|(simp;done)|(simp[*];done)),H',⟨by have:=aZ.out;omega⟩,by repeat(first|exact Drawn0.refl _|apply Drawn0.step)⟩
     ·replace c8:=Bool.eq_false_iff.mpr c8;subst c8;rw[if_neg (show¬(false=true) by decide)]at H;obtain rfl:=Option.some.inj H;have br:0≤(I:Int):=odt;have bs:I<(l0.length:Int):=odt;obtain⟨dx,cT,cU,cw,cx,aE,aG⟩:=at_L1 aY.out I br bs;cases cw;have ao:=Asd.mk aG;have aq:=Asd.mk aE;clear aG aE;replace br:=eq_true br;replace bs:=eq_true bs;have bu:0≤(I:Int):=odt;have bw:I<(l1.length:Int):=odt;obtain⟨dy,cV,cW,cy,cz,aH,aI⟩:=at_L1 aD.out I bu bw;cases cy;have ar:=Asd.mk aI;have au:=Asd.mk aH;clear aI aH;replace bu:=eq_true bu;replace bw:=eq_true bw;go_wp2_with (first|(go_at_call 104;(with_reducible refine(laws_sameInts.calls k1 _ _ (rd_L1 l0 I) _ _ (rd_L1 l1 I) false _ ?side1 ?side2 ?side3 ?side4 A7.out).mono ?_);(case side1=>exact cZ ao.out);(case side2=>exact aq.out);(case side3=>exact cZ ar.out);(case side4=>exact au.out);rintro e w' ⟨rfl,⟨nd,rfl⟩⟩;(try first|exact⟨rfl,_,World.drewN_drewN _ _ _⟩|exact⟨rfl,_,Eq.trans (World.drewN_drewN _ _ _) (congrArg (World.drewN _) (Nat.add_assoc _ _ _))⟩)));repeat(go_quiet (first|(go_at_call 104;(with_reducible refine(laws_sameInts.calls k1 _ _ (rd_L1 l0 I) _ _ (rd_L1 l1 I) false _ ?side1 ?side2 ?side3 ?side4 A7.out).mono ?_);(case side1=>exact cZ ao.out);(case side2=>exact aq.out);(case side3=>exact cZ ar.out);(case side4=>exact au.out);rintro e w' ⟨rfl,⟨nd,rfl⟩⟩;(try first|exact⟨rfl,_,World.drewN_drewN _ _ _⟩|exact⟨rfl,_,Eq.trans (World.drewN_drewN _ _ _) (congrArg (World.drewN _) (Nat.add_assoc _ _ _))⟩)));try go_wp2_with (first|(go_at_call 104;(with_reducible refine(laws_sameInts.calls k1 _ _ (rd_L1 l0 I) _ _ (rd_L1 l1 I) false _ ?side1 ?side2 ?side3 ?side4 A7.out).mono ?_);(case side1=>exact cZ ao.out);(case side2=>exact aq.out);(case side3=>exact cZ ar.out);(case side4=>exact au.out);rintro e w' ⟨rfl,⟨nd,rfl⟩⟩;(try first|exact⟨rfl,_,World.drewN_drewN _ _ _⟩|exact⟨rfl,_,Eq.trans (World.drewN_drewN _ _ _) (congrArg (World.drewN _) (Nat.add_assoc _ _ _))⟩))))
      go_ret;exact⟨by first|rfl|(simp;done)|(simp[*];done),by repeat(first|exact Drawn0.refl _|apply Drawn0.step)⟩
    ·have bF:=decide_eq_false c4;clear c4;obtain rfl:=Option.some.inj H;go_wp2;repeat(go_quiet (fail);try go_wp2)
     go_ret;exact⟨by first|rfl|(simp;done)|(simp[*];done),by repeat(first|exact Drawn0.refl _|apply Drawn0.step)⟩
 ·have ba:((l0.length:Int)==(l1.length:Int))=false:=beq_eq_false_iff_ne.mpr c3;have bb:((l0.length:Int) !=(l1.length:Int))=true:=bne_iff_ne.mpr c3;have bD:(l0.length==l1.length)=false:=by first|simpa using c3|(simp at c3⊢;omega)
  obtain rfl:=Option.some.inj H;go_enter Try.func105,Try.ntmps105;go_wp2;repeat(go_quiet (fail);try go_wp2)
  go_ret;exact⟨by first|rfl|(simp;done)|(simp[*];done),by repeat(first|exact Drawn0.refl _|apply Drawn0.step)⟩

/-! ### laws_sameMind: function 58 -/
def laws_sameMind.f (k:Nat) (aa:Int) (J:List Int) (o:List (List Int)) (aA:Int) (ay:List Int) (aC:List (List Int)):Option (Bool):=if aa=aA then((laws_sameInts.f k J ay).bind fun t180=>(if t180=true then((laws_sameRows.f k o aC).bind fun t181=>(some t181))else(some false)))else(some false)
theorem laws_sameMind.mono:∀a0 a1 a2 a3 a4 a5 k,LeO (laws_sameMind.f k a0 a1 a2 a3 a4 a5) (laws_sameMind.f (k+1) a0 a1 a2 a3 a4 a5):=by
 intro a0 a1 a2 a3 a4 a5 k;unfold laws_sameMind.f
 repeat' first
   |(with_reducible first|exact laws_sameInts.mono _ _ _|exact laws_sameRows.mono _ _ _|exact LeO.refl _|exact LeO.none _|refine LeO.ite ?_ ?_|refine LeO.bind ?_ (fun _=>?_))
   |refine LeO.ite ?_ ?_
   |refine LeO.bind ?_ (fun _=>?_)
set_option maxHeartbeats 8000000 in
set_option maxRecDepth 100000 in
theorem laws_sameMind.calls (k:Nat) (aa:Int) (ai:Option Addr) (aj:Nat) (J:List Int) (ag:Option Addr) (ah:Nat) (o:List (List Int)) (aA:Int) (bH:Option Addr) (bJ:Nat) (ay:List Int) (bO:Option Addr) (bT:Nat) (aC:List (List Int)) (r:Bool) (w:World) (ak:Kd.C (Kd.int .i64) w ai J.length J) (al:J.length≤aj) (an:Kd.C (Kd.slice 3 (Kd.int .i64)) w ag o.length o) (az:o.length≤ah) (cA:Kd.C (Kd.int .i64) w bH ay.length ay) (cB:ay.length≤bJ) (cC:Kd.C (Kd.slice 3 (Kd.int .i64)) w bO aC.length aC) (cD:aC.length≤bT) (h:laws_sameMind.f k aa J o aA ay aC=some r):
  Calls Try.prog 58 #[.agg #[.int .i64 aa,.slice ai J.length aj,.slice ag o.length ah],.agg #[.int .i64 aA,.slice bH ay.length bJ,.slice bO aC.length bT]] w fun e w'=>e= .returned (.bool r)∧Below w.heap.size w w':=by
 have df:=Try.underlying58;have aT:=Asd.mk ak;have aU:=Asd.mk al;clear ak al;have bk:=Asd.mk an;have bl:=Asd.mk az;clear an az;have cE:=Asd.mk cA;have cF:=Asd.mk cB;clear cA cB;have dz:=Asd.mk cC;have dA:=Asd.mk cD;clear cC cD;have HB:=Asd.mk (Below.refl w.heap.size w);have H:(if aa=aA then((laws_sameInts.f k J ay).bind fun t180=>(if t180=true then((laws_sameRows.f k o aC).bind fun t181=>(some t181))else(some false)))else(some false))=some r:=h;clear h;rcases iT H with⟨c3,H⟩|⟨c3,H⟩
 ·have ba:(aa==aA)=true:=beq_iff_eq.mpr c3;have bb:(aa !=aA)=false:=bne_eq_false_iff_eq.mpr c3;clear c3;obtain⟨t180,A4,H⟩:=bE H;try dsimp only at H
  by_cases c5:t180=true
  ·subst c5;rw[if_pos rfl]at H;obtain⟨t181,A6,H⟩:=bE H;try dsimp only at H
   obtain rfl:=Option.some.inj H;go_enter Try.func58,Try.ntmps58;go_wp2_with (first|((with_reducible refine gate_dst (N:=2) rfl ?_);refine bxA 2 #[.int .i64 aa,.slice ai J.length aj,.slice ag o.length ah] 58 ?_;intro cG hg w7 ae hb;have af:=Asd.mk (ae);have cH:=bG HB hg;have cI:=bG HB hg;replace HB:=bW HB hb;clear hb ae hg)|((with_reducible refine gate_dst (N:=3) rfl ?_);refine bxA 3 #[.int .i64 aA,.slice bH ay.length bJ,.slice bO aC.length bT] 58 ?_;intro cJ hg w8 ae hb;have bx:=Asd.mk (ae);have cK:=bG HB hg;have cL:=bG HB hg;replace HB:=bW HB hb;have av:=bL af hg;have aw:=bM af hg;replace af:=bU af hb;clear hb ae hg;have e3:=av.out;have e4:=aw.out;obtain⟨dQ,dR,dS,dT,dU,dV⟩:=b3 af;obtain⟨dW,dX,dY,dZ,ea,eb⟩:=b3 bx)|(go_at_call 104;(with_reducible refine(laws_sameInts.calls k _ _ J _ _ ay true _ ?side1 ?side2 ?side3 ?side4 A4.out).mono ?_);(case side1=>exact cZ (Kd.C_below aT.out HB.out));(case side2=>exact aU.out);(case side3=>exact cZ (Kd.C_below cE.out HB.out));(case side4=>exact cF.out);rintro e w' ⟨rfl,⟨nd,rfl⟩⟩)|(go_at_call 105;(with_reducible refine(laws_sameRows.calls k _ _ o _ _ aC t181 _ ?side1 ?side2 ?side3 ?side4 A6.out).mono ?_);(case side1=>exact cZ (Kd.C_below bk.out (wZ HB)));(case side2=>exact bl.out);(case side3=>exact cZ (Kd.C_below dz.out (wZ HB)));(case side4=>exact dA.out);rintro e w' ⟨rfl,⟨nd,rfl⟩⟩));go_ret;exact⟨by first|rfl|(simp[*,errW_none,errW_some]<;>rfl),wZ HB⟩
  ·replace c5:=Bool.eq_false_iff.mpr c5;subst c5;rw[if_neg (show¬(false=true) by decide)]at H;obtain rfl:=Option.some.inj H;go_enter Try.func58,Try.ntmps58;go_wp2_with (first|((with_reducible refine gate_dst (N:=2) rfl ?_);refine bxA 2 #[.int .i64 aa,.slice ai J.length aj,.slice ag o.length ah] 58 ?_;intro cG hg w12 ae hb;have af:=Asd.mk (ae);have cH:=bG HB hg;have cI:=bG HB hg;replace HB:=bW HB hb;clear hb ae hg)|((with_reducible refine gate_dst (N:=3) rfl ?_);refine bxA 3 #[.int .i64 aA,.slice bH ay.length bJ,.slice bO aC.length bT] 58 ?_;intro cJ hg w13 ae hb;have bx:=Asd.mk (ae);have cK:=bG HB hg;have cL:=bG HB hg;replace HB:=bW HB hb;have av:=bL af hg;have aw:=bM af hg;replace af:=bU af hb;clear hb ae hg;have eU:=av.out;have eV:=aw.out;obtain⟨ec,ed,ee,ef,eh,ei⟩:=b3 af;obtain⟨ej,ek,el,en,eo,ep⟩:=b3 bx)|(go_at_call 104;(with_reducible refine(laws_sameInts.calls k _ _ J _ _ ay false _ ?side1 ?side2 ?side3 ?side4 A4.out).mono ?_);(case side1=>exact cZ (Kd.C_below aT.out HB.out));(case side2=>exact aU.out);(case side3=>exact cZ (Kd.C_below cE.out HB.out));(case side4=>exact cF.out);rintro e w' ⟨rfl,⟨nd,rfl⟩⟩));go_ret;exact⟨by first|rfl|(simp[*,errW_none,errW_some]<;>rfl),wZ HB⟩
 ·have ba:(aa==aA)=false:=beq_eq_false_iff_ne.mpr c3;have bb:(aa !=aA)=true:=bne_iff_ne.mpr c3;obtain rfl:=Option.some.inj H;go_enter Try.func58,Try.ntmps58;go_wp2_with (first|((with_reducible refine gate_dst (N:=2) rfl ?_);refine bxA 2 #[.int .i64 aa,.slice ai J.length aj,.slice ag o.length ah] 58 ?_;intro cG hg w17 ae hb;have af:=Asd.mk (ae);have cH:=bG HB hg;have cI:=bG HB hg;replace HB:=bW HB hb;clear hb ae hg)|((with_reducible refine gate_dst (N:=3) rfl ?_);refine bxA 3 #[.int .i64 aA,.slice bH ay.length bJ,.slice bO aC.length bT] 58 ?_;intro cJ hg w18 ae hb;have bx:=Asd.mk (ae);have cK:=bG HB hg;have cL:=bG HB hg;replace HB:=bW HB hb;have av:=bL af hg;have aw:=bM af hg;replace af:=bU af hb;clear hb ae hg;have eW:=av.out;have eX:=aw.out;obtain⟨er,et,eu,ev,ew,ey⟩:=b3 af;obtain⟨ez,eA,eB,eC,eD,eE⟩:=b3 bx));go_ret;exact⟨by first|rfl|(simp[*,errW_none,errW_some]<;>rfl),wZ HB⟩

/-! ### laws_noMind: function 60 -/
def laws_noMind.f (k:Nat) (aa:Int) (J:List Int) (o:List (List Int)):Option (Bool):=(laws_sameMind.f k aa J o 0 ([]:List Int) ([]:List (List Int))).bind fun t183=>(some t183)
theorem laws_noMind.mono:∀a0 a1 a2 k,LeO (laws_noMind.f k a0 a1 a2) (laws_noMind.f (k+1) a0 a1 a2):=by
 intro a0 a1 a2 k;unfold laws_noMind.f
 repeat' first
   |(with_reducible first|exact laws_sameMind.mono _ _ _ _ _ _ _|exact LeO.refl _|exact LeO.none _|refine LeO.ite ?_ ?_|refine LeO.bind ?_ (fun _=>?_))
   |refine LeO.ite ?_ ?_
   |refine LeO.bind ?_ (fun _=>?_)
set_option maxHeartbeats 8000000 in
set_option maxRecDepth 100000 in
theorem laws_noMind.calls (k:Nat) (aa:Int) (ai:Option Addr) (aj:Nat) (J:List Int) (ag:Option Addr) (ah:Nat) (o:List (List Int)) (r:Bool) (w:World) (ak:Kd.C (Kd.int .i64) w ai J.length J) (al:J.length≤aj) (an:Kd.C (Kd.slice 3 (Kd.int .i64)) w ag o.length o) (az:o.length≤ah) (h:laws_noMind.f k aa J o=some r):
  Calls Try.prog 60 #[.agg #[.int .i64 aa,.slice ai J.length aj,.slice ag o.length ah]] w fun e w'=>e= .returned (.bool r)∧Below w.heap.size w w':=by
 have df:=Try.underlying58;have aT:=Asd.mk ak;have aU:=Asd.mk al;clear ak al;have bk:=Asd.mk an;have bl:=Asd.mk az;clear an az;have HB:=Asd.mk (Below.refl w.heap.size w);have H:((laws_sameMind.f k aa J o 0 ([]:List Int) ([]:List (List Int))).bind fun t183=>(some t183))=some r:=h;clear h;obtain⟨t183,A2,H⟩:=bE H;try dsimp only at H
 obtain rfl:=Option.some.inj H;go_enter Try.func60,Try.ntmps60;go_wp2_with (first|((with_reducible refine gate_dst (N:=1) rfl ?_);refine bxA 1 #[.int .i64 aa,.slice ai J.length aj,.slice ag o.length ah] 58 ?_;intro eY hg w3 ae hb;have b9:=Asd.mk (ae);have eZ:=bG HB hg;have e0:=bG HB hg;replace HB:=bW HB hb;clear hb ae hg;obtain⟨cN,cO,cP,cQ,cR,cS⟩:=b3 b9)|((with_reducible refine gate_callee (f:=58) rfl ?_);refine gB (some 5) Try.func58 #[.agg #[.int .i64 aa,.slice ai J.length aj,.slice ag o.length ah],.agg #[.int .i64 0,.slice none 0 0,.slice none 0 0]] rfl ?_;(refine(laws_sameMind.calls k aa _ _ J _ _ o 0 _ _ ([]:List Int) _ _ ([]:List (List Int)) t183 _ ?side1 ?side2 ?side3 ?side4 ?side5 ?side6 ?side7 ?side8 A2.out).mono ?_);(case side1=>exact cZ (Kd.C_below aT.out HB.out));(case side2=>exact aU.out);(case side3=>exact cZ (Kd.C_below bk.out HB.out));(case side4=>exact bl.out);(case side5=>exact Kd.C_nil _ _);(case side6=>exact Nat.le_refl _);(case side7=>exact Kd.C_nil _ _);(case side8=>exact Nat.le_refl _);rintro e w5 ⟨rfl,hb⟩;refine⟨_,rfl,?_⟩;replace b9:=bU b9 hb;replace HB:=bW HB hb;clear hb));go_ret;exact⟨by first|rfl|(simp[*,errW_none,errW_some]<;>rfl),wZ HB⟩

end Go.Proofs.Ytihgpkohglcijaa.P
