-- Written by a program of this session (wip/hook.py), which runs the kit's printer; Lean checks it.
import Derived.Test.YtihgpkohglcijaaPx0
import Derived.Test.YtihgpkohglcijaaPx2
namespace Go.Proofs.Ytihgpkohglcijaa.P
open Go.RowKit Go.Proofs.YtihgpkohglcijaaW.PrintWords Go.Proofs.YtihgpkohglcijaaW.PrintLast Go.Proofs.YtihgpkohglcijaaW.PrintMore
attribute [local go_sem] max2_int min2_int max_two min_two max_three min_three max_four min_four   -- for this text's walks alone
set_option linter.unusedVariables false
set_option linter.unusedSimpArgs false

/-! ### slices_Index_int_int: function 127 -/
def slices_Index_int_int.l0:Nat→List Int→Int→Int→Int→Option (Int)
 |0,_,_,_,_=>none
 |k+1,x0,x1,x7,x8=>if x8<x7 then(if 0≤x8 then(if x8<(x0.length:Int)then(if x1=(rd x0 x8)then(some x8)else(slices_Index_int_int.l0 k x0 x1 x7 (wrap64 (x8+1))))else(none))else(none))else(some (-1))
def slices_Index_int_int.f (k:Nat) (l0:List Int) (a1:Int):Option (Int):=slices_Index_int_int.l0 k l0 a1 (l0.length:Int) 0
theorem slices_Index_int_int.mono_l:∀k,(∀y0 y1 y2 y3,LeO (slices_Index_int_int.l0 k y0 y1 y2 y3) (slices_Index_int_int.l0 (k+1) y0 y1 y2 y3))
 |0=>fun _ _ _ _ r h=>by simp[slices_Index_int_int.l0]at h
 |k+1=>by
  have al:=slices_Index_int_int.mono_l k
  ·intro y0 y1 y2 y3;unfold slices_Index_int_int.l0;repeat' first
   |(with_reducible first|exact al _ _ _ _|exact LeO.refl _|exact LeO.none _|refine LeO.ite ?_ ?_|refine LeO.bind ?_ (fun _=>?_))
   |refine LeO.ite ?_ ?_
   |refine LeO.bind ?_ (fun _=>?_)
theorem slices_Index_int_int.mono:∀a0 a1 k,LeO (slices_Index_int_int.f k a0 a1) (slices_Index_int_int.f (k+1) a0 a1):=by
 intro a0 a1 k;have al:=slices_Index_int_int.mono_l k;unfold slices_Index_int_int.f
 repeat' first
   |(with_reducible first|exact al _ _ _ _|exact LeO.refl _|exact LeO.none _|refine LeO.ite ?_ ?_|refine LeO.bind ?_ (fun _=>?_))
   |refine LeO.ite ?_ ?_
   |refine LeO.bind ?_ (fun _=>?_)
set_option maxHeartbeats 8000000 in
set_option maxRecDepth 100000 in
theorem slices_Index_int_int.calls (k:Nat) (A0:Option Addr) (c0:Nat) (l0:List Int) (a1:Int) (r:Int) (w:World) (aZ:Kd.C (Kd.int .i64) w A0 l0.length l0) (aV:l0.length≤c0) (h:slices_Index_int_int.f k l0 a1=some r):
  Calls Try.prog 127 #[.slice A0 l0.length c0,.int .i64 a1] w fun e w'=>e= .returned (.int .i64 r)∧Drawn0 w w':=by
 have a6:=Asd.mk aZ;have dn:=Asd.mk aV;clear aZ aV;have H:(slices_Index_int_int.l0 k l0 a1 (l0.length:Int) 0)=some r:=h;clear h;have H':=Asd.mk H;clear H;go_enter Try.func127,Try.ntmps127;go_wp2;go_loopg [8] k (fun kq v8 w'=>∃(ah:Int),v8= .int .i64 ah∧Asd (slices_Index_int_int.l0 kq l0 a1 (l0.length:Int) ah=some r)∧Asd (kq≤k)∧Drawn0 w w')
 case atStart=>exact⟨(0),(by first|rfl|(simp;done)|(simp[*];done)),H',⟨Nat.le_refl _⟩,by repeat(first|exact Drawn0.refl _|apply Drawn0.step)⟩
 case round=>
  clear H';obtain⟨ah,rfl,HA,aG,⟨m1,rfl⟩⟩:=hrel;cases gk with
  |zero=>exact absurd HA.out (by simp[slices_Index_int_int.l0])
  |succ k1=>
   have H:=HA.out;clear HA;simp only[slices_Index_int_int.l0]at H;by_cases c3:ah<(l0.length:Int)
   ·rw[if_pos c3]at H;have aH:decide (ah<(l0.length:Int))=true:=decide_eq_true c3;clear c3;by_cases c4:0≤ah;rotate_left;(rw[if_neg c4]at H;exact absurd H (by simp));rw[if_pos c4]at H;have a7:decide (0≤ah)=true:=decide_eq_true c4;clear c4;by_cases c5:ah<(l0.length:Int);rotate_left;(rw[if_neg c5]at H;exact absurd H (by simp));rw[if_pos c5]at H;have cu:decide (ah<(l0.length:Int))=true:=decide_eq_true c5;clear c5;by_cases c6:a1=(rd l0 ah)
    ·rw[if_pos c6]at H;have cm:(a1==(rd l0 ah))=true:=beq_iff_eq.mpr c6;have ea:(a1 !=(rd l0 ah))=false:=bne_eq_false_iff_eq.mpr c6;clear c6;obtain rfl:=Option.some.inj H;have bg:0≤(ah:Int):=odt;have bh:ah<(l0.length:Int):=odt;obtain⟨dD,cv,cw⟩:=Kd.at_int a6.out ah bg bh;cases cv;replace bg:=eq_true bg;replace bh:=eq_true bh;go_wp2;go_ret;exact⟨by first|rfl|(simp;done)|(simp[*];done),by repeat(first|exact Drawn0.refl _|apply Drawn0.step)⟩
    ·rw[if_neg c6]at H;have cm:(a1==(rd l0 ah))=false:=beq_eq_false_iff_ne.mpr c6;have ea:(a1 !=(rd l0 ah))=true:=bne_iff_ne.mpr c6;have H':=Asd.mk H;clear H;have bg:0≤(ah:Int):=odt;have bh:ah<(l0.length:Int):=odt;obtain⟨dD,cv,cw⟩:=Kd.at_int a6.out ah bg bh;cases cv;replace bg:=eq_true bg;replace bh:=eq_true bh;go_wp2;go_roundg k1
     case measure=>have:=aG.out;omega
     case rel=>exact⟨(wrap64 (ah+1)),(by first|rfl|(simp;done)|(simp[*];done)),H',⟨by have:=aG.out;omega⟩,by repeat(first|exact Drawn0.refl _|apply Drawn0.step)⟩
   ·rw[if_neg c3]at H;have aH:decide (ah<(l0.length:Int))=false:=decide_eq_false c3;clear c3;obtain rfl:=Option.some.inj H;go_wp2;go_ret;exact⟨by first|rfl|(simp;done)|(simp[*];done),by repeat(first|exact Drawn0.refl _|apply Drawn0.step)⟩

/-! ### impl_tidy: function 91 -/
def impl_tidy.l0:Nat→List Int→List Int→List Int→Int→Int→Option (List Int)
 |0,_,_,_,_,_=>none
 |k+1,x3,x4,x15,x16,x17=>if x17<x16 then(if 0≤x17 then(if x17<(x15.length:Int)then((slices_Index_int_int.f k x3 (rd x15 x17)).bind fun t137=>(if x4.length<17592186044416 then(impl_tidy.l0 k x3 (x4++ [t137]) x15 x16 (wrap64 (x17+1)))else(none)))else(none))else(none))else(some x4)
def impl_tidy.f (k:Nat) (l0:List Int):Option (List Int):=(some (([]:List Int):List Int)).bind fun aI=>(if aI.length+l0.length<17592186044416 then((slices_Sort_int_int.f k (aI++l0)).bind fun t129=>((slices_Compact_int_int.f t129).bind fun t130=>(impl_tidy.l0 k t130 (([]:List Int)) l0 (l0.length:Int) 0)))else(none))
theorem impl_tidy.mono_l:∀k,(∀y0 y1 y2 y3 y4,LeO (impl_tidy.l0 k y0 y1 y2 y3 y4) (impl_tidy.l0 (k+1) y0 y1 y2 y3 y4))
 |0=>fun _ _ _ _ _ r h=>by simp[impl_tidy.l0]at h
 |k+1=>by
  have al:=impl_tidy.mono_l k
  ·intro y0 y1 y2 y3 y4;unfold impl_tidy.l0;repeat' first
   |(with_reducible first|exact al _ _ _ _ _|exact slices_Index_int_int.mono _ _ _|exact slices_Sort_int_int.mono _ _|exact LeO.refl _|exact LeO.none _|refine LeO.ite ?_ ?_|refine LeO.bind ?_ (fun _=>?_))
   |refine LeO.ite ?_ ?_
   |refine LeO.bind ?_ (fun _=>?_)
theorem impl_tidy.mono:∀a0 k,LeO (impl_tidy.f k a0) (impl_tidy.f (k+1) a0):=by
 intro a0 k;have al:=impl_tidy.mono_l k;unfold impl_tidy.f
 repeat' first
   |(with_reducible first|exact al _ _ _ _ _|exact slices_Index_int_int.mono _ _ _|exact slices_Sort_int_int.mono _ _|exact LeO.refl _|exact LeO.none _|refine LeO.ite ?_ ?_|refine LeO.bind ?_ (fun _=>?_))
   |refine LeO.ite ?_ ?_
   |refine LeO.bind ?_ (fun _=>?_)
set_option maxHeartbeats 8000000 in
set_option maxRecDepth 100000 in
theorem impl_tidy.calls (k:Nat) (A0:Option Addr) (c0:Nat) (l0:List Int) (r:List Int) (w:World) (aZ:Kd.C (Kd.int .i64) w A0 l0.length l0) (aV:l0.length≤c0) (h:impl_tidy.f k l0=some r):
  Calls Try.prog 91 #[.slice A0 l0.length c0] w fun e w'=>∃eb:Value,e= .returned (eb)∧Kd.R (Kd.int .i64) 3 w' w.heap.size (fun _=>True) eb r∧Below w.heap.size w w':=by
 have a6:=Asd.mk aZ;have dn:=Asd.mk aV;clear aZ aV;have HB:=Asd.mk (Below.refl w.heap.size w);have H:((some (([]:List Int):List Int)).bind fun aI=>(if aI.length+l0.length<17592186044416 then((slices_Sort_int_int.f k (aI++l0)).bind fun t129=>((slices_Compact_int_int.f t129).bind fun t130=>(impl_tidy.l0 k t130 (([]:List Int)) l0 (l0.length:Int) 0)))else(none)))=some r:=h;clear h;obtain⟨aI,bj⟩:∃y_:List Int,y_=(([]:List Int)):=⟨_,rfl⟩;replace H:(if aI.length+l0.length<17592186044416 then((slices_Sort_int_int.f k (aI++l0)).bind fun t129=>((slices_Compact_int_int.f t129).bind fun t130=>(impl_tidy.l0 k t130 (([]:List Int)) l0 (l0.length:Int) 0)))else(none))=some r:=by first|(rw[bj];with_reducible exact H)|(have aW:=(Option.bind_some _ _).symm.trans H;rw[bj];with_reducible exact aW)|(have aW:=(Option.bind_some _ _).symm.trans H;with_reducible exact aW)|with_reducible exact H|(rw[bj];exact H)|exact H
 have cx:=Asd.mk bj;clear bj;by_cases c2:aI.length+l0.length<17592186044416;rotate_left;(rw[if_neg c2]at H;exact absurd H (by simp));rw[if_pos c2]at H;have ec:=Asd.mk c2;clear c2;obtain⟨bf,bk⟩:∃y_:List Int,y_=(aI++l0):=⟨_,rfl⟩;replace H:((slices_Sort_int_int.f k bf).bind fun t129=>((slices_Compact_int_int.f t129).bind fun t130=>(impl_tidy.l0 k t130 (([]:List Int)) l0 (l0.length:Int) 0)))=some r:=by first|(rw[bk];with_reducible exact H)|(have aW:=(Option.bind_some _ _).symm.trans H;rw[bk];with_reducible exact aW)|(have aW:=(Option.bind_some _ _).symm.trans H;with_reducible exact aW)|with_reducible exact H|(rw[bk];exact H)|exact H
 have dE:=Asd.mk bk;clear bk;replace H:=Option.bind_eq_some_iff.mp H;obtain⟨t129,cy,H⟩:=H;try dsimp only at H
 have A3:=Asd.mk cy;clear cy;replace H:=Option.bind_eq_some_iff.mp H;obtain⟨t130,cz,H⟩:=H;try dsimp only at H
 have A4:=Asd.mk cz;clear cz;obtain⟨dx,bl⟩:∃y_:List Int,y_=(([]:List Int)):=⟨_,rfl⟩;replace H:(impl_tidy.l0 k t130 dx l0 (l0.length:Int) 0)=some r:=by first|(rw[bl];with_reducible exact H)|(have aW:=(Option.bind_some _ _).symm.trans H;rw[bl];with_reducible exact aW)|(have aW:=(Option.bind_some _ _).symm.trans H;with_reducible exact aW)|with_reducible exact H|(rw[bl];exact H)|exact H
 have cA:=Asd.mk bl;clear bl;have H':=Asd.mk H;clear H;go_enter Try.func91,Try.ntmps91;go_wp2_with (first|((with_reducible refine gate_dst (N:=7) rfl ?_);refine Kd.R_lit (Kd.int .i64) _ 3 ?hg (N:=7) ?hd (xs:=([]:List Int)) (inner:=[]) (ok:=fun _=>True) (okp:=fun _=>True) ?hr ?hp (fun _ hk=>hk) trivial (Below.refl _ _) (Nat.le_refl _) (by simp) ?_;(case hd=>rfl);(case hg=>rfl);(case hr=>first|(go_simp;done)|(go_simp;rfl));(case hp=>exact(Reps.none _ _));intro v124 w5 cB hb dF cd;clear dF cd;(first|rw[←cx.out]at cB|(simp only[Int.reduceToNat]at cB;rw[←cx.out]at cB));have cC:=Asd.mk (Kd.R_lower cB (below_size (wZ HB)));replace HB:=bW HB hb;clear hb cB)|((with_reducible refine gate_builtin (b:=.append) (xs:= #[.tmp 7,.tmp 8]) rfl ?_);at_builtin;refine Kd.R_append_rows (Kd.int .i64) (w0:=w) w.heap.size rfl (.tmp 7) (.tmp 8) 55 3 (.int .i64 0) 8 rfl Try.underlying55 info3 rfl (by decide) (by omega) v124 aI l0 _ _ _ (fun _=>True) (fun _=>False) rfl rfl ?aO ?aR (fun _ _ h=>h) (fun _ h=>h.elim) ?aF ?aB ?aS ?aL ?_;(case aR=>repeat(first|exact(Kd.C_below a6.out HB.out)|(with_reducible refine Kd.C_alloc ?_ _)|(with_reducible refine Kd.C_drewN ?_ _)|(with_reducible refine Kd.C_drew ?_)));(case aB=>exact(wZ HB));(case aF=>exact(fun _ _=>trivial));(case aO=>exact(rS cC));(case aS=>exact(below_size (wZ HB)));(case aL=>have:=ec.out;omega);intro v127 w7 ho hb hg dp;rw[←dE.out]at ho;replace HB:=Asd.mk (hb);have bc:=Asd.mk (ho);clear cC;clear ho hb hg dp;obtain⟨cq,cr,fj⟩:=Kd.R_slice bc.out;subst fj)|((with_reducible refine gate_callee (f:=125) rfl ?_);refine gsM (some 11) rfl rfl Try.func125 (by kernel_rfl) rfl #[.slice cq bf.length cr] rfl ?_;(with_reducible refine(slices_Sort_int_int.calls k (fun k_=>some k_=(.slice cq bf.length cr:Value).ownBlock) (.slice cq bf.length cr) bf t129 w _ ?side1 ?side2 A3.out).mono ?_);(case side1=>repeat(with_reducible first|exact HB.out|apply bwX));(case side2=>exact Kd.R_tight rfl bc.out);rintro e w9 ⟨rfl,ed,hb,dG⟩;refine⟨_,rfl,?_⟩;replace bc:=Asd.mk (Kd.R_reok rfl ed (fun k_ e_=>bc.out.1 k_ e_));replace HB:=Asd.mk (hb);(try clear hb);(try clear dG);(try clear ed))|((with_reducible refine gate_callee (f:=126) rfl ?_);refine gsM (some 13) rfl rfl Try.func126 (by kernel_rfl) rfl #[.slice cq bf.length cr] rfl ?_;(with_reducible refine(slices_Compact_int_int.calls (fun k_=>some k_=(.slice cq bf.length cr:Value).ownBlock) (.slice cq bf.length cr) t129 t130 w _ ?side1 ?side2 A4.out).mono ?_);(case side1=>repeat(with_reducible first|exact HB.out|apply bwX));(case side2=>exact Kd.R_tight rfl bc.out);rintro e w10 ⟨v131,rfl,cD,hb,dG⟩;refine⟨_,rfl,?_⟩;have b1:=Asd.mk (Kd.R_mono (ok':=fun k_=>True) cD (fun k_ fI=>trivial));replace HB:=Asd.mk (hb);clear bc;(try clear hb);(try clear dG);(try clear cD))|((with_reducible refine gate_dst (N:=14) rfl ?_);refine Kd.R_lit (Kd.int .i64) _ 3 ?hg (N:=14) ?hd (xs:=([]:List Int)) (inner:=[]) (ok:=fun _=>True) (okp:=fun _=>True) ?hr ?hp (fun _ hk=>hk) trivial (Below.refl _ _) (Nat.le_refl _) (by simp) ?_;(case hd=>rfl);(case hg=>rfl);(case hr=>first|(go_simp;done)|(go_simp;rfl));(case hp=>exact(Reps.none _ _));intro fF w11 bZ hb dF cd;clear dF cd;(first|rw[←cA.out]at bZ|(simp only[Int.reduceToNat]at bZ;rw[←cA.out]at bZ));have dH:=Asd.mk (Kd.R_lower (Kd.R_new' bZ (Kd.R_lt (rS b1))) (below_size (wZ HB)));replace b1:=Asd.mk (Kd.R_elder' (rS b1) (Kd.R_base bZ) hb);replace HB:=bW HB hb;clear hb bZ));go_loopg [4,17] k (fun kq v4 fk w'=>∃(b0:List Int) (af:Int),fk= .int .i64 af∧Asd (impl_tidy.l0 kq t130 b0 l0 (l0.length:Int) af=some r)∧Asd (kq≤k)∧Asd (Kd.R (Kd.int .i64) 3 w' w.heap.size (fun k_=>some k_≠(v4:Value).ownBlock) v131 t130)∧Asd (Kd.R (Kd.int .i64) 3 w' w.heap.size (fun k_=>some k_≠(v131:Value).ownBlock) v4 b0)∧Asd (Below w.heap.size w w'))
 case atStart=>exact⟨(dx),(0),(by first|rfl|(simp;done)|(simp[*];done)),H',⟨Nat.le_refl _⟩,⟨by(repeat apply Kd.RS);exact Kd.R_mono b1.out (fun _ hk=>hk.2)⟩,⟨by(repeat apply Kd.RS);exact Kd.R_mono dH.out (fun _ hk=>hk.2)⟩,⟨wZ HB⟩⟩
 case round=>
  clear H';obtain⟨b0,af,rfl,HA,aG,HO_3,HO_4,HB⟩:=hrel;cases gk with
  |zero=>exact absurd HA.out (by simp[impl_tidy.l0])
  |succ k1=>
   have H:=HA.out;clear HA;simp only[impl_tidy.l0]at H;by_cases ct:af<(l0.length:Int)
   ·rw[if_pos ct]at H;have dI:decide (af<(l0.length:Int))=true:=decide_eq_true ct;clear ct;by_cases dq:0≤af;rotate_left;(rw[if_neg dq]at H;exact absurd H (by simp));rw[if_pos dq]at H;have fl:decide (0≤af)=true:=decide_eq_true dq;clear dq;by_cases dr:af<(l0.length:Int);rotate_left;(rw[if_neg dr]at H;exact absurd H (by simp));rw[if_pos dr]at H;have fm:decide (af<(l0.length:Int))=true:=decide_eq_true dr;clear dr;replace H:=Option.bind_eq_some_iff.mp H;obtain⟨t137,dy,H⟩:=H;try dsimp only at H
    have fo:=Asd.mk dy;clear dy;by_cases ds:b0.length<17592186044416;rotate_left;(rw[if_neg ds]at H;exact absurd H (by simp));rw[if_pos ds]at H;have dJ:=Asd.mk ds;clear ds;obtain⟨dz,bn⟩:∃y_:List Int,y_=(b0++ [t137]):=⟨_,rfl⟩;replace H:(impl_tidy.l0 k1 t130 dz l0 (l0.length:Int) (wrap64 (af+1)))=some r:=by first|(rw[bn];with_reducible exact H)|(have aW:=(Option.bind_some _ _).symm.trans H;rw[bn];with_reducible exact aW)|(have aW:=(Option.bind_some _ _).symm.trans H;with_reducible exact aW)|with_reducible exact H|(rw[bn];exact H)|exact H
    have dK:=Asd.mk bn;clear bn;have H':=Asd.mk H;clear H;have cE:0≤(af:Int):=odt;have cF:af<(l0.length:Int):=odt;obtain⟨fp,ee,bo⟩:=Kd.at_int a6.out af cE cF;cases ee;replace bo:=(HB.out.cell (World.block_lt_of_cell? w _ bo)).trans bo;replace cE:=eq_true cE;replace cF:=eq_true cF;obtain⟨dA,dB,ef⟩:=Kd.R_slice HO_3.out;subst ef;go_wp2_with (first|((with_reducible refine gate_callee (f:=127) rfl ?_);refine gsM (some 24) rfl rfl Try.func127 (by kernel_rfl) rfl #[.slice dA t130.length dB,.int .i64 (rd l0 af)] rfl ?_;(with_reducible refine(slices_Index_int_int.calls k1 _ _ t130 (rd l0 af) t137 _ ?side1 ?side2 fo.out).mono ?_);(case side1=>exact cZ (Kd.R_reads' HO_3.out).2.2);(case side2=>exact(Kd.R_reads' HO_3.out).2.1);rintro e w' ⟨rfl,⟨nd,rfl⟩⟩;refine⟨_,rfl,?_⟩)|((with_reducible refine gate_builtin (b:=.append) (xs:= #[.tmp 21,.tmp 25]) rfl ?_);at_builtin;refine Kd.R_append (Kd.int .i64) (w0:=w) w.heap.size rfl (.tmp 21) (.tmp 25) 55 3 (.int .i64 0) 8 rfl Try.underlying55 info3 rfl (by decide) (by omega) u4 b0 t137 [.int .i64 t137] (fun k_=>some k_≠(.slice dA t130.length dB:Value).ownBlock) (fun _=>False) rfl rfl ?aP (fun _ hk=>hk.elim) ?aF ?aO ?aB ?aS ?aL ?_;(case aP=>exact rfl);(case aB=>exact(wZ HB));(case aF=>exact(fun k_ hk=>Kd.fresh' (Kd.R_lt (rS HO_3)) k_ hk));(case aO=>exact(rS HO_4));(case aS=>exact(below_size (wZ HB)));(case aL=>have:=dJ.out;omega);intro v139 w19 ho hb hg dp;rw[←dK.out]at ho;replace HO_3:=Asd.mk (Kd.R_after (ok:=(fun _=>True)) (by(repeat apply Kd.RS);exact Kd.R_mono HO_3.out (fun _ hk=>⟨trivial,hk⟩)) hg dp);replace HB:=Asd.mk (hb);have dL:=Asd.mk (ho);clear HO_4;clear ho hb hg dp));go_roundg k1
    case measure=>have:=aG.out;omega
    case rel=>exact⟨(dz),(wrap64 (af+1)),(by first|rfl|(simp;done)|(simp[*];done)),H',⟨by have:=aG.out;omega⟩,⟨by(repeat apply Kd.RS);exact Kd.R_mono HO_3.out (fun _ hk=>hk.2)⟩,⟨by(repeat apply Kd.RS);exact dL.out⟩,⟨wZ HB⟩⟩
   ·rw[if_neg ct]at H;have dI:decide (af<(l0.length:Int))=false:=decide_eq_false ct;clear ct;obtain rfl:=Option.some.inj H;go_wp2;go_ret;exact⟨_,by first|rfl|(simp[*,errW_none,errW_some]<;>rfl),by(repeat apply Kd.RS);exact Kd.R_mono HO_4.out (fun _ hk=>trivial),wZ HB⟩

/-! ### slices_Equal_int_int: function 106 -/
def slices_Equal_int_int.l0:Nat→List Int→List Int→Int→Int→Option (Bool)
 |0,_,_,_,_=>none
 |k+1,x0,x1,x12,x13=>if x13<x12 then(if 0≤x13 then(if x13<(x0.length:Int)then(if x13<(x1.length:Int)then(if(rd x0 x13)=(rd x1 x13)then(slices_Equal_int_int.l0 k x0 x1 x12 (wrap64 (x13+1)))else(some false))else(none))else(none))else(none))else(some true)
def slices_Equal_int_int.f (k:Nat) (l0:List Int) (l1:List Int):Option (Bool):=if(l0.length:Int)=(l1.length:Int)then(slices_Equal_int_int.l0 k l0 l1 (l0.length:Int) 0)else(some false)
theorem slices_Equal_int_int.mono_l:∀k,(∀y0 y1 y2 y3,LeO (slices_Equal_int_int.l0 k y0 y1 y2 y3) (slices_Equal_int_int.l0 (k+1) y0 y1 y2 y3))
 |0=>fun _ _ _ _ r h=>by simp[slices_Equal_int_int.l0]at h
 |k+1=>by
  have al:=slices_Equal_int_int.mono_l k
  ·intro y0 y1 y2 y3;unfold slices_Equal_int_int.l0;repeat' first
   |(with_reducible first|exact al _ _ _ _|exact LeO.refl _|exact LeO.none _|refine LeO.ite ?_ ?_|refine LeO.bind ?_ (fun _=>?_))
   |refine LeO.ite ?_ ?_
   |refine LeO.bind ?_ (fun _=>?_)
theorem slices_Equal_int_int.mono:∀a0 a1 k,LeO (slices_Equal_int_int.f k a0 a1) (slices_Equal_int_int.f (k+1) a0 a1):=by
 intro a0 a1 k;have al:=slices_Equal_int_int.mono_l k;unfold slices_Equal_int_int.f
 repeat' first
   |(with_reducible first|exact al _ _ _ _|exact LeO.refl _|exact LeO.none _|refine LeO.ite ?_ ?_|refine LeO.bind ?_ (fun _=>?_))
   |refine LeO.ite ?_ ?_
   |refine LeO.bind ?_ (fun _=>?_)
set_option maxHeartbeats 8000000 in
set_option maxRecDepth 100000 in
theorem slices_Equal_int_int.calls (k:Nat) (A0:Option Addr) (c0:Nat) (l0:List Int) (A1:Option Addr) (c1:Nat) (l1:List Int) (r:Bool) (w:World) (aZ:Kd.C (Kd.int .i64) w A0 l0.length l0) (aV:l0.length≤c0) (a8:Kd.C (Kd.int .i64) w A1 l1.length l1) (ba:l1.length≤c1) (h:slices_Equal_int_int.f k l0 l1=some r):
  Calls Try.prog 106 #[.slice A0 l0.length c0,.slice A1 l1.length c1] w fun e w'=>e= .returned (.bool r)∧Drawn0 w w':=by
 have a6:=Asd.mk aZ;have dn:=Asd.mk aV;clear aZ aV;have az:=Asd.mk a8;have b6:=Asd.mk ba;clear a8 ba;have H:(if(l0.length:Int)=(l1.length:Int)then(slices_Equal_int_int.l0 k l0 l1 (l0.length:Int) 0)else(some false))=some r:=h;clear h;by_cases c3:(l0.length:Int)=(l1.length:Int)
 ·rw[if_pos c3]at H;have aH:((l0.length:Int)==(l1.length:Int))=true:=beq_iff_eq.mpr c3;have bp:((l0.length:Int) !=(l1.length:Int))=false:=bne_eq_false_iff_eq.mpr c3;have b7:(l0.length==l1.length)=true:=by first|simpa using c3|(simp at c3⊢;omega)
  clear c3;have H':=Asd.mk H;clear H;go_enter Try.func106,Try.ntmps106;go_wp2;repeat(go_quiet (fail);try go_wp2)
  go_loopg [13] k (fun kq fq w'=>∃(I:Int),fq= .int .i64 I∧Asd (slices_Equal_int_int.l0 kq l0 l1 (l0.length:Int) I=some r)∧Asd (kq≤k)∧Drawn0 w w')
  case atStart=>exact⟨(0),(by first|rfl|(simp;done)|(simp[*];done)),H',⟨Nat.le_refl _⟩,by repeat(first|exact Drawn0.refl _|apply Drawn0.step)⟩
  case round=>
   clear H';obtain⟨I,rfl,HA,aG,⟨m1,rfl⟩⟩:=hrel;cases gk with
   |zero=>exact absurd HA.out (by simp[slices_Equal_int_int.l0])
   |succ k1=>
    have H:=HA.out;clear HA;simp only[slices_Equal_int_int.l0]at H;by_cases c4:I<(l0.length:Int)
    ·rw[if_pos c4]at H;have a7:decide (I<(l0.length:Int))=true:=decide_eq_true c4;clear c4;by_cases c5:0≤I;rotate_left;(rw[if_neg c5]at H;exact absurd H (by simp));rw[if_pos c5]at H;have cu:decide (0≤I)=true:=decide_eq_true c5;clear c5;by_cases c6:I<(l0.length:Int);rotate_left;(rw[if_neg c6]at H;exact absurd H (by simp));rw[if_pos c6]at H;have cm:decide (I<(l0.length:Int))=true:=decide_eq_true c6;clear c6;by_cases c7:I<(l1.length:Int);rotate_left;(rw[if_neg c7]at H;exact absurd H (by simp));rw[if_pos c7]at H;have dC:decide (I<(l1.length:Int))=true:=decide_eq_true c7;clear c7;by_cases c8:(rd l0 I)=(rd l1 I)
     ·rw[if_pos c8]at H;have eh:((rd l0 I)==(rd l1 I))=true:=beq_iff_eq.mpr c8;have ei:((rd l0 I) !=(rd l1 I))=false:=bne_eq_false_iff_eq.mpr c8;clear c8;have H':=Asd.mk H;clear H;have bq:0≤(I:Int):=odt;have br:I<(l0.length:Int):=odt;obtain⟨dM,cG,cH⟩:=Kd.at_int a6.out I bq br;cases cG;replace bq:=eq_true bq;replace br:=eq_true br;have bs:0≤(I:Int):=odt;have bu:I<(l1.length:Int):=odt;obtain⟨dN,cI,cJ⟩:=Kd.at_int az.out I bs bu;cases cI;replace bs:=eq_true bs;replace bu:=eq_true bu;go_wp2;repeat(go_quiet (fail);try go_wp2)
      go_roundg k1
      case measure=>have:=aG.out;omega
      case rel=>exact⟨(wrap64 (I+1)),(by first|rfl|(simp;done)|(simp[*];done)),H',⟨by have:=aG.out;omega⟩,by repeat(first|exact Drawn0.refl _|apply Drawn0.step)⟩
     ·rw[if_neg c8]at H;have eh:((rd l0 I)==(rd l1 I))=false:=beq_eq_false_iff_ne.mpr c8;have ei:((rd l0 I) !=(rd l1 I))=true:=bne_iff_ne.mpr c8;obtain rfl:=Option.some.inj H;have bq:0≤(I:Int):=odt;have br:I<(l0.length:Int):=odt;obtain⟨dM,cG,cH⟩:=Kd.at_int a6.out I bq br;cases cG;replace bq:=eq_true bq;replace br:=eq_true br;have bs:0≤(I:Int):=odt;have bu:I<(l1.length:Int):=odt;obtain⟨dN,cI,cJ⟩:=Kd.at_int az.out I bs bu;cases cI;replace bs:=eq_true bs;replace bu:=eq_true bu;go_wp2;repeat(go_quiet (fail);try go_wp2)
      go_ret;exact⟨by first|rfl|(simp;done)|(simp[*];done),by repeat(first|exact Drawn0.refl _|apply Drawn0.step)⟩
    ·rw[if_neg c4]at H;have a7:decide (I<(l0.length:Int))=false:=decide_eq_false c4;clear c4;obtain rfl:=Option.some.inj H;go_wp2;repeat(go_quiet (fail);try go_wp2)
     go_ret;exact⟨by first|rfl|(simp;done)|(simp[*];done),by repeat(first|exact Drawn0.refl _|apply Drawn0.step)⟩
 ·rw[if_neg c3]at H;have aH:((l0.length:Int)==(l1.length:Int))=false:=beq_eq_false_iff_ne.mpr c3;have bp:((l0.length:Int) !=(l1.length:Int))=true:=bne_iff_ne.mpr c3;have b7:(l0.length==l1.length)=false:=by first|simpa using c3|(simp at c3⊢;omega)
  obtain rfl:=Option.some.inj H;go_enter Try.func106,Try.ntmps106;go_wp2;repeat(go_quiet (fail);try go_wp2)
  go_ret;exact⟨by first|rfl|(simp;done)|(simp[*];done),by repeat(first|exact Drawn0.refl _|apply Drawn0.step)⟩

/-! ### impl_isTidy: function 128 -/
def impl_isTidy.f (k:Nat) (a0:Int) (l1:List Int):Option (Bool):=(impl_isRank.f k a0 l1).bind fun t143=>(if t143=true then((impl_tidy.f k l1).bind fun t144=>((slices_Equal_int_int.f k t144 l1).bind fun t147=>(some t147)))else(some false))
theorem impl_isTidy.mono:∀a0 a1 k,LeO (impl_isTidy.f k a0 a1) (impl_isTidy.f (k+1) a0 a1):=by
 intro a0 a1 k;unfold impl_isTidy.f
 repeat' first
   |(with_reducible first|exact impl_isRank.mono _ _ _|exact impl_tidy.mono _ _|exact slices_Equal_int_int.mono _ _ _|exact LeO.refl _|exact LeO.none _|refine LeO.ite ?_ ?_|refine LeO.bind ?_ (fun _=>?_))
   |refine LeO.ite ?_ ?_
   |refine LeO.bind ?_ (fun _=>?_)
set_option maxHeartbeats 8000000 in
set_option maxRecDepth 100000 in
theorem impl_isTidy.calls (k:Nat) (a0:Int) (A1:Option Addr) (c1:Nat) (l1:List Int) (r:Bool) (w:World) (a8:Kd.C (Kd.int .i64) w A1 l1.length l1) (ba:l1.length≤c1) (h:impl_isTidy.f k a0 l1=some r):
  Calls Try.prog 128 #[.int .i64 a0,.slice A1 l1.length c1] w fun e w'=>e= .returned (.bool r)∧Below w.heap.size w w':=by
 have az:=Asd.mk a8;have b6:=Asd.mk ba;clear a8 ba;have HB:=Asd.mk (Below.refl w.heap.size w);have H:((impl_isRank.f k a0 l1).bind fun t143=>(if t143=true then((impl_tidy.f k l1).bind fun t144=>((slices_Equal_int_int.f k t144 l1).bind fun t147=>(some t147)))else(some false)))=some r:=h;clear h;replace H:=Option.bind_eq_some_iff.mp H;obtain⟨t143,cy,H⟩:=H;try dsimp only at H
 have A3:=Asd.mk cy;clear cy;by_cases c4:t143=true
 ·subst c4;rw[if_pos rfl]at H;replace H:=Option.bind_eq_some_iff.mp H;obtain⟨t144,cK,H⟩:=H;try dsimp only at H
  have A5:=Asd.mk cK;clear cK;replace H:=Option.bind_eq_some_iff.mp H;obtain⟨t147,cL,H⟩:=H;try dsimp only at H
  have A6:=Asd.mk cL;clear cL;obtain rfl:=Option.some.inj H;go_enter Try.func128,Try.ntmps128;go_wp2_with (first|((with_reducible refine gate_callee (f:=90) rfl ?_);refine gsM (some 7) rfl rfl Try.func90 (by kernel_rfl) rfl #[.int .i64 a0,.slice A1 l1.length c1] rfl ?_;(with_reducible refine(impl_isRank.calls k a0 _ _ l1 true _ ?side1 ?side2 A3.out).mono ?_);(case side1=>exact cZ az.out);(case side2=>exact b6.out);rintro e w7 ⟨rfl,hb⟩;refine⟨_,rfl,?_⟩;replace HB:=bW HB hb;(try clear hb);(try clear cM);(try clear hk);(try clear hi))|(go_at_call 91;(with_reducible refine(impl_tidy.calls k _ _ l1 t144 _ ?side1 ?side2 A5.out).mono ?_);(case side1=>exact cZ (Kd.C_below az.out HB.out));(case side2=>exact b6.out);rintro e w8 ⟨v145,rfl,cD,hb⟩;have cf:=Asd.mk (Kd.R_lower cD (below_size (wZ HB)));replace HB:=bW HB hb;(try clear hb);(try clear cM);(try clear hk);(try clear hi);(try clear cD);obtain⟨fJ,fK,fr⟩:=Kd.R_slice cf.out;subst fr)|(go_at_call 106;(with_reducible refine(slices_Equal_int_int.calls k _ _ t144 _ _ l1 t147 _ ?side1 ?side2 ?side3 ?side4 A6.out).mono ?_);(case side1=>exact cZ (Kd.R_reads' cf.out).2.2);(case side2=>exact(Kd.R_reads' cf.out).2.1);(case side3=>exact cZ (Kd.C_below az.out HB.out));(case side4=>exact b6.out);rintro e w' ⟨rfl,⟨nd,rfl⟩⟩));go_ret;exact⟨by first|rfl|(simp[*,errW_none,errW_some]<;>rfl),wZ HB⟩
 ·replace c4:=Bool.eq_false_iff.mpr c4;subst c4;rw[if_neg (show¬(false=true) by decide)]at H;obtain rfl:=Option.some.inj H;go_enter Try.func128,Try.ntmps128;go_wp2_with (first|((with_reducible refine gate_callee (f:=90) rfl ?_);refine gsM (some 7) rfl rfl Try.func90 (by kernel_rfl) rfl #[.int .i64 a0,.slice A1 l1.length c1] rfl ?_;(with_reducible refine(impl_isRank.calls k a0 _ _ l1 false _ ?side1 ?side2 A3.out).mono ?_);(case side1=>exact cZ az.out);(case side2=>exact b6.out);rintro e w10 ⟨rfl,hb⟩;refine⟨_,rfl,?_⟩;replace HB:=bW HB hb;(try clear hb);(try clear cM);(try clear hk);(try clear hi)));go_ret;exact⟨by first|rfl|(simp[*,errW_none,errW_some]<;>rfl),wZ HB⟩

/-! ### slices_IndexFunc_int_int: function 145 (by hand) -/
/-- Called at a row of numbers, in every world in which all that lay in w lies, the function value answers what p says, where p says something. -/
def GivesR (g:Nat) (lb:Array Value) (p:List Int→Option Bool) (w:World):Prop:=
 ∀(W:World) (A:Option Addr) (c:Nat) (l:List Int) (b:Bool),Below w.heap.size w W→Kd.C (Kd.int .i64) W A l.length l→l.length≤c→p l=some b→
  Calls Try.prog g (#[.slice A l.length c]++lb) W fun e w'=>e= .returned (.bool b)∧Below W.heap.size W w'
theorem at_row {w:World} {A:Option Addr} {n:Nat} {xs:List (List Int)} (h:Kd.C (Kd.slice 3 (Kd.int .i64)) w A n xs) (i:Int) (h0:0≤i) (h1:i<n):
  ∃ad A0 c0,A=some ad∧w.cell? (ad.add i.toNat)=some (.slice A0 (xs.getD i.toNat []).length c0)∧(xs.getD i.toNat []).length≤c0∧Kd.C (Kd.int .i64) w A0 (xs.getD i.toNat []).length (xs.getD i.toNat []):=by
 obtain⟨ad,c,e,_,hK,aV⟩:=Kd.C_get h ([]:List Int) i h0 h1;have hc:∀j u,c[j]?=some u→w.cell? (ad.add (i.toNat*1+j))=some u:=aV;obtain⟨A0,c0,rfl,l0,g0⟩:=hK;exact⟨ad,A0,c0,e,by have hq:=hc 0 _ rfl;rwa [Nat.mul_one,Nat.add_zero]at hq,l0,g0⟩
theorem idxR_step {p:List Int→Option Bool} {l:List (List Int)} {x:Int} (h0:0≤x) (h1:x<(l.length:Int)):
  Hof.idxL p (l.drop x.toNat) x=(p (l.getD x.toNat [])).bind fun b=>if b=true then some x else Hof.idxL p (l.drop (x+1).toNat) (x+1):=by
 have hl:x.toNat<l.length:=by omega
 rw[List.drop_eq_getElem_cons hl,show(x+1).toNat=x.toNat+1 from by omega,List.getD_eq_getElem?_getD,List.getElem?_eq_getElem hl];rfl
set_option maxHeartbeats 2000000 in
theorem IndexFuncR_calls (g:Nat) (lb:Array Value) (eg:∀args w,(callFunc g args).run Try.prog w= .ok (.enter g args) w) (p:List Int→Option Bool)
  (A:Option Addr) (c:Nat) (l:List (List Int)) (r:Int) (w:World) (hr:Kd.C (Kd.slice 3 (Kd.int .i64)) w A l.length l) (hp:GivesR g lb p w) (h:Hof.idxL p l 0=some r):
  Calls Try.prog 145 #[.slice A l.length c,.func (.func g) #[] lb] w fun e w'=>e= .returned (.int .i64 r)∧Below w.heap.size w w':=by
 have HR:=Asd.mk hr;have HP:=Asd.mk hp;have HH:Asd (Hof.idxL p (l.drop (0:Int).toNat) 0=some r):=Asd.mk h;have hlen:(l.length:Int)≤9223372036854775807:=by have:=hr.2.1;omega
 clear hr hp h;go_enter Try.func145,Try.ntmps145;go_wp2;go_loopg [5,8] l.length (fun gg _ s8 wr=>∃x:Int,0≤x∧x≤(l.length:Int)∧(l.length:Int) - x≤gg∧s8= .int .i64 x∧Asd (Below w.heap.size w wr)∧Asd (Hof.idxL p (l.drop x.toNat) x=some r))
 case atStart=>exact⟨0,by omega,by omega,by omega,rfl,⟨Below.refl _ _⟩,HH⟩
 case round=>
  clear HH;obtain⟨x,ej,fL,hg,rfl,HB,HA⟩:=hrel;by_cases ek:x<(l.length:Int)
  ·obtain⟨ad,A0,c0,e,hx,dO,el⟩:=at_row HR.out x ej ek;cases e;replace hx:=(HB.out.cell (World.block_lt_of_cell? w _ hx)).trans hx;have dP:=Kd.C_below el HB.out;obtain⟨b,hb,bw⟩:=Option.bind_eq_some_iff.mp ((idxR_step ej ek).symm.trans HA.out);clear HA;obtain⟨y,hy⟩:∃y,y=l.getD x.toNat []:=⟨_,rfl⟩;rw[←hy]at hx dO dP hb;have bx:=HP.out wr A0 c0 y b HB.out dP dO hb;have HRest:=Asd.mk bw;clear bw hb HR HP el dP dO hy;cases b with
   |true=>
    go_wp2_with fail;refine bx.mono ?_;rintro e w' ⟨rfl,hb'⟩;go_wp2_with fail;obtain rfl:x=r:=by have:=HRest.out;simpa using this
    go_ret;exact⟨rfl,below_then HB.out HB.out.size hb'⟩
   |false=>
    go_wp2_with fail;refine bx.mono ?_;rintro e w' ⟨rfl,hb'⟩;go_wp2_with fail;go_roundg (l.length - (x+1).toNat)
    case measure=>omega
    case rel=>exact⟨x+1,by omega,by omega,by omega,by go_num,⟨below_then HB.out HB.out.size hb'⟩,⟨by have:=HRest.out;simpa using this⟩⟩
  ·have fs:x=(l.length:Int):=by omega
   have e2:(-1:Int)=r:=by
    have:=HA.out;rw[fs,show((l.length:Int)).toNat=l.length from by omega,List.drop_length]at this;simpa [Hof.idxL] using this
   clear HA;subst e2;go_wp2;go_ret;exact⟨rfl,HB.out⟩

/-! ### slices_ContainsFunc_int_int: function 129 (by hand) -/
set_option maxHeartbeats 2000000 in
theorem ContainsFuncR_calls (g:Nat) (lb:Array Value) (eg:∀args w,(callFunc g args).run Try.prog w= .ok (.enter g args) w) (p:List Int→Option Bool)
  (A:Option Addr) (c:Nat) (l:List (List Int)) (r:Bool) (w:World) (hr:Kd.C (Kd.slice 3 (Kd.int .i64)) w A l.length l) (hp:GivesR g lb p w) (h:Hof.contL p l=some r):
  Calls Try.prog 129 #[.slice A l.length c,.func (.func g) #[] lb] w fun e w'=>e= .returned (.bool r)∧Below w.heap.size w w':=by
 obtain⟨i,hi,hr'⟩:=Option.bind_eq_some_iff.mp h;obtain rfl:=Option.some.inj hr';clear h;have bx:=IndexFuncR_calls g lb eg p A c l i w hr hp hi;clear hi hp hr hr';have HC:=Asd.mk bx;clear bx;go_enter Try.func129,Try.ntmps129;go_wp2_with (go_at_call 145;refine HC.out.mono ?_;rintro e w' ⟨rfl,hb'⟩);go_ret;exact⟨rfl,hb'⟩

/-! ### impl_isMind: function 101 (by hand) -/
def impl_isMind.no (k:Nat) (a0:Int) (x:List Int):Option Bool:=(impl_isTidy.f k a0 x).bind fun b=>some (!b)
def impl_isMind.f (k:Nat) (ab:Int) (aa:List Int) (J:List (List Int)):Option Bool:=(impl_isTidy.f k ab aa).bind fun t=>if t=true then(if(J.length:Int)≤10 then(Hof.contL (impl_isMind.no k ab) J).bind fun b=>some (!b)else some false)else some false
theorem idxL_mono {α:Type} {p q:α→Option Bool} (h:∀x,LeO (p x) (q x)):∀(l:List α) (i:Int),LeO (Hof.idxL p l i) (Hof.idxL q l i)
 | [],_=>LeO.refl _
 |x::l,i=>by
  unfold Hof.idxL;refine LeO.bind (h x) (fun b=>?_);split
  ·exact LeO.refl _
  ·exact idxL_mono h l (i+1)
theorem impl_isMind.mono:∀a0 a1 a2 k,LeO (impl_isMind.f k a0 a1 a2) (impl_isMind.f (k+1) a0 a1 a2):=by
 intro a0 a1 a2 k;unfold impl_isMind.f;refine LeO.bind (impl_isTidy.mono _ _ _) (fun t=>LeO.ite (LeO.ite (LeO.bind ?_ (fun b=>LeO.refl _)) (LeO.refl _)) (LeO.refl _));unfold Hof.contL;refine LeO.bind (idxL_mono (fun x=>?_) _ _) (fun b=>LeO.refl _);unfold impl_isMind.no;exact LeO.bind (impl_isTidy.mono _ _ _) (fun b=>LeO.refl _)
theorem impl_isMind.gives (k:Nat) (w:World) (B:Nat) (a0:Int) (hB:B<w.heap.size) (hc:w.cell? ⟨B,0,none⟩=some (.int .i64 a0)):GivesR 130 #[.pointer (some ⟨B,0,none⟩)] (impl_isMind.no k a0) w:=fun W A c l b hb hC hl hp=>by
 have hc':=(hb.cell (p:=⟨B,0,none⟩) hB).trans hc;obtain⟨t,ht,bw⟩:=Option.bind_eq_some_iff.mp hp;obtain rfl:=Option.some.inj bw;have HS:=Asd.mk (impl_isTidy.calls k a0 A c l t W hC hl ht);clear hc hb hp ht bw hC hl;have hu:=Try.underlying58;go_enter Try.func130,Try.ntmps130;go_wp2_with fail;refine HS.out.mono ?_;rintro e w1 ⟨rfl,bb⟩;go_wp2;go_ret;exact⟨rfl,bb⟩
set_option maxHeartbeats 4000000 in
theorem impl_isMind.calls (k:Nat) (ab:Int) (an:Option Addr) (ao:Nat) (aa:List Int) (aj:Option Addr) (ak:Nat) (J:List (List Int)) (r:Bool) (w:World) (aJ:Kd.C (Kd.int .i64) w an aa.length aa) (aK:aa.length≤ao) (aM:Kd.C (Kd.slice 3 (Kd.int .i64)) w aj J.length J) (bd:J.length≤ak) (h:impl_isMind.f k ab aa J=some r):
  Calls Try.prog 101 #[.agg #[.int .i64 ab,.slice an aa.length ao,.slice aj J.length ak]] w fun e w'=>e= .returned (.bool r)∧Below w.heap.size w w':=by
 have hu:=Try.underlying58;obtain⟨t,ht,h⟩:=Option.bind_eq_some_iff.mp h;have az:=Asd.mk aJ;have ft:=Asd.mk aM;have HB:=Asd.mk (Below.refl w.heap.size w);have HA:=Asd.mk (bwA HB.out (.cells #[.int .i64 ab,.slice an aa.length ao,.slice aj J.length ak] 58));have HT:=Asd.mk (fun W hR=>impl_isTidy.calls k ab an ao aa t W hR aK ht);clear aJ aM ht aK;cases t with
 |false=>
  obtain rfl:false=r:=by simpa using h
  clear h;go_enter Try.func101,Try.ntmps101;go_wp2_with fail;refine(HT.out _ (Kd.C_below az.out HA.out)).mono ?_;rintro e w1 ⟨rfl,bb⟩;have cg:=Asd.mk (below_then HA.out HA.out.size bb);clear bb;go_wp2;go_ret;exact⟨rfl,cg.out⟩
 |true=>
  rw[if_pos rfl]at h;by_cases hl:(J.length:Int)≤10
  ·rw[if_pos hl]at h;obtain⟨b,hb,h⟩:=Option.bind_eq_some_iff.mp h;obtain rfl:=Option.some.inj h;have HC:=Asd.mk (fun W hR hp=>ContainsFuncR_calls 130 #[.pointer (some ⟨w.heap.size,0,none⟩)] (Hof.enters Try.func130 (by kernel_rfl) rfl) (impl_isMind.no k ab) aj ak J b W hR hp hb);clear h hb;have hl':decide ((J.length:Int)≤10)=true:=decide_eq_true hl;have fu:decide (J.length≤10)=true:=decide_eq_true (by omega);clear hl;go_enter Try.func101,Try.ntmps101;go_wp2_with fail;refine(HT.out _ (Kd.C_below az.out HA.out)).mono ?_;rintro e w1 ⟨rfl,bb⟩;have k0:w1.cell? ⟨w.heap.size,0,none⟩=some (.int .i64 ab):=(bb.cell (p:=⟨w.heap.size,0,none⟩) (by simp)).trans (by simp);have k2:w1.cell? ⟨w.heap.size,2,none⟩=some (.slice aj J.length ak):=(bb.cell (p:=⟨w.heap.size,2,none⟩) (by simp)).trans (by simp);have hz:w.heap.size<w1.heap.size:=Nat.lt_of_lt_of_le (by simp) bb.size;have cg:=Asd.mk (below_then HA.out HA.out.size bb);have HG:=Asd.mk (impl_isMind.gives k w1 w.heap.size ab hz k0);clear bb hz;go_wp2_with fail;refine(HC.out _ (Kd.C_below ft.out cg.out) HG.out).mono ?_;rintro e w2 ⟨rfl,cM⟩;go_wp2;go_ret;exact⟨rfl,below_then cg.out cg.out.size cM⟩
  ·rw[if_neg hl]at h;obtain rfl:=Option.some.inj h;clear h;have hl':decide ((J.length:Int)≤10)=false:=decide_eq_false hl;have fu:decide (J.length≤10)=false:=decide_eq_false (by omega);clear hl;go_enter Try.func101,Try.ntmps101;go_wp2_with fail;refine(HT.out _ (Kd.C_below az.out HA.out)).mono ?_;rintro e w1 ⟨rfl,bb⟩;have k2:w1.cell? ⟨w.heap.size,2,none⟩=some (.slice aj J.length ak):=(bb.cell (p:=⟨w.heap.size,2,none⟩) (by simp)).trans (by simp);have cg:=Asd.mk (below_then HA.out HA.out.size bb);clear bb;go_wp2;go_ret;exact⟨rfl,cg.out⟩

/-! ### impl_MindValid: function 54 -/
def impl_MindValid.f (k:Nat) (ab:Int) (aa:List Int) (J:List (List Int)):Option (Bool):=(impl_isMind.f k ab aa J).bind fun t149=>(some t149)
theorem impl_MindValid.mono:∀a0 a1 a2 k,LeO (impl_MindValid.f k a0 a1 a2) (impl_MindValid.f (k+1) a0 a1 a2):=by
 intro a0 a1 a2 k;unfold impl_MindValid.f
 repeat' first
   |(with_reducible first|exact impl_isMind.mono _ _ _ _|exact LeO.refl _|exact LeO.none _|refine LeO.ite ?_ ?_|refine LeO.bind ?_ (fun _=>?_))
   |refine LeO.ite ?_ ?_
   |refine LeO.bind ?_ (fun _=>?_)
set_option maxHeartbeats 8000000 in
set_option maxRecDepth 100000 in
theorem impl_MindValid.calls (k:Nat) (ab:Int) (an:Option Addr) (ao:Nat) (aa:List Int) (aj:Option Addr) (ak:Nat) (J:List (List Int)) (r:Bool) (w:World) (aJ:Kd.C (Kd.int .i64) w an aa.length aa) (aK:aa.length≤ao) (aM:Kd.C (Kd.slice 3 (Kd.int .i64)) w aj J.length J) (bd:J.length≤ak) (h:impl_MindValid.f k ab aa J=some r):
  Calls Try.prog 54 #[.agg #[.int .i64 ab,.slice an aa.length ao,.slice aj J.length ak]] w fun e w'=>e= .returned (.bool r)∧Below w.heap.size w w':=by
 have en:=Try.underlying58;have b4:=Asd.mk aJ;have b5:=Asd.mk aK;clear aJ aK;have ch:=Asd.mk aM;have cj:=Asd.mk bd;clear aM bd;have HB:=Asd.mk (Below.refl w.heap.size w);have H:((impl_isMind.f k ab aa J).bind fun t149=>(some t149))=some r:=h;clear h;replace H:=Option.bind_eq_some_iff.mp H;obtain⟨t149,eo,H⟩:=H;try dsimp only at H
 have A2:=Asd.mk eo;clear eo;obtain rfl:=Option.some.inj H;go_enter Try.func54,Try.ntmps54;go_wp2_with (first|((with_reducible refine gate_dst (N:=1) rfl ?_);refine bxE ?hg (N:=1) ?hd (cs:= #[.int .i64 ab,.slice an aa.length ao,.slice aj J.length ak]) (t:=58) ?hr ?_;(case hd=>rfl);(case hg=>rfl);(case hr=>first|(go_simp;done)|(go_simp;rfl));intro fv hg w3 ai hb;have ck:=Asd.mk (ai);have fw:=bG HB hg;have fx:=bG HB hg;replace HB:=bW HB hb;clear hb ai hg;obtain⟨e8,e9,fa,fb,fc,fe⟩:=b3 ck)|((with_reducible refine gate_callee (f:=101) rfl ?_);refine gsM (some 4) rfl rfl Try.func101 (by kernel_rfl) rfl #[.agg #[.int .i64 ab,.slice an aa.length ao,.slice aj J.length ak]] rfl ?_;(with_reducible refine(impl_isMind.calls k ab _ _ aa _ _ J t149 _ ?side1 ?side2 ?side3 ?side4 A2.out).mono ?_);(case side1=>exact cZ (Kd.C_below b4.out HB.out));(case side2=>exact b5.out);(case side3=>exact cZ (Kd.C_below ch.out HB.out));(case side4=>exact cj.out);rintro e w5 ⟨rfl,hb⟩;refine⟨_,rfl,?_⟩;replace ck:=bU ck hb;replace HB:=bW HB hb;(try clear hb);(try clear cM);(try clear hk);(try clear hi)));go_ret;exact⟨by first|rfl|(simp[*,errW_none,errW_some]<;>rfl),wZ HB⟩

/-! ### laws_sameInts: function 104 -/
def laws_sameInts.l0:Nat→List Int→List Int→Int→Option (Bool)
 |0,_,_,_=>none
 |k+1,x0,x1,x5=>if x5<(x0.length:Int)then(if 0≤x5 then(if x5<(x1.length:Int)then(if(rd x0 x5)=(rd x1 x5)then(laws_sameInts.l0 k x0 x1 (wrap64 (x5+1)))else(some false))else(none))else(none))else(some true)
def laws_sameInts.f (k:Nat) (l0:List Int) (l1:List Int):Option (Bool):=if(l0.length:Int)=(l1.length:Int)then(laws_sameInts.l0 k l0 l1 0)else(some false)
theorem laws_sameInts.mono_l:∀k,(∀y0 y1 y2,LeO (laws_sameInts.l0 k y0 y1 y2) (laws_sameInts.l0 (k+1) y0 y1 y2))
 |0=>fun _ _ _ r h=>by simp[laws_sameInts.l0]at h
 |k+1=>by
  have al:=laws_sameInts.mono_l k
  ·intro y0 y1 y2;unfold laws_sameInts.l0;repeat' first
   |(with_reducible first|exact al _ _ _|exact LeO.refl _|exact LeO.none _|refine LeO.ite ?_ ?_|refine LeO.bind ?_ (fun _=>?_))
   |refine LeO.ite ?_ ?_
   |refine LeO.bind ?_ (fun _=>?_)
theorem laws_sameInts.mono:∀a0 a1 k,LeO (laws_sameInts.f k a0 a1) (laws_sameInts.f (k+1) a0 a1):=by
 intro a0 a1 k;have al:=laws_sameInts.mono_l k;unfold laws_sameInts.f
 repeat' first
   |(with_reducible first|exact al _ _ _|exact LeO.refl _|exact LeO.none _|refine LeO.ite ?_ ?_|refine LeO.bind ?_ (fun _=>?_))
   |refine LeO.ite ?_ ?_
   |refine LeO.bind ?_ (fun _=>?_)
set_option maxHeartbeats 8000000 in
set_option maxRecDepth 100000 in
theorem laws_sameInts.calls (k:Nat) (A0:Option Addr) (c0:Nat) (l0:List Int) (A1:Option Addr) (c1:Nat) (l1:List Int) (r:Bool) (w:World) (aZ:Kd.C (Kd.int .i64) w A0 l0.length l0) (aV:l0.length≤c0) (a8:Kd.C (Kd.int .i64) w A1 l1.length l1) (ba:l1.length≤c1) (h:laws_sameInts.f k l0 l1=some r):
  Calls Try.prog 104 #[.slice A0 l0.length c0,.slice A1 l1.length c1] w fun e w'=>e= .returned (.bool r)∧Drawn0 w w':=by
 have a6:=Asd.mk aZ;have dn:=Asd.mk aV;clear aZ aV;have az:=Asd.mk a8;have b6:=Asd.mk ba;clear a8 ba;have H:(if(l0.length:Int)=(l1.length:Int)then(laws_sameInts.l0 k l0 l1 0)else(some false))=some r:=h;clear h;by_cases c3:(l0.length:Int)=(l1.length:Int)
 ·rw[if_pos c3]at H;have aH:((l0.length:Int)==(l1.length:Int))=true:=beq_iff_eq.mpr c3;have bp:((l0.length:Int) !=(l1.length:Int))=false:=bne_eq_false_iff_eq.mpr c3;have b7:(l0.length==l1.length)=true:=by first|simpa using c3|(simp at c3⊢;omega)
  clear c3;have H':=Asd.mk H;clear H;go_enter Try.func104,Try.ntmps104;go_wp2;repeat(go_quiet (fail);try go_wp2)
  go_loopg [5] k (fun kq v5 w'=>∃(o:Int),v5= .int .i64 o∧Asd (laws_sameInts.l0 kq l0 l1 o=some r)∧Asd (kq≤k)∧Drawn0 w w')
  case atStart=>exact⟨(0),(by first|rfl|(simp;done)|(simp[*];done)),H',⟨Nat.le_refl _⟩,by repeat(first|exact Drawn0.refl _|apply Drawn0.step)⟩
  case round=>
   clear H';obtain⟨o,rfl,HA,aG,⟨m1,rfl⟩⟩:=hrel;cases gk with
   |zero=>exact absurd HA.out (by simp[laws_sameInts.l0])
   |succ k1=>
    have H:=HA.out;clear HA;simp only[laws_sameInts.l0]at H;by_cases c4:o<(l0.length:Int)
    ·rw[if_pos c4]at H;have a7:decide (o<(l0.length:Int))=true:=decide_eq_true c4;clear c4;by_cases c5:0≤o;rotate_left;(rw[if_neg c5]at H;exact absurd H (by simp));rw[if_pos c5]at H;have cu:decide (0≤o)=true:=decide_eq_true c5;clear c5;by_cases c6:o<(l1.length:Int);rotate_left;(rw[if_neg c6]at H;exact absurd H (by simp));rw[if_pos c6]at H;have cm:decide (o<(l1.length:Int))=true:=decide_eq_true c6;clear c6;by_cases c7:(rd l0 o)=(rd l1 o)
     ·rw[if_pos c7]at H;have dC:((rd l0 o)==(rd l1 o))=true:=beq_iff_eq.mpr c7;have ep:((rd l0 o) !=(rd l1 o))=false:=bne_eq_false_iff_eq.mpr c7;clear c7;have H':=Asd.mk H;clear H;have bz:0≤(o:Int):=odt;have bA:o<(l0.length:Int):=odt;obtain⟨dQ,cN,cO⟩:=Kd.at_int a6.out o bz bA;cases cN;replace bz:=eq_true bz;replace bA:=eq_true bA;have bB:0≤(o:Int):=odt;have bD:o<(l1.length:Int):=odt;obtain⟨dR,cP,cQ⟩:=Kd.at_int az.out o bB bD;cases cP;replace bB:=eq_true bB;replace bD:=eq_true bD;go_wp2;repeat(go_quiet (fail);try go_wp2)
      go_roundg k1
      case measure=>have:=aG.out;omega
      case rel=>exact⟨(wrap64 (o+1)),(by first|rfl|(simp;done)|(simp[*];done)),H',⟨by have:=aG.out;omega⟩,by repeat(first|exact Drawn0.refl _|apply Drawn0.step)⟩
     ·rw[if_neg c7]at H;have dC:((rd l0 o)==(rd l1 o))=false:=beq_eq_false_iff_ne.mpr c7;have ep:((rd l0 o) !=(rd l1 o))=true:=bne_iff_ne.mpr c7;obtain rfl:=Option.some.inj H;have bz:0≤(o:Int):=odt;have bA:o<(l0.length:Int):=odt;obtain⟨dQ,cN,cO⟩:=Kd.at_int a6.out o bz bA;cases cN;replace bz:=eq_true bz;replace bA:=eq_true bA;have bB:0≤(o:Int):=odt;have bD:o<(l1.length:Int):=odt;obtain⟨dR,cP,cQ⟩:=Kd.at_int az.out o bB bD;cases cP;replace bB:=eq_true bB;replace bD:=eq_true bD;go_wp2;repeat(go_quiet (fail);try go_wp2)
      go_ret;exact⟨by first|rfl|(simp;done)|(simp[*];done),by repeat(first|exact Drawn0.refl _|apply Drawn0.step)⟩
    ·rw[if_neg c4]at H;have a7:decide (o<(l0.length:Int))=false:=decide_eq_false c4;clear c4;obtain rfl:=Option.some.inj H;go_wp2;repeat(go_quiet (fail);try go_wp2)
     go_ret;exact⟨by first|rfl|(simp;done)|(simp[*];done),by repeat(first|exact Drawn0.refl _|apply Drawn0.step)⟩
 ·rw[if_neg c3]at H;have aH:((l0.length:Int)==(l1.length:Int))=false:=beq_eq_false_iff_ne.mpr c3;have bp:((l0.length:Int) !=(l1.length:Int))=true:=bne_iff_ne.mpr c3;have b7:(l0.length==l1.length)=false:=by first|simpa using c3|(simp at c3⊢;omega)
  obtain rfl:=Option.some.inj H;go_enter Try.func104,Try.ntmps104;go_wp2;repeat(go_quiet (fail);try go_wp2)
  go_ret;exact⟨by first|rfl|(simp;done)|(simp[*];done),by repeat(first|exact Drawn0.refl _|apply Drawn0.step)⟩

/-! ### laws_sameRows: function 105 -/
def laws_sameRows.l0:Nat→List (List Int)→List (List Int)→Int→Option (Bool)
 |0,_,_,_=>none
 |k+1,x0,x1,x5=>if x5<(x0.length:Int)then(if 0≤x5 then(if x5<(x1.length:Int)then((laws_sameInts.f k (rd_L1 x0 x5) (rd_L1 x1 x5)).bind fun t154=>(if t154=true then(laws_sameRows.l0 k x0 x1 (wrap64 (x5+1)))else(some false)))else(none))else(none))else(some true)
def laws_sameRows.f (k:Nat) (l0:List (List Int)) (l1:List (List Int)):Option (Bool):=if(l0.length:Int)=(l1.length:Int)then(laws_sameRows.l0 k l0 l1 0)else(some false)
theorem laws_sameRows.mono_l:∀k,(∀y0 y1 y2,LeO (laws_sameRows.l0 k y0 y1 y2) (laws_sameRows.l0 (k+1) y0 y1 y2))
 |0=>fun _ _ _ r h=>by simp[laws_sameRows.l0]at h
 |k+1=>by
  have al:=laws_sameRows.mono_l k
  ·intro y0 y1 y2;unfold laws_sameRows.l0;repeat' first
   |(with_reducible first|exact al _ _ _|exact laws_sameInts.mono _ _ _|exact LeO.refl _|exact LeO.none _|refine LeO.ite ?_ ?_|refine LeO.bind ?_ (fun _=>?_))
   |refine LeO.ite ?_ ?_
   |refine LeO.bind ?_ (fun _=>?_)
theorem laws_sameRows.mono:∀a0 a1 k,LeO (laws_sameRows.f k a0 a1) (laws_sameRows.f (k+1) a0 a1):=by
 intro a0 a1 k;have al:=laws_sameRows.mono_l k;unfold laws_sameRows.f
 repeat' first
   |(with_reducible first|exact al _ _ _|exact laws_sameInts.mono _ _ _|exact LeO.refl _|exact LeO.none _|refine LeO.ite ?_ ?_|refine LeO.bind ?_ (fun _=>?_))
   |refine LeO.ite ?_ ?_
   |refine LeO.bind ?_ (fun _=>?_)
set_option maxHeartbeats 8000000 in
set_option maxRecDepth 100000 in
theorem laws_sameRows.calls (k:Nat) (A0:Option Addr) (c0:Nat) (l0:List (List Int)) (A1:Option Addr) (c1:Nat) (l1:List (List Int)) (r:Bool) (w:World) (aZ:Kd.C (Kd.slice 3 (Kd.int .i64)) w A0 l0.length l0) (aV:l0.length≤c0) (a8:Kd.C (Kd.slice 3 (Kd.int .i64)) w A1 l1.length l1) (ba:l1.length≤c1) (h:laws_sameRows.f k l0 l1=some r):
  Calls Try.prog 105 #[.slice A0 l0.length c0,.slice A1 l1.length c1] w fun e w'=>e= .returned (.bool r)∧Drawn0 w w':=by
 have a6:=Asd.mk aZ;have dn:=Asd.mk aV;clear aZ aV;have az:=Asd.mk a8;have b6:=Asd.mk ba;clear a8 ba;have H:(if(l0.length:Int)=(l1.length:Int)then(laws_sameRows.l0 k l0 l1 0)else(some false))=some r:=h;clear h;by_cases c3:(l0.length:Int)=(l1.length:Int)
 ·rw[if_pos c3]at H;have aH:((l0.length:Int)==(l1.length:Int))=true:=beq_iff_eq.mpr c3;have bp:((l0.length:Int) !=(l1.length:Int))=false:=bne_eq_false_iff_eq.mpr c3;have b7:(l0.length==l1.length)=true:=by first|simpa using c3|(simp at c3⊢;omega)
  clear c3;have H':=Asd.mk H;clear H;go_enter Try.func105,Try.ntmps105;go_wp2;repeat(go_quiet (fail);try go_wp2)
  go_loopg [5] k (fun kq v5 w'=>∃(o:Int),v5= .int .i64 o∧Asd (laws_sameRows.l0 kq l0 l1 o=some r)∧Asd (kq≤k)∧Drawn0 w w')
  case atStart=>exact⟨(0),(by first|rfl|(simp;done)|(simp[*];done)),H',⟨Nat.le_refl _⟩,by repeat(first|exact Drawn0.refl _|apply Drawn0.step)⟩
  case round=>
   clear H';obtain⟨o,rfl,HA,aG,⟨m1,rfl⟩⟩:=hrel;cases gk with
   |zero=>exact absurd HA.out (by simp[laws_sameRows.l0])
   |succ k1=>
    have H:=HA.out;clear HA;simp only[laws_sameRows.l0]at H;by_cases c4:o<(l0.length:Int)
    ·rw[if_pos c4]at H;have a7:decide (o<(l0.length:Int))=true:=decide_eq_true c4;clear c4;by_cases c5:0≤o;rotate_left;(rw[if_neg c5]at H;exact absurd H (by simp));rw[if_pos c5]at H;have cu:decide (0≤o)=true:=decide_eq_true c5;clear c5;by_cases c6:o<(l1.length:Int);rotate_left;(rw[if_neg c6]at H;exact absurd H (by simp));rw[if_pos c6]at H;have cm:decide (o<(l1.length:Int))=true:=decide_eq_true c6;clear c6;replace H:=Option.bind_eq_some_iff.mp H;obtain⟨t154,er,H⟩:=H;try dsimp only at H
     have A7:=Asd.mk er;clear er;by_cases c8:t154=true
     ·subst c8;rw[if_pos rfl]at H;have H':=Asd.mk H;clear H;have bF:0≤(o:Int):=odt;have bH:o<(l0.length:Int):=odt;obtain⟨dS,dt,du,cR,cS,aN,aQ⟩:=at_L1 a6.out o bF bH;cases cR;have aq:=Asd.mk aQ;have ar:=Asd.mk aN;clear aQ aN;replace bF:=eq_true bF;replace bH:=eq_true bH;have bI:0≤(o:Int):=odt;have bJ:o<(l1.length:Int):=odt;obtain⟨dT,dv,dw,cT,cU,aT,aU⟩:=at_L1 az.out o bI bJ;cases cT;have au:=Asd.mk aU;have av:=Asd.mk aT;clear aU aT;replace bI:=eq_true bI;replace bJ:=eq_true bJ;go_wp2_with (first|(go_at_call 104;(with_reducible refine(laws_sameInts.calls k1 _ _ (rd_L1 l0 o) _ _ (rd_L1 l1 o) true _ ?side1 ?side2 ?side3 ?side4 A7.out).mono ?_);(case side1=>exact cZ aq.out);(case side2=>exact ar.out);(case side3=>exact cZ au.out);(case side4=>exact av.out);rintro e w' ⟨rfl,⟨nd,rfl⟩⟩;(try first|exact⟨rfl,_,World.drewN_drewN _ _ _⟩|exact⟨rfl,_,Eq.trans (World.drewN_drewN _ _ _) (congrArg (World.drewN _) (Nat.add_assoc _ _ _))⟩)));repeat(go_quiet (first|(go_at_call 104;(with_reducible refine(laws_sameInts.calls k1 _ _ (rd_L1 l0 o) _ _ (rd_L1 l1 o) true _ ?side1 ?side2 ?side3 ?side4 A7.out).mono ?_);(case side1=>exact cZ aq.out);(case side2=>exact ar.out);(case side3=>exact cZ au.out);(case side4=>exact av.out);rintro e w' ⟨rfl,⟨nd,rfl⟩⟩;(try first|exact⟨rfl,_,World.drewN_drewN _ _ _⟩|exact⟨rfl,_,Eq.trans (World.drewN_drewN _ _ _) (congrArg (World.drewN _) (Nat.add_assoc _ _ _))⟩)));try go_wp2_with (first|(go_at_call 104;(with_reducible refine(laws_sameInts.calls k1 _ _ (rd_L1 l0 o) _ _ (rd_L1 l1 o) true _ ?side1 ?side2 ?side3 ?side4 A7.out).mono ?_);(case side1=>exact cZ aq.out);(case side2=>exact ar.out);(case side3=>exact cZ au.out);(case side4=>exact av.out);rintro e w' ⟨rfl,⟨nd,rfl⟩⟩;(try first|exact⟨rfl,_,World.drewN_drewN _ _ _⟩|exact⟨rfl,_,Eq.trans (World.drewN_drewN _ _ _) (congrArg (World.drewN _) (Nat.add_assoc _ _ _))⟩))))
      go_roundg k1
      case measure=>have:=aG.out;omega
      case rel=>exact⟨(wrap64 (o+1)),(by first|rfl|(simp;done)|(simp[*];done)),H',⟨by have:=aG.out;omega⟩,by repeat(first|exact Drawn0.refl _|apply Drawn0.step)⟩
     ·replace c8:=Bool.eq_false_iff.mpr c8;subst c8;rw[if_neg (show¬(false=true) by decide)]at H;obtain rfl:=Option.some.inj H;have bF:0≤(o:Int):=odt;have bH:o<(l0.length:Int):=odt;obtain⟨dS,dt,du,cR,cS,aN,aQ⟩:=at_L1 a6.out o bF bH;cases cR;have aq:=Asd.mk aQ;have ar:=Asd.mk aN;clear aQ aN;replace bF:=eq_true bF;replace bH:=eq_true bH;have bI:0≤(o:Int):=odt;have bJ:o<(l1.length:Int):=odt;obtain⟨dT,dv,dw,cT,cU,aT,aU⟩:=at_L1 az.out o bI bJ;cases cT;have au:=Asd.mk aU;have av:=Asd.mk aT;clear aU aT;replace bI:=eq_true bI;replace bJ:=eq_true bJ;go_wp2_with (first|(go_at_call 104;(with_reducible refine(laws_sameInts.calls k1 _ _ (rd_L1 l0 o) _ _ (rd_L1 l1 o) false _ ?side1 ?side2 ?side3 ?side4 A7.out).mono ?_);(case side1=>exact cZ aq.out);(case side2=>exact ar.out);(case side3=>exact cZ au.out);(case side4=>exact av.out);rintro e w' ⟨rfl,⟨nd,rfl⟩⟩;(try first|exact⟨rfl,_,World.drewN_drewN _ _ _⟩|exact⟨rfl,_,Eq.trans (World.drewN_drewN _ _ _) (congrArg (World.drewN _) (Nat.add_assoc _ _ _))⟩)));repeat(go_quiet (first|(go_at_call 104;(with_reducible refine(laws_sameInts.calls k1 _ _ (rd_L1 l0 o) _ _ (rd_L1 l1 o) false _ ?side1 ?side2 ?side3 ?side4 A7.out).mono ?_);(case side1=>exact cZ aq.out);(case side2=>exact ar.out);(case side3=>exact cZ au.out);(case side4=>exact av.out);rintro e w' ⟨rfl,⟨nd,rfl⟩⟩;(try first|exact⟨rfl,_,World.drewN_drewN _ _ _⟩|exact⟨rfl,_,Eq.trans (World.drewN_drewN _ _ _) (congrArg (World.drewN _) (Nat.add_assoc _ _ _))⟩)));try go_wp2_with (first|(go_at_call 104;(with_reducible refine(laws_sameInts.calls k1 _ _ (rd_L1 l0 o) _ _ (rd_L1 l1 o) false _ ?side1 ?side2 ?side3 ?side4 A7.out).mono ?_);(case side1=>exact cZ aq.out);(case side2=>exact ar.out);(case side3=>exact cZ au.out);(case side4=>exact av.out);rintro e w' ⟨rfl,⟨nd,rfl⟩⟩;(try first|exact⟨rfl,_,World.drewN_drewN _ _ _⟩|exact⟨rfl,_,Eq.trans (World.drewN_drewN _ _ _) (congrArg (World.drewN _) (Nat.add_assoc _ _ _))⟩))))
      go_ret;exact⟨by first|rfl|(simp;done)|(simp[*];done),by repeat(first|exact Drawn0.refl _|apply Drawn0.step)⟩
    ·rw[if_neg c4]at H;have a7:decide (o<(l0.length:Int))=false:=decide_eq_false c4;clear c4;obtain rfl:=Option.some.inj H;go_wp2;repeat(go_quiet (fail);try go_wp2)
     go_ret;exact⟨by first|rfl|(simp;done)|(simp[*];done),by repeat(first|exact Drawn0.refl _|apply Drawn0.step)⟩
 ·rw[if_neg c3]at H;have aH:((l0.length:Int)==(l1.length:Int))=false:=beq_eq_false_iff_ne.mpr c3;have bp:((l0.length:Int) !=(l1.length:Int))=true:=bne_iff_ne.mpr c3;have b7:(l0.length==l1.length)=false:=by first|simpa using c3|(simp at c3⊢;omega)
  obtain rfl:=Option.some.inj H;go_enter Try.func105,Try.ntmps105;go_wp2;repeat(go_quiet (fail);try go_wp2)
  go_ret;exact⟨by first|rfl|(simp;done)|(simp[*];done),by repeat(first|exact Drawn0.refl _|apply Drawn0.step)⟩

/-! ### laws_sameMind: function 58 -/
def laws_sameMind.f (k:Nat) (ab:Int) (aa:List Int) (J:List (List Int)) (aA:Int) (aC:List Int) (aD:List (List Int)):Option (Bool):=if ab=aA then((laws_sameInts.f k aa aC).bind fun t157=>(if t157=true then((laws_sameRows.f k J aD).bind fun t158=>(some t158))else(some false)))else(some false)
theorem laws_sameMind.mono:∀a0 a1 a2 a3 a4 a5 k,LeO (laws_sameMind.f k a0 a1 a2 a3 a4 a5) (laws_sameMind.f (k+1) a0 a1 a2 a3 a4 a5):=by
 intro a0 a1 a2 a3 a4 a5 k;unfold laws_sameMind.f
 repeat' first
   |(with_reducible first|exact laws_sameInts.mono _ _ _|exact laws_sameRows.mono _ _ _|exact LeO.refl _|exact LeO.none _|refine LeO.ite ?_ ?_|refine LeO.bind ?_ (fun _=>?_))
   |refine LeO.ite ?_ ?_
   |refine LeO.bind ?_ (fun _=>?_)
set_option maxHeartbeats 8000000 in
set_option maxRecDepth 100000 in
theorem laws_sameMind.calls (k:Nat) (ab:Int) (an:Option Addr) (ao:Nat) (aa:List Int) (aj:Option Addr) (ak:Nat) (J:List (List Int)) (aA:Int) (b8:Option Addr) (b9:Nat) (aC:List Int) (ca:Option Addr) (cb:Nat) (aD:List (List Int)) (r:Bool) (w:World) (aJ:Kd.C (Kd.int .i64) w an aa.length aa) (aK:aa.length≤ao) (aM:Kd.C (Kd.slice 3 (Kd.int .i64)) w aj J.length J) (bd:J.length≤ak) (cV:Kd.C (Kd.int .i64) w b8 aC.length aC) (cW:aC.length≤b9) (cX:Kd.C (Kd.slice 3 (Kd.int .i64)) w ca aD.length aD) (cY:aD.length≤cb) (h:laws_sameMind.f k ab aa J aA aC aD=some r):
  Calls Try.prog 58 #[.agg #[.int .i64 ab,.slice an aa.length ao,.slice aj J.length ak],.agg #[.int .i64 aA,.slice b8 aC.length b9,.slice ca aD.length cb]] w fun e w'=>e= .returned (.bool r)∧Below w.heap.size w w':=by
 have en:=Try.underlying58;have b4:=Asd.mk aJ;have b5:=Asd.mk aK;clear aJ aK;have ch:=Asd.mk aM;have cj:=Asd.mk bd;clear aM bd;have da:=Asd.mk cV;have db:=Asd.mk cW;clear cV cW;have dU:=Asd.mk cX;have dV:=Asd.mk cY;clear cX cY;have HB:=Asd.mk (Below.refl w.heap.size w);have H:(if ab=aA then((laws_sameInts.f k aa aC).bind fun t157=>(if t157=true then((laws_sameRows.f k J aD).bind fun t158=>(some t158))else(some false)))else(some false))=some r:=h;clear h;by_cases c3:ab=aA
 ·rw[if_pos c3]at H;have aH:(ab==aA)=true:=beq_iff_eq.mpr c3;have bp:(ab !=aA)=false:=bne_eq_false_iff_eq.mpr c3;clear c3;replace H:=Option.bind_eq_some_iff.mp H;obtain⟨t157,cz,H⟩:=H;try dsimp only at H
  have A4:=Asd.mk cz;clear cz;by_cases c5:t157=true
  ·subst c5;rw[if_pos rfl]at H;replace H:=Option.bind_eq_some_iff.mp H;obtain⟨t158,cL,H⟩:=H;try dsimp only at H
   have A6:=Asd.mk cL;clear cL;obtain rfl:=Option.some.inj H;go_enter Try.func58,Try.ntmps58;go_wp2_with (first|((with_reducible refine gate_dst (N:=2) rfl ?_);refine bxE ?hg (N:=2) ?hd (cs:= #[.int .i64 ab,.slice an aa.length ao,.slice aj J.length ak]) (t:=58) ?hr ?_;(case hd=>rfl);(case hg=>rfl);(case hr=>first|(go_simp;done)|(go_simp;rfl));intro dc hg w7 ai hb;have ag:=Asd.mk (ai);have dd:=bG HB hg;have de:=bG HB hg;replace HB:=bW HB hb;clear hb ai hg)|((with_reducible refine gate_dst (N:=3) rfl ?_);refine bxE ?hg (N:=3) ?hd (cs:= #[.int .i64 aA,.slice b8 aC.length b9,.slice ca aD.length cb]) (t:=58) ?hr ?_;(case hd=>rfl);(case hg=>rfl);(case hr=>first|(go_simp;done)|(go_simp;rfl));intro df hg w8 ai hb;have bO:=Asd.mk (ai);have dg:=bG HB hg;have dh:=bG HB hg;replace HB:=bW HB hb;have aw:=bL ag hg;have ax:=bM ag hg;replace ag:=bU ag hb;clear hb ai hg;have fG:=aw.out;have fH:=ax.out;obtain⟨et,eu,ev,ew,ey,ez⟩:=b3 ag;obtain⟨eA,eB,eC,eD,eE,eF⟩:=b3 bO)|(go_at_call 104;(with_reducible refine(laws_sameInts.calls k _ _ aa _ _ aC true _ ?side1 ?side2 ?side3 ?side4 A4.out).mono ?_);(case side1=>exact cZ (Kd.C_below b4.out HB.out));(case side2=>exact b5.out);(case side3=>exact cZ (Kd.C_below da.out HB.out));(case side4=>exact db.out);rintro e w' ⟨rfl,⟨nd,rfl⟩⟩)|(go_at_call 105;(with_reducible refine(laws_sameRows.calls k _ _ J _ _ aD t158 _ ?side1 ?side2 ?side3 ?side4 A6.out).mono ?_);(case side1=>exact cZ (Kd.C_below ch.out (wZ HB)));(case side2=>exact cj.out);(case side3=>exact cZ (Kd.C_below dU.out (wZ HB)));(case side4=>exact dV.out);rintro e w' ⟨rfl,⟨nd,rfl⟩⟩));go_ret;exact⟨by first|rfl|(simp[*,errW_none,errW_some]<;>rfl),wZ HB⟩
  ·replace c5:=Bool.eq_false_iff.mpr c5;subst c5;rw[if_neg (show¬(false=true) by decide)]at H;obtain rfl:=Option.some.inj H;go_enter Try.func58,Try.ntmps58;go_wp2_with (first|((with_reducible refine gate_dst (N:=2) rfl ?_);refine bxE ?hg (N:=2) ?hd (cs:= #[.int .i64 ab,.slice an aa.length ao,.slice aj J.length ak]) (t:=58) ?hr ?_;(case hd=>rfl);(case hg=>rfl);(case hr=>first|(go_simp;done)|(go_simp;rfl));intro dc hg w12 ai hb;have ag:=Asd.mk (ai);have dd:=bG HB hg;have de:=bG HB hg;replace HB:=bW HB hb;clear hb ai hg)|((with_reducible refine gate_dst (N:=3) rfl ?_);refine bxE ?hg (N:=3) ?hd (cs:= #[.int .i64 aA,.slice b8 aC.length b9,.slice ca aD.length cb]) (t:=58) ?hr ?_;(case hd=>rfl);(case hg=>rfl);(case hr=>first|(go_simp;done)|(go_simp;rfl));intro df hg w13 ai hb;have bO:=Asd.mk (ai);have dg:=bG HB hg;have dh:=bG HB hg;replace HB:=bW HB hb;have aw:=bL ag hg;have ax:=bM ag hg;replace ag:=bU ag hb;clear hb ai hg;have fy:=aw.out;have fz:=ax.out;obtain⟨eG,eH,eI,eJ,eK,eL⟩:=b3 ag;obtain⟨eM,eN,eO,eP,eQ,eR⟩:=b3 bO)|(go_at_call 104;(with_reducible refine(laws_sameInts.calls k _ _ aa _ _ aC false _ ?side1 ?side2 ?side3 ?side4 A4.out).mono ?_);(case side1=>exact cZ (Kd.C_below b4.out HB.out));(case side2=>exact b5.out);(case side3=>exact cZ (Kd.C_below da.out HB.out));(case side4=>exact db.out);rintro e w' ⟨rfl,⟨nd,rfl⟩⟩));go_ret;exact⟨by first|rfl|(simp[*,errW_none,errW_some]<;>rfl),wZ HB⟩
 ·rw[if_neg c3]at H;have aH:(ab==aA)=false:=beq_eq_false_iff_ne.mpr c3;have bp:(ab !=aA)=true:=bne_iff_ne.mpr c3;obtain rfl:=Option.some.inj H;go_enter Try.func58,Try.ntmps58;go_wp2_with (first|((with_reducible refine gate_dst (N:=2) rfl ?_);refine bxE ?hg (N:=2) ?hd (cs:= #[.int .i64 ab,.slice an aa.length ao,.slice aj J.length ak]) (t:=58) ?hr ?_;(case hd=>rfl);(case hg=>rfl);(case hr=>first|(go_simp;done)|(go_simp;rfl));intro dc hg w17 ai hb;have ag:=Asd.mk (ai);have dd:=bG HB hg;have de:=bG HB hg;replace HB:=bW HB hb;clear hb ai hg)|((with_reducible refine gate_dst (N:=3) rfl ?_);refine bxE ?hg (N:=3) ?hd (cs:= #[.int .i64 aA,.slice b8 aC.length b9,.slice ca aD.length cb]) (t:=58) ?hr ?_;(case hd=>rfl);(case hg=>rfl);(case hr=>first|(go_simp;done)|(go_simp;rfl));intro df hg w18 ai hb;have bO:=Asd.mk (ai);have dg:=bG HB hg;have dh:=bG HB hg;replace HB:=bW HB hb;have aw:=bL ag hg;have ax:=bM ag hg;replace ag:=bU ag hb;clear hb ai hg;have fA:=aw.out;have fB:=ax.out;obtain⟨eS,eT,eU,eV,eW,eX⟩:=b3 ag;obtain⟨eY,eZ,e0,e1,e3,e4⟩:=b3 bO));go_ret;exact⟨by first|rfl|(simp[*,errW_none,errW_some]<;>rfl),wZ HB⟩

/-! ### spec_l1In: function 72 -/
def spec_l1In.f (a0:Int) (a1:Int) (a2:Int):Option (Bool):=if a0≥a1 then(some (decide (a0≤a2)))else(some false)
set_option maxHeartbeats 8000000 in
set_option maxRecDepth 100000 in
theorem spec_l1In.calls (a0:Int) (a1:Int) (a2:Int) (r:Bool) (w:World) (h:spec_l1In.f a0 a1 a2=some r):
  Calls Try.prog 72 #[.int .i64 a0,.int .i64 a1,.int .i64 a2] w fun e w'=>e= .returned (.bool r)∧Drawn0 w w':=by
 have H:(if a0≥a1 then(some (decide (a0≤a2)))else(some false))=some r:=h;clear h;by_cases c4:a0≥a1
 ·rw[if_pos c4]at H;have a7:decide (a1≤a0)=true:=decide_eq_true c4;clear c4;obtain rfl:=Option.some.inj H;go_enter Try.func72,Try.ntmps72;go_wp2;go_ret;exact⟨by first|rfl|(simp;done)|(simp[*];done),by repeat(first|exact Drawn0.refl _|apply Drawn0.step)⟩
 ·rw[if_neg c4]at H;have a7:decide (a1≤a0)=false:=decide_eq_false c4;clear c4;obtain rfl:=Option.some.inj H;go_enter Try.func72,Try.ntmps72;go_wp2;go_ret;exact⟨by first|rfl|(simp;done)|(simp[*];done),by repeat(first|exact Drawn0.refl _|apply Drawn0.step)⟩

/-! ### spec_RankOk: function 59 -/
def spec_RankOk.l0:Nat→Int→List Int→Int→Int→Option (Bool)
 |0,_,_,_,_=>none
 |k+1,x0,x1,x5,x6=>if x6<(x1.length:Int)then(if 0≤x6 then((spec_l1In.f (rd x1 x6) 0 9).bind fun t160=>(if t160=true then(spec_RankOk.l0 k x0 x1 (mn x5 (rd x1 x6)) (wrap64 (x6+1)))else(some false)))else(none))else((spec_l1In.f x0 1 3).bind fun t162=>(if t162=true then(if 0≤x0 then(if(x1.length:Int)=(shl .i64 1 x0)then(some (x5==0))else(some false))else(none))else(some false)))
def spec_RankOk.f (k:Nat) (a0:Int) (l1:List Int):Option (Bool):=spec_RankOk.l0 k a0 l1 9 0
theorem spec_RankOk.mono_l:∀k,(∀y0 y1 y2 y3,LeO (spec_RankOk.l0 k y0 y1 y2 y3) (spec_RankOk.l0 (k+1) y0 y1 y2 y3))
 |0=>fun _ _ _ _ r h=>by simp[spec_RankOk.l0]at h
 |k+1=>by
  have al:=spec_RankOk.mono_l k
  ·intro y0 y1 y2 y3;unfold spec_RankOk.l0;repeat' first
   |(with_reducible first|exact al _ _ _ _|exact LeO.refl _|exact LeO.none _|refine LeO.ite ?_ ?_|refine LeO.bind ?_ (fun _=>?_))
   |refine LeO.ite ?_ ?_
   |refine LeO.bind ?_ (fun _=>?_)
theorem spec_RankOk.mono:∀a0 a1 k,LeO (spec_RankOk.f k a0 a1) (spec_RankOk.f (k+1) a0 a1):=by
 intro a0 a1 k;have al:=spec_RankOk.mono_l k;unfold spec_RankOk.f
 repeat' first
   |(with_reducible first|exact al _ _ _ _|exact LeO.refl _|exact LeO.none _|refine LeO.ite ?_ ?_|refine LeO.bind ?_ (fun _=>?_))
   |refine LeO.ite ?_ ?_
   |refine LeO.bind ?_ (fun _=>?_)
set_option maxHeartbeats 8000000 in
set_option maxRecDepth 100000 in
theorem spec_RankOk.calls (k:Nat) (a0:Int) (A1:Option Addr) (c1:Nat) (l1:List Int) (r:Bool) (w:World) (a8:Kd.C (Kd.int .i64) w A1 l1.length l1) (ba:l1.length≤c1) (h:spec_RankOk.f k a0 l1=some r):
  Calls Try.prog 59 #[.int .i64 a0,.slice A1 l1.length c1] w fun e w'=>e= .returned (.bool r)∧Below w.heap.size w w':=by
 have az:=Asd.mk a8;have b6:=Asd.mk ba;clear a8 ba;have HB:=Asd.mk (Below.refl w.heap.size w);have H:(spec_RankOk.l0 k a0 l1 9 0)=some r:=h;clear h;have H':=Asd.mk H;clear H;go_enter Try.func59,Try.ntmps59;go_wp2;go_loopg [5,6] k (fun kq v5 v6 w'=>∃(o:Int) (ae:Int),v5= .int .i64 o∧v6= .int .i64 ae∧Asd (spec_RankOk.l0 kq a0 l1 o ae=some r)∧Asd (kq≤k)∧Asd (Below w.heap.size w w'))
 case atStart=>exact⟨(9),(0),(by first|rfl|(simp;done)|(simp[*];done)),(by first|rfl|(simp;done)|(simp[*];done)),H',⟨Nat.le_refl _⟩,⟨wZ HB⟩⟩
 case round=>
  clear H';obtain⟨o,ae,rfl,rfl,HA,aG,HB⟩:=hrel;cases gk with
  |zero=>exact absurd HA.out (by simp[spec_RankOk.l0])
  |succ k1=>
   have H:=HA.out;clear HA;simp only[spec_RankOk.l0]at H;by_cases c3:ae<(l1.length:Int)
   ·rw[if_pos c3]at H;have aH:decide (ae<(l1.length:Int))=true:=decide_eq_true c3;clear c3;by_cases c4:0≤ae;rotate_left;(rw[if_neg c4]at H;exact absurd H (by simp));rw[if_pos c4]at H;have a7:decide (0≤ae)=true:=decide_eq_true c4;clear c4;replace H:=Option.bind_eq_some_iff.mp H;obtain⟨t160,cK,H⟩:=H;try dsimp only at H
    have A5:=Asd.mk cK;clear cK;by_cases c6:t160=true
    ·subst c6;rw[if_pos rfl]at H;obtain⟨dW,cc⟩:∃j_:Int,(mn o (rd l1 ae))=j_:=⟨_,rfl⟩;replace H:(spec_RankOk.l0 k1 a0 l1 dW (wrap64 (ae+1)))=some r:=by first|(rw[cc]at H;exact H)|(simp only[cc]at H⊢;exact H)
     (try rw[cc]at A5);have fC:(if(rd l1 ae)<o then(rd l1 ae)else o)=dW:=cc;have H':=Asd.mk H;clear H;have bQ:0≤(ae:Int):=odt;have bT:ae<(l1.length:Int):=odt;obtain⟨di,dj,ay⟩:=Kd.at_int az.out ae bQ bT;cases dj;replace ay:=(HB.out.cell (World.block_lt_of_cell? w _ ay)).trans ay;replace bQ:=eq_true bQ;replace bT:=eq_true bT;go_wp2_with (first|((with_reducible refine gate_callee (f:=72) rfl ?_);refine gsM (some 17) rfl rfl Try.func72 (by kernel_rfl) rfl #[.int .i64 (rd l1 ae),.int .i64 0,.int .i64 9] rfl ?_;(with_reducible refine(spec_l1In.calls (rd l1 ae) 0 9 true _ A5.out).mono ?_);rintro e w' ⟨rfl,⟨nd,rfl⟩⟩;refine⟨_,rfl,?_⟩;have dk:0≤(ae:Int):=odt;have dm:ae<(l1.length:Int):=odt;obtain⟨dX,e5,bV⟩:=Kd.at_int az.out ae dk dm;obtain rfl:di=dX:=(by injection e5);replace bV:=(HB.out.cell (World.block_lt_of_cell? w _ bV)).trans bV;replace dk:=eq_true dk;replace dm:=eq_true dm));go_roundg k1
     case measure=>have:=aG.out;omega
     case rel=>exact⟨(dW),(wrap64 (ae+1)),(by first|rfl|(simp;done)|(simp only[←cc]<;>(first|rfl|simp))|(simp[*];done)),(by first|rfl|(simp;done)|(simp[*];done)),H',⟨by have:=aG.out;omega⟩,⟨wZ HB⟩⟩
    ·replace c6:=Bool.eq_false_iff.mpr c6;subst c6;rw[if_neg (show¬(false=true) by decide)]at H;obtain rfl:=Option.some.inj H;have bQ:0≤(ae:Int):=odt;have bT:ae<(l1.length:Int):=odt;obtain⟨di,dj,ay⟩:=Kd.at_int az.out ae bQ bT;cases dj;replace ay:=(HB.out.cell (World.block_lt_of_cell? w _ ay)).trans ay;replace bQ:=eq_true bQ;replace bT:=eq_true bT;go_wp2_with (first|((with_reducible refine gate_callee (f:=72) rfl ?_);refine gsM (some 17) rfl rfl Try.func72 (by kernel_rfl) rfl #[.int .i64 (rd l1 ae),.int .i64 0,.int .i64 9] rfl ?_;(with_reducible refine(spec_l1In.calls (rd l1 ae) 0 9 false _ A5.out).mono ?_);rintro e w' ⟨rfl,⟨nd,rfl⟩⟩;refine⟨_,rfl,?_⟩));go_ret;exact⟨by first|rfl|(simp[*,errW_none,errW_some]<;>rfl),wZ HB⟩
   ·rw[if_neg c3]at H;have aH:decide (ae<(l1.length:Int))=false:=decide_eq_false c3;clear c3;replace H:=Option.bind_eq_some_iff.mp H;obtain⟨t162,e6,H⟩:=H;try dsimp only at H
    have A8:=Asd.mk e6;clear e6;by_cases c9:t162=true
    ·subst c9;rw[if_pos rfl]at H;by_cases c10:0≤a0;rotate_left;(rw[if_neg c10]at H;exact absurd H (by simp));rw[if_pos c10]at H;have fD:=eq_true c10;have fE:decide (0≤a0)=true:=decide_eq_true c10;clear c10;obtain⟨aE,aY⟩:∃j_:Int,(shl .i64 1 a0)=j_:=⟨_,rfl⟩;replace H:(if(l1.length:Int)=(aE)then(some (o==0))else(some false))=some r:=by first|(rw[aY]at H;exact H)|(simp only[aY]at H⊢;exact H)
     (try rw[aY]at A8);have cn:(IntKind.i64.wrap (1*2^min a0.toNat 64))=aE:=aY;have cp:a0≤64→(IntKind.i64.wrap (1*2^a0.toNat))=aE:=shl_small aY;have ff:(IntKind.i64.wrap (2^min a0.toNat 64))=aE:=by have h_:=cn;rw[Int.one_mul]at h_;exact h_
     have fg:a0≤64→(IntKind.i64.wrap (2^a0.toNat))=aE:=fun e7=>by have h_:=cp e7;rw[Int.one_mul]at h_;exact h_
     have fh:(wrap64 (1*2^min a0.toNat 64))=aE:=(i64_w _).symm.trans cn;have fi:a0≤64→(wrap64 (1*2^a0.toNat))=aE:=fun h_=>(i64_w _).symm.trans (cp h_)
     by_cases cl:(l1.length:Int)=(aE)
     ·rw[if_pos cl]at H;have dY:((l1.length:Int)==(aE))=true:=beq_iff_eq.mpr cl;have dZ:((l1.length:Int) !=(aE))=false:=bne_eq_false_iff_eq.mpr cl;clear cl;obtain rfl:=Option.some.inj H;go_wp2_with (first|((with_reducible refine gate_callee (f:=72) rfl ?_);refine gsM (some 26) rfl rfl Try.func72 (by kernel_rfl) rfl #[.int .i64 a0,.int .i64 1,.int .i64 3] rfl ?_;(with_reducible refine(spec_l1In.calls a0 1 3 true _ A8.out).mono ?_);rintro e w' ⟨rfl,⟨nd,rfl⟩⟩;refine⟨_,rfl,?_⟩));go_ret;exact⟨by first|rfl|(simp[errW_none,errW_some]<;>rfl)|(simp only[←aY];first|rfl|(simp[errW_none,errW_some]<;>rfl))|(simp[*,errW_none,errW_some]<;>rfl),wZ HB⟩
     ·rw[if_neg cl]at H;have dY:((l1.length:Int)==(aE))=false:=beq_eq_false_iff_ne.mpr cl;have dZ:((l1.length:Int) !=(aE))=true:=bne_iff_ne.mpr cl;obtain rfl:=Option.some.inj H;go_wp2_with (first|((with_reducible refine gate_callee (f:=72) rfl ?_);refine gsM (some 26) rfl rfl Try.func72 (by kernel_rfl) rfl #[.int .i64 a0,.int .i64 1,.int .i64 3] rfl ?_;(with_reducible refine(spec_l1In.calls a0 1 3 true _ A8.out).mono ?_);rintro e w' ⟨rfl,⟨nd,rfl⟩⟩;refine⟨_,rfl,?_⟩));go_ret;exact⟨by first|rfl|(simp[errW_none,errW_some]<;>rfl)|(simp only[←aY];first|rfl|(simp[errW_none,errW_some]<;>rfl))|(simp[*,errW_none,errW_some]<;>rfl),wZ HB⟩
    ·replace c9:=Bool.eq_false_iff.mpr c9;subst c9;rw[if_neg (show¬(false=true) by decide)]at H;obtain rfl:=Option.some.inj H;go_wp2_with (first|((with_reducible refine gate_callee (f:=72) rfl ?_);refine gsM (some 26) rfl rfl Try.func72 (by kernel_rfl) rfl #[.int .i64 a0,.int .i64 1,.int .i64 3] rfl ?_;(with_reducible refine(spec_l1In.calls a0 1 3 false _ A8.out).mono ?_);rintro e w' ⟨rfl,⟨nd,rfl⟩⟩;refine⟨_,rfl,?_⟩));go_ret;exact⟨by first|rfl|(simp[*,errW_none,errW_some]<;>rfl),wZ HB⟩

end Go.Proofs.Ytihgpkohglcijaa.P
