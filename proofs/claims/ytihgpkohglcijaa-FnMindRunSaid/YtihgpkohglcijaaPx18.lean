-- Written by a program of this session (wip/hook.py), which runs the kit's printer; Lean checks it.
import Derived.Test.YtihgpkohglcijaaPx0
import Derived.Test.YtihgpkohglcijaaPx14
import Derived.Test.YtihgpkohglcijaaPx17
namespace Go.Proofs.Ytihgpkohglcijaa.P
open Go.RowKit Go.Proofs.YtihgpkohglcijaaW.PrintWords Go.Proofs.YtihgpkohglcijaaW.PrintLast Go.Proofs.YtihgpkohglcijaaW.PrintMore
attribute [local go_sem] max2_int min2_int max_two min_two max_three min_three max_four min_four   -- for this text's walks alone
set_option linter.unusedVariables false
set_option linter.unusedSimpArgs false

/-! ### impl_changedBy: function 135 -/
mutual
def impl_changedBy.j0:Nat→List Int→Int→Option (List Int)
 |0,_,_=>none
 |k+1,x1,x9=>impl_changedBy.l0 k x9 (([]:List Int)) x1 (x1.length:Int) 0
def impl_changedBy.l0:Nat→Int→List Int→List Int→Int→Int→Option (List Int)
 |0,_,_,_,_,_=>none
 |k+1,x9,x10,x21,x22,x23=>if x23<x22 then(if 0≤x23 then(if x23<(x21.length:Int)then(if(Go.bits .and .i64 (shr .i64 x9 x23) 1)=0 then(if x10.length<17592186044416 then(impl_changedBy.l0 k x9 (x10++ [wrap64 ((rd x21 x23)+10)]) x21 x22 (wrap64 (x23+1)))else(none))else(if x10.length<17592186044416 then(impl_changedBy.l0 k x9 (x10++ [rd x21 x23]) x21 x22 (wrap64 (x23+1)))else(none)))else(none))else(none))else((impl_tidy.f k x10).bind fun an=>(some an))
end
def impl_changedBy.f (k:Nat) (a0:Int) (l1:List Int) (a2:Int) (a3:Int):Option (List Int):=if a2=0 then((impl_revisedBy.f k a0 l1 a3).bind fun ad=>(impl_changedBy.j0 k l1 ad))else(impl_changedBy.j0 k l1 a3)
theorem impl_changedBy.mono_l:∀k,(∀y0 y1,LeO (impl_changedBy.j0 k y0 y1) (impl_changedBy.j0 (k+1) y0 y1))∧(∀y0 y1 y2 y3 y4,LeO (impl_changedBy.l0 k y0 y1 y2 y3 y4) (impl_changedBy.l0 (k+1) y0 y1 y2 y3 y4))
 |0=>⟨fun _ _ r h=>by simp[impl_changedBy.j0]at h,fun _ _ _ _ _ r h=>by simp[impl_changedBy.l0]at h⟩
 |k+1=>by
  obtain⟨au,av⟩:=impl_changedBy.mono_l k;refine⟨?_,?_⟩
  ·intro y0 y1;unfold impl_changedBy.j0;repeat' first
   |(with_reducible first|exact au _ _|exact av _ _ _ _ _|exact impl_revisedBy.mono _ _ _ _|exact impl_tidy.mono _ _|exact LeO.refl _|exact LeO.none _|refine LeO.ite ?_ ?_|refine LeO.bind ?_ (fun _=>?_))
   |refine LeO.ite ?_ ?_
   |refine LeO.bind ?_ (fun _=>?_)
  ·intro y0 y1 y2 y3 y4;unfold impl_changedBy.l0;repeat' first
   |(with_reducible first|exact au _ _|exact av _ _ _ _ _|exact impl_revisedBy.mono _ _ _ _|exact impl_tidy.mono _ _|exact LeO.refl _|exact LeO.none _|refine LeO.ite ?_ ?_|refine LeO.bind ?_ (fun _=>?_))
   |refine LeO.ite ?_ ?_
   |refine LeO.bind ?_ (fun _=>?_)
theorem impl_changedBy.mono:∀a0 a1 a2 a3 k,LeO (impl_changedBy.f k a0 a1 a2 a3) (impl_changedBy.f (k+1) a0 a1 a2 a3):=by
 intro a0 a1 a2 a3 k;obtain⟨au,av⟩:=impl_changedBy.mono_l k;unfold impl_changedBy.f
 repeat' first
   |(with_reducible first|exact au _ _|exact av _ _ _ _ _|exact impl_revisedBy.mono _ _ _ _|exact impl_tidy.mono _ _|exact LeO.refl _|exact LeO.none _|refine LeO.ite ?_ ?_|refine LeO.bind ?_ (fun _=>?_))
   |refine LeO.ite ?_ ?_
   |refine LeO.bind ?_ (fun _=>?_)
set_option maxHeartbeats 8000000 in
set_option maxRecDepth 100000 in
theorem impl_changedBy.calls (k:Nat) (a0:Int) (A1:Option Addr) (c1:Nat) (l1:List Int) (a2:Int) (a3:Int) (r:List Int) (w:World) (aZ:Kd.C (Kd.int .i64) w A1 l1.length l1) (a6:l1.length≤c1) (h:impl_changedBy.f k a0 l1 a2 a3=some r):
  Calls Try.prog 135 #[.int .i64 a0,.slice A1 l1.length c1,.int .i64 a2,.int .i64 a3] w fun e w'=>∃a7:Value,e= .returned (a7)∧Kd.R (Kd.int .i64) 3 w' w.heap.size (fun _=>True) a7 r∧Below w.heap.size w w':=by
 have aC:=Asd.mk aZ;have bl:=Asd.mk a6;clear aZ a6;have HB:=Asd.mk (Below.refl w.heap.size w);have H:(if a2=0 then((impl_revisedBy.f k a0 l1 a3).bind fun ad=>(impl_changedBy.j0 k l1 ad))else(impl_changedBy.j0 k l1 a3))=some r:=h;clear h;have aD:=Asd.mk H;clear H;go_enter Try.func135,Try.ntmps135;go_upto_if 15 with(fail)
 go_cut [9] (fun v9 wc=>∃(kq:Nat) (J:Int),v9= .int .i64 J∧Asd (impl_changedBy.j0 kq l1 J=some r)∧Asd (kq≤k)∧Asd (Below w.heap.size w wc))
 case first=>
  have H:=aD.out;clear aD;rcases iT H with⟨c6,H⟩|⟨c6,H⟩
  ·have ag:(a2==0)=true:=beq_iff_eq.mpr c6;have a8:(a2 !=0)=false:=bne_eq_false_iff_eq.mpr c6;clear c6;(first|rw[ag]|(simp only[i64_w,i32_w];rw[ag])|skip);obtain⟨ad,A7,H⟩:=bE H;try dsimp only at H
   have H':=Asd.mk H;clear H;go_wp2_with (first|((with_reducible refine gate_callee (f:=148) rfl ?_);refine gB (some 19) Try.func148 #[.int .i64 a0,.slice A1 l1.length c1,.int .i64 a3] rfl ?_;(with_reducible refine(impl_revisedBy.calls k a0 _ _ l1 a3 ad _ ?side1 ?side2 A7.out).mono ?_);(case side1=>exact cZ (Kd.C_below aC.out HB.out));(case side2=>exact bl.out);rintro e w8 ⟨rfl,hb⟩;refine⟨_,rfl,?_⟩;replace HB:=bW HB hb;clear hb));go_meet
   case rel=>exact⟨_,(ad),(by first|rfl|(simp;done)|(simp[*];done)),H',⟨by first|omega|exact Nat.le_refl _⟩,⟨wZ HB⟩⟩
  ·have ag:(a2==0)=false:=beq_eq_false_iff_ne.mpr c6;have a8:(a2 !=0)=true:=bne_iff_ne.mpr c6;(first|rw[ag]|(simp only[i64_w,i32_w];rw[ag])|skip);have H':=Asd.mk H;clear H;go_wp2;go_meet
   case rel=>exact⟨_,(a3),(by first|rfl|(simp;done)|(simp[*];done)),H',⟨by first|omega|exact Nat.le_refl _⟩,⟨wZ HB⟩⟩
 case rest=>
  clear aD;obtain⟨kq,J,rfl,HA,aw,HB⟩:=hcut;cases kq with
  |zero=>exact absurd HA.out (by simp[impl_changedBy.j0])
  |succ kj4=>
   have H:=HA.out;clear HA;simp only[impl_changedBy.j0]at H;obtain⟨ay,ai⟩:∃y_:List Int,y_=(([]:List Int)):=⟨_,rfl⟩;replace H:(impl_changedBy.l0 kj4 J ay l1 (l1.length:Int) 0)=some r:=by first|(rw[ai];exact H)|exact H
   have ao:=Asd.mk ai;clear ai;have H':=Asd.mk H;clear H;go_wp2_with (first|((with_reducible refine gate_dst (N:=20) rfl ?_);refine Kd.R_lit (Kd.int .i64) _ 3 ?hg (N:=20) ?hd (xs:=([]:List Int)) (inner:=[]) (ok:=fun _=>True) (okp:=fun _=>True) ?hr ?hp (fun _ hk=>hk) trivial (Below.refl _ _) (Nat.le_refl _) (by simp) ?_;(case hd=>rfl);(case hg=>rfl);(case hr=>first|(go_simp;done)|(go_simp;rfl));(case hp=>exact(Reps.none _ _));intro bu w9 ah hb bn aE;clear bn aE;(first|rw[←ao.out]at ah|(simp only[Int.reduceToNat]at ah;rw[←ao.out]at ah));have aG:=Asd.mk (Kd.R_lower ah (below_size (wZ HB)));replace HB:=bW HB hb;clear hb ah));go_loopg [10,23] kj4 (fun kq v10 bo w'=>∃(I:List Int) (j:Int),bo= .int .i64 j∧Asd (impl_changedBy.l0 kq J I l1 (l1.length:Int) j=some r)∧Asd (kq≤kj4)∧Asd (Kd.R (Kd.int .i64) 3 w' w.heap.size (fun _=>True) v10 I)∧Asd (Below w.heap.size w w'))
   case atStart=>exact⟨(ay),(0),(by first|rfl|(simp;done)|(simp[*];done)),H',⟨Nat.le_refl _⟩,⟨by(repeat apply Kd.RS);exact aG.out⟩,⟨wZ HB⟩⟩
   case round=>
    clear H';obtain⟨I,j,rfl,HA,ax,HO_10,HB⟩:=hrel;cases gk with
    |zero=>exact absurd HA.out (by simp[impl_changedBy.l0])
    |succ k2=>
     have H:=HA.out;clear HA;simp only[impl_changedBy.l0]at H;rcases iT H with⟨aq,H⟩|⟨aq,H⟩
     ·have aH:=decide_eq_true aq;clear aq;obtain⟨ba,H⟩:=iN H;have bp:=decide_eq_true ba;clear ba;obtain⟨bb,H⟩:=iN H;have bq:=decide_eq_true bb;clear bb;have br:=eq_true (odt:0≤j);obtain⟨ae,af⟩:∃j_:Int,(shr .i64 J j)=j_:=⟨_,rfl⟩;first|rw[af]at H|simp only[af]at H
      have bj:(J/2^min j.toNat 64)=ae:=af;have bk:j≤64→(J/2^j.toNat)=ae:=shr_small af;rcases iT H with⟨al,H⟩|⟨al,H⟩
      ·have aI:((Go.bits .and .i64 (ae) 1)==0)=true:=beq_iff_eq.mpr al;have aJ:((Go.bits .and .i64 (ae) 1) !=0)=false:=bne_eq_false_iff_eq.mpr al;clear al;obtain⟨bc,H⟩:=iN H;have aK:=Asd.mk bc;clear bc;obtain⟨az,aj⟩:∃y_:List Int,y_=(I++ [wrap64 ((rd l1 j)+10)]):=⟨_,rfl⟩;replace H:(impl_changedBy.l0 k2 J az l1 (l1.length:Int) (wrap64 (j+1)))=some r:=by first|(rw[aj];exact H)|exact H
       have aM:=Asd.mk aj;clear aj;have H':=Asd.mk H;clear H;have aa:0≤(j:Int):=odt;have ab:j<(l1.length:Int):=odt;obtain⟨aN,ar,o⟩:=Kd.at_int aC.out j aa ab;cases ar;replace o:=(HB.out.cell (World.block_lt_of_cell? w _ o)).trans o;replace aa:=eq_true aa;replace ab:=eq_true ab;go_wp2_with (first|((with_reducible refine gate_builtin (b:=.append) (xs:= #[.tmp 35,.tmp 37]) rfl ?_);at_builtin;refine Kd.R_append (Kd.int .i64) (w0:=w) w.heap.size rfl (.tmp 35) (.tmp 37) 55 3 (.int .i64 0) 8 rfl Try.underlying55 info3 rfl (by decide) (by omega) u10 I (wrap64 ((rd l1 j)+10)) [.int .i64 (wrap64 ((rd l1 j)+10))] (fun _=>True) (fun _=>False) rfl rfl ?aP (fun _ hk=>hk.elim) ?aF ?aO ?aB ?aS ?aL ?_;(case aP=>exact rfl);(case aB=>exact(wZ HB));(case aF=>exact(fun _ _=>trivial));(case aO=>exact(rS HO_10));(case aS=>exact(below_size (wZ HB)));(case aL=>have:=aK.out;omega);intro bw w18 ho hb hg aQ;rw[←aM.out]at ho;replace HB:=Asd.mk (hb);have aR:=Asd.mk (ho);clear HO_10;clear ho hb hg aQ));go_roundg k2
       case measure=>have:=aw.out;have:=ax.out;omega
       case rel=>exact⟨(az),(wrap64 (j+1)),(by first|rfl|(simp;done)|(simp[*];done)),H',⟨by have:=aw.out;have:=ax.out;omega⟩,⟨by(repeat apply Kd.RS);exact aR.out⟩,⟨wZ HB⟩⟩
      ·have aI:((Go.bits .and .i64 (ae) 1)==0)=false:=beq_eq_false_iff_ne.mpr al;have aJ:((Go.bits .and .i64 (ae) 1) !=0)=true:=bne_iff_ne.mpr al;obtain⟨bd,H⟩:=iN H;have aT:=Asd.mk bd;clear bd;obtain⟨aA,ak⟩:∃y_:List Int,y_=(I++ [rd l1 j]):=⟨_,rfl⟩;replace H:(impl_changedBy.l0 k2 J aA l1 (l1.length:Int) (wrap64 (j+1)))=some r:=by first|(rw[ak];exact H)|exact H
       have aU:=Asd.mk ak;clear ak;have H':=Asd.mk H;clear H;have aa:0≤(j:Int):=odt;have ab:j<(l1.length:Int):=odt;obtain⟨aN,ar,o⟩:=Kd.at_int aC.out j aa ab;cases ar;replace o:=(HB.out.cell (World.block_lt_of_cell? w _ o)).trans o;replace aa:=eq_true aa;replace ab:=eq_true ab;go_wp2_with (first|((with_reducible refine gate_builtin (b:=.append) (xs:= #[.tmp 35,.tmp 37]) rfl ?_);at_builtin;refine Kd.R_append (Kd.int .i64) (w0:=w) w.heap.size rfl (.tmp 35) (.tmp 37) 55 3 (.int .i64 0) 8 rfl Try.underlying55 info3 rfl (by decide) (by omega) u10 I (rd l1 j) [.int .i64 (rd l1 j)] (fun _=>True) (fun _=>False) rfl rfl ?aP (fun _ hk=>hk.elim) ?aF ?aO ?aB ?aS ?aL ?_;(case aP=>exact rfl);(case aB=>exact(wZ HB));(case aF=>exact(fun _ _=>trivial));(case aO=>exact(rS HO_10));(case aS=>exact(below_size (wZ HB)));(case aL=>have:=aT.out;omega);intro bx bA ho hb hg aQ;rw[←aU.out]at ho;replace HB:=Asd.mk (hb);have aV:=Asd.mk (ho);clear HO_10;clear ho hb hg aQ));go_roundg k2
       case measure=>have:=aw.out;have:=ax.out;omega
       case rel=>exact⟨(aA),(wrap64 (j+1)),(by first|rfl|(simp;done)|(simp[*];done)),H',⟨by have:=aw.out;have:=ax.out;omega⟩,⟨by(repeat apply Kd.RS);exact aV.out⟩,⟨wZ HB⟩⟩
     ·have aH:=decide_eq_false aq;clear aq;obtain⟨an,bs,H⟩:=bE H;try dsimp only at H
      obtain rfl:=Option.some.inj H;obtain⟨bf,bg,bh⟩:=Kd.R_slice HO_10.out;subst bh;go_wp2_with (first|((with_reducible refine gate_callee (f:=91) rfl ?_);refine gB (some 41) Try.func91 #[.slice bf I.length bg] rfl ?_;(with_reducible refine(impl_tidy.calls k2 _ _ I an _ ?side1 ?side2 bs.out).mono ?_);(case side1=>exact cZ (Kd.R_reads' HO_10.out).2.2);(case side2=>exact(Kd.R_reads' HO_10.out).2.1);rintro e bB ⟨bz,rfl,aW,hb⟩;refine⟨_,rfl,?_⟩;have aY:=Asd.mk (Kd.R_lower (Kd.R_new' aW (Kd.R_lt (rS HO_10))) (below_size (wZ HB)));replace HO_10:=Asd.mk (Kd.R_elder' (rS HO_10) (Kd.R_base aW) hb);replace HB:=bW HB hb;clear hb;(try clear aW)));go_ret;exact⟨_,by first|rfl|(simp[*,errW_none,errW_some]<;>rfl),by(repeat apply Kd.RS);exact Kd.R_mono aY.out (fun _ hk=>trivial),wZ HB⟩

end Go.Proofs.Ytihgpkohglcijaa.P
