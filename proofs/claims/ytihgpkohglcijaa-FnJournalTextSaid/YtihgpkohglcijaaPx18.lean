-- Written by a program of this session (wip/hook.py), which runs the kit's printer; Lean checks it.
import Derived.Test.YtihgpkohglcijaaPx0
import Derived.Test.YtihgpkohglcijaaPx14
import Derived.Test.YtihgpkohglcijaaPx17
namespace Go.Proofs.Ytihgpkohglcijaa.P
open Go.RowKit Go.Proofs.YtihgpkohglcijaaW.PrintWords Go.Proofs.YtihgpkohglcijaaW.PrintLast Go.Proofs.YtihgpkohglcijaaW.PrintMore
attribute [local go_sem] max2_int min2_int max_two min_two max_three min_three max_four min_four   -- for this text's walks alone
set_option linter.unusedVariables false
set_option linter.unusedSimpArgs false

/-! ### impl_changedBy: function 135 -/
mutual
def impl_changedBy.j0:Nat→List Int→Int→Option (List Int)
 |0,_,_=>none
 |k+1,x1,x9=>impl_changedBy.l0 k x9 (([]:List Int)) x1 (x1.length:Int) 0
def impl_changedBy.l0:Nat→Int→List Int→List Int→Int→Int→Option (List Int)
 |0,_,_,_,_,_=>none
 |k+1,x9,x10,x21,x22,x23=>if x23<x22 then(if 0≤x23 then(if x23<(x21.length:Int)then(if(Go.bits .and .i64 (shr .i64 x9 x23) 1)=0 then(if x10.length<17592186044416 then(impl_changedBy.l0 k x9 (x10++ [wrap64 ((rd x21 x23)+10)]) x21 x22 (wrap64 (x23+1)))else(none))else(if x10.length<17592186044416 then(impl_changedBy.l0 k x9 (x10++ [rd x21 x23]) x21 x22 (wrap64 (x23+1)))else(none)))else(none))else(none))else((impl_tidy.f k x10).bind fun ao=>(some ao))
end
def impl_changedBy.f (k:Nat) (a0:Int) (l1:List Int) (a2:Int) (a3:Int):Option (List Int):=if a2=0 then((impl_revisedBy.f k a0 l1 a3).bind fun ah=>(impl_changedBy.j0 k l1 ah))else(impl_changedBy.j0 k l1 a3)
theorem impl_changedBy.mono_l:∀k,(∀y0 y1,LeO (impl_changedBy.j0 k y0 y1) (impl_changedBy.j0 (k+1) y0 y1))∧(∀y0 y1 y2 y3 y4,LeO (impl_changedBy.l0 k y0 y1 y2 y3 y4) (impl_changedBy.l0 (k+1) y0 y1 y2 y3 y4))
 |0=>⟨fun _ _ r h=>by simp[impl_changedBy.j0]at h,fun _ _ _ _ _ r h=>by simp[impl_changedBy.l0]at h⟩
 |k+1=>by
  obtain⟨av,aw⟩:=impl_changedBy.mono_l k;refine⟨?_,?_⟩
  ·intro y0 y1;unfold impl_changedBy.j0;repeat' first
   |(with_reducible first|exact av _ _|exact aw _ _ _ _ _|exact impl_revisedBy.mono _ _ _ _|exact impl_tidy.mono _ _|exact LeO.refl _|exact LeO.none _|refine LeO.ite ?_ ?_|refine LeO.bind ?_ (fun _=>?_))
   |refine LeO.ite ?_ ?_
   |refine LeO.bind ?_ (fun _=>?_)
  ·intro y0 y1 y2 y3 y4;unfold impl_changedBy.l0;repeat' first
   |(with_reducible first|exact av _ _|exact aw _ _ _ _ _|exact impl_revisedBy.mono _ _ _ _|exact impl_tidy.mono _ _|exact LeO.refl _|exact LeO.none _|refine LeO.ite ?_ ?_|refine LeO.bind ?_ (fun _=>?_))
   |refine LeO.ite ?_ ?_
   |refine LeO.bind ?_ (fun _=>?_)
theorem impl_changedBy.mono:∀a0 a1 a2 a3 k,LeO (impl_changedBy.f k a0 a1 a2 a3) (impl_changedBy.f (k+1) a0 a1 a2 a3):=by
 intro a0 a1 a2 a3 k;obtain⟨av,aw⟩:=impl_changedBy.mono_l k;unfold impl_changedBy.f
 repeat' first
   |(with_reducible first|exact av _ _|exact aw _ _ _ _ _|exact impl_revisedBy.mono _ _ _ _|exact impl_tidy.mono _ _|exact LeO.refl _|exact LeO.none _|refine LeO.ite ?_ ?_|refine LeO.bind ?_ (fun _=>?_))
   |refine LeO.ite ?_ ?_
   |refine LeO.bind ?_ (fun _=>?_)
set_option maxHeartbeats 8000000 in
set_option maxRecDepth 100000 in
theorem impl_changedBy.calls (k:Nat) (a0:Int) (A1:Option Addr) (c1:Nat) (l1:List Int) (a2:Int) (a3:Int) (r:List Int) (w:World) (a6:Kd.C (Kd.int .i64) w A1 l1.length l1) (a7:l1.length≤c1) (h:impl_changedBy.f k a0 l1 a2 a3=some r):
  Calls Try.prog 135 #[.int .i64 a0,.slice A1 l1.length c1,.int .i64 a2,.int .i64 a3] w fun e w'=>∃a8:Value,e= .returned (a8)∧Kd.R (Kd.int .i64) 3 w' w.heap.size (fun _=>True) a8 r∧Below w.heap.size w w':=by
 have aD:=Asd.mk a6;have bn:=Asd.mk a7;clear a6 a7;have HB:=Asd.mk (Below.refl w.heap.size w);have H:(if a2=0 then((impl_revisedBy.f k a0 l1 a3).bind fun ah=>(impl_changedBy.j0 k l1 ah))else(impl_changedBy.j0 k l1 a3))=some r:=h;clear h;have aE:=Asd.mk H;clear H;go_enter Try.func135,Try.ntmps135;go_upto_if 15 with(fail)
 go_cut [9] (fun v9 wc=>∃(kq:Nat) (J:Int),v9= .int .i64 J∧Asd (impl_changedBy.j0 kq l1 J=some r)∧Asd (kq≤k)∧Asd (Below w.heap.size w wc))
 case first=>
  have H:=aE.out;clear aE;rcases iT H with⟨c6,H⟩|⟨c6,H⟩
  ·have ak:(a2==0)=true:=beq_iff_eq.mpr c6;have ba:(a2 !=0)=false:=bne_eq_false_iff_eq.mpr c6;clear c6;(first|rw[ak]|(simp only[i64_w,i32_w];rw[ak])|skip);obtain⟨ah,A7,H⟩:=bE H;try dsimp only at H
   have H':=Asd.mk H;clear H;go_wp2_with (first|((with_reducible refine gate_callee (f:=148) rfl ?_);refine gsM (some 19) rfl rfl Try.func148 (by kernel_rfl) rfl #[.int .i64 a0,.slice A1 l1.length c1,.int .i64 a3] rfl ?_;(with_reducible refine(impl_revisedBy.calls k a0 _ _ l1 a3 ah _ ?side1 ?side2 A7.out).mono ?_);(case side1=>exact cZ (Kd.C_below aD.out HB.out));(case side2=>exact bn.out);rintro e w8 ⟨rfl,hb⟩;refine⟨_,rfl,?_⟩;replace HB:=bW HB hb;clear hb));go_meet
   case rel=>exact⟨_,(ah),(by first|rfl|(simp;done)|(simp[*];done)),H',⟨by first|omega|exact Nat.le_refl _⟩,⟨wZ HB⟩⟩
  ·have ak:(a2==0)=false:=beq_eq_false_iff_ne.mpr c6;have ba:(a2 !=0)=true:=bne_iff_ne.mpr c6;(first|rw[ak]|(simp only[i64_w,i32_w];rw[ak])|skip);have H':=Asd.mk H;clear H;go_wp2;go_meet
   case rel=>exact⟨_,(a3),(by first|rfl|(simp;done)|(simp[*];done)),H',⟨by first|omega|exact Nat.le_refl _⟩,⟨wZ HB⟩⟩
 case rest=>
  clear aE;obtain⟨kq,J,rfl,HA,ax,HB⟩:=hcut;cases kq with
  |zero=>exact absurd HA.out (by simp[impl_changedBy.j0])
  |succ kj4=>
   have H:=HA.out;clear HA;simp only[impl_changedBy.j0]at H;obtain⟨az,aa⟩:∃y_:List Int,y_=(([]:List Int)):=⟨_,rfl⟩;replace H:(impl_changedBy.l0 kj4 J az l1 (l1.length:Int) 0)=some r:=by first|(rw[aa];with_reducible exact H)|(have ab:=(Option.bind_some _ _).symm.trans H;rw[aa];with_reducible exact ab)|(have ab:=(Option.bind_some _ _).symm.trans H;with_reducible exact ab)|with_reducible exact H|(rw[aa];exact H)|exact H
   have aq:=Asd.mk aa;clear aa;have H':=Asd.mk H;clear H;go_wp2_with (first|((with_reducible refine gate_dst (N:=20) rfl ?_);refine Kd.R_lit (Kd.int .i64) _ 3 ?hg (N:=20) ?hd (xs:=([]:List Int)) (inner:=[]) (ok:=fun _=>True) (okp:=fun _=>True) ?hr ?hp (fun _ hk=>hk) trivial (Below.refl _ _) (Nat.le_refl _) (by simp) ?_;(case hd=>rfl);(case hg=>rfl);(case hr=>first|(go_simp;done)|(go_simp;rfl));(case hp=>exact(Reps.none _ _));intro bw w9 al hb bo aG;clear bo aG;(first|rw[←aq.out]at al|(simp only[Int.reduceToNat]at al;rw[←aq.out]at al));have aH:=Asd.mk (Kd.R_lower al (below_size (wZ HB)));replace HB:=bW HB hb;clear hb al));go_loopg [10,23] kj4 (fun kq v10 bp w'=>∃(I:List Int) (j:Int),bp= .int .i64 j∧Asd (impl_changedBy.l0 kq J I l1 (l1.length:Int) j=some r)∧Asd (kq≤kj4)∧Asd (Kd.R (Kd.int .i64) 3 w' w.heap.size (fun _=>True) v10 I)∧Asd (Below w.heap.size w w'))
   case atStart=>exact⟨(az),(0),(by first|rfl|(simp;done)|(simp[*];done)),H',⟨Nat.le_refl _⟩,⟨by(repeat apply Kd.RS);exact aH.out⟩,⟨wZ HB⟩⟩
   case round=>
    clear H';obtain⟨I,j,rfl,HA,ay,HO_10,HB⟩:=hrel;cases gk with
    |zero=>exact absurd HA.out (by simp[impl_changedBy.l0])
    |succ k2=>
     have H:=HA.out;clear HA;simp only[impl_changedBy.l0]at H;rcases iT H with⟨ar,H⟩|⟨ar,H⟩
     ·have aI:=decide_eq_true ar;clear ar;obtain⟨bb,H⟩:=iN H;have bq:=decide_eq_true bb;clear bb;obtain⟨bc,H⟩:=iN H;have br:=decide_eq_true bc;clear bc;have bs:=eq_true (odt:0≤j);obtain⟨ai,aj⟩:∃j_:Int,(shr .i64 J j)=j_:=⟨_,rfl⟩;first|rw[aj]at H|simp only[aj]at H
      have bk:(J/2^min j.toNat 64)=ai:=aj;have bl:j≤64→(J/2^j.toNat)=ai:=shr_small aj;rcases iT H with⟨an,H⟩|⟨an,H⟩
      ·have aJ:((Go.bits .and .i64 (ai) 1)==0)=true:=beq_iff_eq.mpr an;have aK:((Go.bits .and .i64 (ai) 1) !=0)=false:=bne_eq_false_iff_eq.mpr an;clear an;obtain⟨bd,H⟩:=iN H;have aM:=Asd.mk bd;clear bd;obtain⟨aA,ad⟩:∃y_:List Int,y_=(I++ [wrap64 ((rd l1 j)+10)]):=⟨_,rfl⟩;replace H:(impl_changedBy.l0 k2 J aA l1 (l1.length:Int) (wrap64 (j+1)))=some r:=by first|(rw[ad];with_reducible exact H)|(have ab:=(Option.bind_some _ _).symm.trans H;rw[ad];with_reducible exact ab)|(have ab:=(Option.bind_some _ _).symm.trans H;with_reducible exact ab)|with_reducible exact H|(rw[ad];exact H)|exact H
       have aN:=Asd.mk ad;clear ad;have H':=Asd.mk H;clear H;have ae:0≤(j:Int):=odt;have af:j<(l1.length:Int):=odt;obtain⟨aQ,au,o⟩:=Kd.at_int aD.out j ae af;cases au;replace o:=(HB.out.cell (World.block_lt_of_cell? w _ o)).trans o;replace ae:=eq_true ae;replace af:=eq_true af;go_wp2_with (first|((with_reducible refine gate_builtin (b:=.append) (xs:= #[.tmp 35,.tmp 37]) rfl ?_);at_builtin;refine Kd.R_append (Kd.int .i64) (w0:=w) w.heap.size rfl (.tmp 35) (.tmp 37) 55 3 (.int .i64 0) 8 rfl Try.underlying55 info3 rfl (by decide) (by omega) u10 I (wrap64 ((rd l1 j)+10)) [.int .i64 (wrap64 ((rd l1 j)+10))] (fun _=>True) (fun _=>False) rfl rfl ?aP (fun _ hk=>hk.elim) ?aF ?aO ?aB ?aS ?aL ?_;(case aP=>exact rfl);(case aB=>exact(wZ HB));(case aF=>exact(fun _ _=>trivial));(case aO=>exact(rS HO_10));(case aS=>exact(below_size (wZ HB)));(case aL=>have:=aM.out;omega);intro bx w18 ho hb hg aR;rw[←aN.out]at ho;replace HB:=Asd.mk (hb);have aT:=Asd.mk (ho);clear HO_10;clear ho hb hg aR));go_roundg k2
       case measure=>have:=ax.out;have:=ay.out;omega
       case rel=>exact⟨(aA),(wrap64 (j+1)),(by first|rfl|(simp;done)|(simp[*];done)),H',⟨by have:=ax.out;have:=ay.out;omega⟩,⟨by(repeat apply Kd.RS);exact aT.out⟩,⟨wZ HB⟩⟩
      ·have aJ:((Go.bits .and .i64 (ai) 1)==0)=false:=beq_eq_false_iff_ne.mpr an;have aK:((Go.bits .and .i64 (ai) 1) !=0)=true:=bne_iff_ne.mpr an;obtain⟨bf,H⟩:=iN H;have aU:=Asd.mk bf;clear bf;obtain⟨aC,ag⟩:∃y_:List Int,y_=(I++ [rd l1 j]):=⟨_,rfl⟩;replace H:(impl_changedBy.l0 k2 J aC l1 (l1.length:Int) (wrap64 (j+1)))=some r:=by first|(rw[ag];with_reducible exact H)|(have ab:=(Option.bind_some _ _).symm.trans H;rw[ag];with_reducible exact ab)|(have ab:=(Option.bind_some _ _).symm.trans H;with_reducible exact ab)|with_reducible exact H|(rw[ag];exact H)|exact H
       have aV:=Asd.mk ag;clear ag;have H':=Asd.mk H;clear H;have ae:0≤(j:Int):=odt;have af:j<(l1.length:Int):=odt;obtain⟨aQ,au,o⟩:=Kd.at_int aD.out j ae af;cases au;replace o:=(HB.out.cell (World.block_lt_of_cell? w _ o)).trans o;replace ae:=eq_true ae;replace af:=eq_true af;go_wp2_with (first|((with_reducible refine gate_builtin (b:=.append) (xs:= #[.tmp 35,.tmp 37]) rfl ?_);at_builtin;refine Kd.R_append (Kd.int .i64) (w0:=w) w.heap.size rfl (.tmp 35) (.tmp 37) 55 3 (.int .i64 0) 8 rfl Try.underlying55 info3 rfl (by decide) (by omega) u10 I (rd l1 j) [.int .i64 (rd l1 j)] (fun _=>True) (fun _=>False) rfl rfl ?aP (fun _ hk=>hk.elim) ?aF ?aO ?aB ?aS ?aL ?_;(case aP=>exact rfl);(case aB=>exact(wZ HB));(case aF=>exact(fun _ _=>trivial));(case aO=>exact(rS HO_10));(case aS=>exact(below_size (wZ HB)));(case aL=>have:=aU.out;omega);intro bz bB ho hb hg aR;rw[←aV.out]at ho;replace HB:=Asd.mk (hb);have aW:=Asd.mk (ho);clear HO_10;clear ho hb hg aR));go_roundg k2
       case measure=>have:=ax.out;have:=ay.out;omega
       case rel=>exact⟨(aC),(wrap64 (j+1)),(by first|rfl|(simp;done)|(simp[*];done)),H',⟨by have:=ax.out;have:=ay.out;omega⟩,⟨by(repeat apply Kd.RS);exact aW.out⟩,⟨wZ HB⟩⟩
     ·have aI:=decide_eq_false ar;clear ar;obtain⟨ao,bu,H⟩:=bE H;try dsimp only at H
      obtain rfl:=Option.some.inj H;obtain⟨bg,bh,bj⟩:=Kd.R_slice HO_10.out;subst bj;go_wp2_with (first|((with_reducible refine gate_callee (f:=91) rfl ?_);refine gsM (some 41) rfl rfl Try.func91 (by kernel_rfl) rfl #[.slice bg I.length bh] rfl ?_;(with_reducible refine(impl_tidy.calls k2 _ _ I ao _ ?side1 ?side2 bu.out).mono ?_);(case side1=>exact cZ (Kd.R_reads' HO_10.out).2.2);(case side2=>exact(Kd.R_reads' HO_10.out).2.1);rintro e bD ⟨bA,rfl,aY,hb⟩;refine⟨_,rfl,?_⟩;have aZ:=Asd.mk (Kd.R_lower (Kd.R_new' aY (Kd.R_lt (rS HO_10))) (below_size (wZ HB)));replace HO_10:=Asd.mk (Kd.R_elder' (rS HO_10) (Kd.R_base aY) hb);replace HB:=bW HB hb;clear hb;(try clear aY)));go_ret;exact⟨_,by first|rfl|(simp[*,errW_none,errW_some]<;>rfl),by(repeat apply Kd.RS);exact Kd.R_mono aZ.out (fun _ hk=>trivial),wZ HB⟩

end Go.Proofs.Ytihgpkohglcijaa.P
