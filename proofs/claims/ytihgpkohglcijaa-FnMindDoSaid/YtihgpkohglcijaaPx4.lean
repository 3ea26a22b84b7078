-- Written by a program of this session (wip/hook.py), which runs the kit's printer; Lean checks it.
import Derived.Test.YtihgpkohglcijaaPx0
import Derived.Test.YtihgpkohglcijaaPx3
namespace Go.Proofs.Ytihgpkohglcijaa.P
open Go.RowKit Go.Proofs.YtihgpkohglcijaaW.PrintWords Go.Proofs.YtihgpkohglcijaaW.PrintLast Go.Proofs.YtihgpkohglcijaaW.PrintMore
attribute [local go_sem] max2_int min2_int max_two min_two max_three min_three max_four min_four   -- for this text's walks alone
set_option linter.unusedVariables false
set_option linter.unusedSimpArgs false

abbrev Mk4_0:Array Bool:= #[false,false,false,false,false,false,false,false,false]
abbrev Mk4_1:Array Bool:= #[true,false,false,false,false,false,false,false,false]
abbrev Mk4_2:Array Bool:= #[true,false,true,false,false,false,false,false,false]
abbrev Mk4_3:Array Bool:= #[true,false,true,false,true,false,false,false,false]
abbrev Mk4_4:Array Bool:= #[true,true,true,false,true,false,false,false,false]
abbrev Mk4_5:Array Bool:= #[true,true,true,true,true,false,false,false,false]
abbrev Mk4_6:Array Bool:= #[true,true,true,true,true,true,false,false,false]
abbrev Mk4_7:Array Bool:= #[true,true,true,true,true,true,true,false,false]
abbrev Mk4_8:Array Bool:= #[true,true,true,true,true,true,true,true,false]
abbrev Mk4_9:Array Bool:= #[true,true,true,true,true,true,true,true,true]
/-! ### spec_TidyRank: function 89 -/
mutual
def spec_TidyRank.l0:Nat→Int→List Int→List Int→Int→Option (List Int)
 |0,_,_,_,_=>none
 |k+1,x0,x1,x5,x6=>if x6<(x1.length:Int)then((spec_RankOk.f k x0 x1).bind fun t166=>(spec_TidyRank.j1 k x0 x1 x5 x6 t166))else(spec_TidyRank.j1 k x0 x1 x5 x6 false)
def spec_TidyRank.j1:Nat→Int→List Int→List Int→Int→Bool→Option (List Int)
 |0,_,_,_,_,_=>none
 |k+1,x0,x1,x5,x6,x20=>if x20=true then(spec_TidyRank.l1 k x0 x1 x5 x6 0 0)else(some x5)
def spec_TidyRank.l1:Nat→Int→List Int→List Int→Int→Int→Int→Option (List Int)
 |0,_,_,_,_,_,_=>none
 |k+1,x0,x1,x5,x6,x7,x8=>if 0≤x6 then(if x6<(x1.length:Int)then(if x8<(rd x1 x6)then(spec_TidyRank.l2 k x0 x1 x5 x6 x7 x8 false 0)else(if x5.length<17592186044416 then(spec_TidyRank.l0 k x0 x1 (x5++ [x7]) (wrap64 (x6+1)))else(none)))else(none))else(none)
def spec_TidyRank.l2:Nat→Int→List Int→List Int→Int→Int→Int→Bool→Int→Option (List Int)
 |0,_,_,_,_,_,_,_,_=>none
 |k+1,x0,x1,x5,x6,x7,x8,x9,x10=>if x10<(x1.length:Int)then(if x9=true then(spec_TidyRank.l2 k x0 x1 x5 x6 x7 x8 true (wrap64 (x10+1)))else(if 0≤x10 then(spec_TidyRank.l2 k x0 x1 x5 x6 x7 x8 ((rd x1 x10)==x8) (wrap64 (x10+1)))else(none)))else(if x9=true then(spec_TidyRank.l1 k x0 x1 x5 x6 (wrap64 (x7+1)) (wrap64 (x8+1)))else(spec_TidyRank.l1 k x0 x1 x5 x6 x7 (wrap64 (x8+1))))
end
def spec_TidyRank.f (k:Nat) (a0:Int) (l1:List Int):Option (List Int):=spec_TidyRank.l0 k a0 l1 (([]:List Int)) 0
theorem spec_TidyRank.mono_l:∀k,(∀y0 y1 y2 y3,LeO (spec_TidyRank.l0 k y0 y1 y2 y3) (spec_TidyRank.l0 (k+1) y0 y1 y2 y3))∧(∀y0 y1 y2 y3 y4,LeO (spec_TidyRank.j1 k y0 y1 y2 y3 y4) (spec_TidyRank.j1 (k+1) y0 y1 y2 y3 y4))∧(∀y0 y1 y2 y3 y4 y5,LeO (spec_TidyRank.l1 k y0 y1 y2 y3 y4 y5) (spec_TidyRank.l1 (k+1) y0 y1 y2 y3 y4 y5))∧(∀y0 y1 y2 y3 y4 y5 y6 y7,LeO (spec_TidyRank.l2 k y0 y1 y2 y3 y4 y5 y6 y7) (spec_TidyRank.l2 (k+1) y0 y1 y2 y3 y4 y5 y6 y7))
 |0=>⟨fun _ _ _ _ r h=>by simp[spec_TidyRank.l0]at h,fun _ _ _ _ _ r h=>by simp[spec_TidyRank.j1]at h,fun _ _ _ _ _ _ r h=>by simp[spec_TidyRank.l1]at h,fun _ _ _ _ _ _ _ _ r h=>by simp[spec_TidyRank.l2]at h⟩
 |k+1=>by
  obtain⟨al,bo,bp,bq⟩:=spec_TidyRank.mono_l k;refine⟨?_,?_,?_,?_⟩
  ·intro y0 y1 y2 y3;unfold spec_TidyRank.l0;repeat' first
   |(with_reducible first|exact al _ _ _ _|exact bo _ _ _ _ _|exact bp _ _ _ _ _ _|exact bq _ _ _ _ _ _ _ _|exact spec_RankOk.mono _ _ _|exact LeO.refl _|exact LeO.none _|refine LeO.ite ?_ ?_|refine LeO.bind ?_ (fun _=>?_))
   |refine LeO.ite ?_ ?_
   |refine LeO.bind ?_ (fun _=>?_)
  ·intro y0 y1 y2 y3 y4;unfold spec_TidyRank.j1;repeat' first
   |(with_reducible first|exact al _ _ _ _|exact bo _ _ _ _ _|exact bp _ _ _ _ _ _|exact bq _ _ _ _ _ _ _ _|exact spec_RankOk.mono _ _ _|exact LeO.refl _|exact LeO.none _|refine LeO.ite ?_ ?_|refine LeO.bind ?_ (fun _=>?_))
   |refine LeO.ite ?_ ?_
   |refine LeO.bind ?_ (fun _=>?_)
  ·intro y0 y1 y2 y3 y4 y5;unfold spec_TidyRank.l1;repeat' first
   |(with_reducible first|exact al _ _ _ _|exact bo _ _ _ _ _|exact bp _ _ _ _ _ _|exact bq _ _ _ _ _ _ _ _|exact spec_RankOk.mono _ _ _|exact LeO.refl _|exact LeO.none _|refine LeO.ite ?_ ?_|refine LeO.bind ?_ (fun _=>?_))
   |refine LeO.ite ?_ ?_
   |refine LeO.bind ?_ (fun _=>?_)
  ·intro y0 y1 y2 y3 y4 y5 y6 y7;unfold spec_TidyRank.l2;repeat' first
   |(with_reducible first|exact al _ _ _ _|exact bo _ _ _ _ _|exact bp _ _ _ _ _ _|exact bq _ _ _ _ _ _ _ _|exact spec_RankOk.mono _ _ _|exact LeO.refl _|exact LeO.none _|refine LeO.ite ?_ ?_|refine LeO.bind ?_ (fun _=>?_))
   |refine LeO.ite ?_ ?_
   |refine LeO.bind ?_ (fun _=>?_)
theorem spec_TidyRank.mono:∀a0 a1 k,LeO (spec_TidyRank.f k a0 a1) (spec_TidyRank.f (k+1) a0 a1):=by
 intro a0 a1 k;obtain⟨al,bo,bp,bq⟩:=spec_TidyRank.mono_l k;unfold spec_TidyRank.f
 repeat' first
   |(with_reducible first|exact al _ _ _ _|exact bo _ _ _ _ _|exact bp _ _ _ _ _ _|exact bq _ _ _ _ _ _ _ _|exact spec_RankOk.mono _ _ _|exact LeO.refl _|exact LeO.none _|refine LeO.ite ?_ ?_|refine LeO.bind ?_ (fun _=>?_))
   |refine LeO.ite ?_ ?_
   |refine LeO.bind ?_ (fun _=>?_)
set_option maxHeartbeats 8000000 in
set_option maxRecDepth 100000 in
theorem spec_TidyRank.calls (k:Nat) (a0:Int) (A1:Option Addr) (c1:Nat) (l1:List Int) (r:List Int) (w:World) (bx:Kd.C (Kd.int .i64) w A1 l1.length l1) (bz:l1.length≤c1) (h:spec_TidyRank.f k a0 l1=some r):
  Calls Try.prog 89 #[.int .i64 a0,.slice A1 l1.length c1] w fun e w'=>∃cD:Value,e= .returned (cD)∧Kd.R (Kd.int .i64) 3 w' w.heap.size (fun _=>True) cD r∧Below w.heap.size w w':=by
 have ar:=Asd.mk bx;have aD:=Asd.mk bz;clear bx bz;have HB:=Asd.mk (Below.refl w.heap.size w);have H:(spec_TidyRank.l0 k a0 l1 (([]:List Int)) 0)=some r:=h;clear h;obtain⟨cf,aE⟩:∃y_:List Int,y_=(([]:List Int)):=⟨_,rfl⟩;replace H:(spec_TidyRank.l0 k a0 l1 cf 0)=some r:=by first|(rw[aE];with_reducible exact H)|(have bh:=(Option.bind_some _ _).symm.trans H;rw[aE];with_reducible exact bh)|(have bh:=(Option.bind_some _ _).symm.trans H;with_reducible exact bh)|with_reducible exact H|(rw[aE];exact H)|exact H
 have bA:=Asd.mk aE;clear aE;have H':=Asd.mk H;clear H;go_enter Try.func89,Try.ntmps89;go_wp2_with (first|((with_reducible refine gate_dst (N:=11) rfl ?_);refine Kd.R_lit (Kd.int .i64) _ 3 ?hg (N:=11) ?hd (xs:=([]:List Int)) (inner:=[]) (ok:=fun _=>True) (okp:=fun _=>True) ?hr ?hp (fun _ hk=>hk) trivial (Below.refl _ _) (Nat.le_refl _) (by simp) ?_;(case hd=>rfl);(case hg=>rfl);(case hr=>first|(go_simp;done)|(go_simp;rfl));(case hp=>exact(Reps.none _ _));intro v164 w3 bB hb dt ck;clear dt ck;(first|rw[←bA.out]at bB|(simp only[Int.reduceToNat]at bB;rw[←bA.out]at bB));have cl:=Asd.mk (Kd.R_lower bB (below_size (wZ HB)));replace HB:=bW HB hb;clear hb bB));go_loopg [5,6] k (fun kq v5 v6 w'=>∃(ae:List Int) (j:Int),v6= .int .i64 j∧Asd (spec_TidyRank.l0 kq a0 l1 ae j=some r)∧Asd (kq≤k)∧Asd (Kd.R (Kd.int .i64) 3 w' w.heap.size (fun _=>True) v5 ae)∧Asd (Below w.heap.size w w'))
 case atStart=>exact⟨(cf),(0),(by first|rfl|(simp;done)|(simp[*];done)),H',⟨Nat.le_refl _⟩,⟨by(repeat apply Kd.RS);exact cl.out⟩,⟨wZ HB⟩⟩
 case round=>
  clear H';obtain⟨ae,j,rfl,HA,aj,HO_5,HB⟩:=hrel;cases gk with
  |zero=>exact absurd HA.out (by simp[spec_TidyRank.l0])
  |succ k1=>
   have H:=HA.out;clear HA;simp only[spec_TidyRank.l0]at H;have cm:=Asd.mk H;clear H;go_upto_region 3 with(fail)
   go_cut [20] (fun v20 wc=>∃(kq:Nat) (a8:Bool),v20= .bool a8∧Asd (spec_TidyRank.j1 kq a0 l1 ae j a8=some r)∧Asd (kq≤k1)∧Asd (Kd.R (Kd.int .i64) 3 wc w.heap.size (fun _=>True) u5 ae)∧Asd (Below w.heap.size w wc))
   case first=>
    have H:=cm.out;clear cm;by_cases c6:j<(l1.length:Int)
    ·rw[if_pos c6]at H;have a6:decide (j<(l1.length:Int))=true:=decide_eq_true c6;clear c6;(first|rw[a6]|(simp only[i64_w,i32_w];rw[a6])|skip);replace H:=Option.bind_eq_some_iff.mp H;obtain⟨t166,cE,H⟩:=H;try dsimp only at H
     have A7:=Asd.mk cE;clear cE;have H':=Asd.mk H;clear H;go_wp2_with (first|(go_at_call 59;(with_reducible refine(spec_RankOk.calls k1 a0 _ _ l1 t166 _ ?side1 ?side2 A7.out).mono ?_);(case side1=>exact cZ (Kd.C_below ar.out HB.out));(case side2=>exact aD.out);rintro e w8 ⟨rfl,hb⟩;replace HO_5:=bR HO_5 hb;replace HB:=bW HB hb;(try clear hb);(try clear hb2);(try clear hk);(try clear hi)));go_meet
     case rel=>exact⟨_,(t166),(by first|rfl|(simp;done)|(simp[*];done)),H',⟨by have:=aj.out;first|omega|exact Nat.le_refl _⟩,⟨by(repeat apply Kd.RS);exact HO_5.out⟩,⟨wZ HB⟩⟩
    ·rw[if_neg c6]at H;have a6:decide (j<(l1.length:Int))=false:=decide_eq_false c6;clear c6;(first|rw[a6]|(simp only[i64_w,i32_w];rw[a6])|skip);have H':=Asd.mk H;clear H;go_wp2;go_meet
     case rel=>exact⟨_,(false),(by first|rfl|(simp;done)|(simp[*];done)),H',⟨by have:=aj.out;first|omega|exact Nat.le_refl _⟩,⟨by(repeat apply Kd.RS);exact HO_5.out⟩,⟨wZ HB⟩⟩
   case rest=>
    clear cm;obtain⟨kq,a8,rfl,HA,aY,HO_5,HB⟩:=hcut;cases kq with
    |zero=>exact absurd HA.out (by simp[spec_TidyRank.j1])
    |succ kj4=>
     have H:=HA.out;clear HA;simp only[spec_TidyRank.j1]at H;by_cases c9:a8=true
     ·subst c9;rw[if_pos rfl]at H;have H':=Asd.mk H;clear H;go_wp2;go_loopg [7,8] kj4 (fun kq v7 v8 w'=>∃(aw:Int) (au:Int),v7= .int .i64 aw∧v8= .int .i64 au∧Asd (spec_TidyRank.l1 kq a0 l1 ae j aw au=some r)∧Asd (kq≤kj4)∧Asd (Kd.R (Kd.int .i64) 3 w' w.heap.size (fun _=>True) u5 ae)∧Asd (Below w.heap.size w w'))
      case atStart=>exact⟨(0),(0),(by first|rfl|(simp;done)|(simp[*];done)),(by first|rfl|(simp;done)|(simp[*];done)),H',⟨Nat.le_refl _⟩,⟨by(repeat apply Kd.RS);exact HO_5.out⟩,⟨wZ HB⟩⟩
      case round=>
       clear H';obtain⟨aw,au,rfl,rfl,HA,aZ,HO_5,HB⟩:=hrel;cases gk with
       |zero=>exact absurd HA.out (by simp[spec_TidyRank.l1])
       |succ k3=>
        have H:=HA.out;clear HA;simp only[spec_TidyRank.l1]at H;by_cases c10:0≤j;rotate_left;(rw[if_neg c10]at H;exact absurd H (by simp));rw[if_pos c10]at H;have cn:decide (0≤j)=true:=decide_eq_true c10;clear c10;by_cases aC:j<(l1.length:Int);rotate_left;(rw[if_neg aC]at H;exact absurd H (by simp));rw[if_pos aC]at H;have bD:decide (j<(l1.length:Int))=true:=decide_eq_true aC;clear aC;by_cases br:au<(rd l1 j)
        ·rw[if_pos br]at H;have cp:decide (au<(rd l1 j))=true:=decide_eq_true br;clear br;have H':=Asd.mk H;clear H;have aG:0≤(j:Int):=odt;have aH:j<(l1.length:Int):=odt;obtain⟨bF,bH,ah⟩:=Kd.at_int ar.out j aG aH;cases bH;replace ah:=(HB.out.cell (World.block_lt_of_cell? w _ ah)).trans ah;replace aG:=eq_true aG;replace aH:=eq_true aH;go_wp2;go_loopg [9,10] k3 (fun kq v9 v10 w'=>∃(bb:Bool) (ab:Int),v9= .bool bb∧v10= .int .i64 ab∧Asd (spec_TidyRank.l2 kq a0 l1 ae j aw au bb ab=some r)∧Asd (kq≤k3)∧Asd (Kd.R (Kd.int .i64) 3 w' w.heap.size (fun _=>True) u5 ae)∧Asd (Below w.heap.size w w'))
         case atStart=>exact⟨(false),(0),(by first|rfl|(simp;done)|(simp[*];done)),(by first|rfl|(simp;done)|(simp[*];done)),H',⟨Nat.le_refl _⟩,⟨by(repeat apply Kd.RS);exact HO_5.out⟩,⟨wZ HB⟩⟩
         case round=>
          clear H';obtain⟨bb,ab,rfl,rfl,HA,bc,HO_5,HB⟩:=hrel;cases gk with
          |zero=>exact absurd HA.out (by simp[spec_TidyRank.l2])
          |succ k4=>
           have H:=HA.out;clear HA;simp only[spec_TidyRank.l2]at H;by_cases bs:ab<(l1.length:Int)
           ·rw[if_pos bs]at H;have cq:decide (ab<(l1.length:Int))=true:=decide_eq_true bs;clear bs;by_cases ba:bb=true
            ·subst ba;rw[if_pos rfl]at H;have H':=Asd.mk H;clear H;go_wp2;go_roundg k4
             case measure=>have:=aj.out;have:=aY.out;have:=aZ.out;have:=bc.out;omega
             case rel=>exact⟨(true),(wrap64 (ab+1)),(by first|rfl|(simp;done)|(simp[*];done)),(by first|rfl|(simp;done)|(simp[*];done)),H',⟨by have:=aj.out;have:=aY.out;have:=aZ.out;have:=bc.out;omega⟩,⟨by(repeat apply Kd.RS);exact HO_5.out⟩,⟨wZ HB⟩⟩
            ·replace ba:=Bool.eq_false_iff.mpr ba;subst ba;rw[if_neg (show¬(false=true) by decide)]at H;by_cases cb:0≤ab;rotate_left;(rw[if_neg cb]at H;exact absurd H (by simp));rw[if_pos cb]at H;have du:decide (0≤ab)=true:=decide_eq_true cb;clear cb;have H':=Asd.mk H;clear H;have bI:0≤(ab:Int):=odt;have bJ:ab<(l1.length:Int):=odt;obtain⟨cr,cF,aI⟩:=Kd.at_int ar.out ab bI bJ;obtain rfl:bF=cr:=(by injection cF);replace aI:=(HB.out.cell (World.block_lt_of_cell? w _ aI)).trans aI;replace bI:=eq_true bI;replace bJ:=eq_true bJ;go_wp2;go_roundg k4
             case measure=>have:=aj.out;have:=aY.out;have:=aZ.out;have:=bc.out;omega
             case rel=>exact⟨(((rd l1 ab)==au)),(wrap64 (ab+1)),(by first|rfl|(simp;done)|(simp[*];done)),(by first|rfl|(simp;done)|(simp[*];done)),H',⟨by have:=aj.out;have:=aY.out;have:=aZ.out;have:=bc.out;omega⟩,⟨by(repeat apply Kd.RS);exact HO_5.out⟩,⟨wZ HB⟩⟩
           ·rw[if_neg bs]at H;have cq:decide (ab<(l1.length:Int))=false:=decide_eq_false bs;clear bs;by_cases cc:bb=true
            ·subst cc;rw[if_pos rfl]at H;have H':=Asd.mk H;clear H;go_wp2;go_roundg k4
             case measure=>have:=aj.out;have:=aY.out;have:=aZ.out;have:=bc.out;omega
             case rel=>exact⟨(wrap64 (aw+1)),(wrap64 (au+1)),(by first|rfl|(simp;done)|(simp[*];done)),(by first|rfl|(simp;done)|(simp[*];done)),H',⟨by have:=aj.out;have:=aY.out;have:=aZ.out;have:=bc.out;omega⟩,⟨by(repeat apply Kd.RS);exact HO_5.out⟩,⟨wZ HB⟩⟩
            ·replace cc:=Bool.eq_false_iff.mpr cc;subst cc;rw[if_neg (show¬(false=true) by decide)]at H;have H':=Asd.mk H;clear H;go_wp2;go_roundg k4
             case measure=>have:=aj.out;have:=aY.out;have:=aZ.out;have:=bc.out;omega
             case rel=>exact⟨(aw),(wrap64 (au+1)),(by first|rfl|(simp;done)|(simp[*];done)),(by first|rfl|(simp;done)|(simp[*];done)),H',⟨by have:=aj.out;have:=aY.out;have:=aZ.out;have:=bc.out;omega⟩,⟨by(repeat apply Kd.RS);exact HO_5.out⟩,⟨wZ HB⟩⟩
        ·rw[if_neg br]at H;have cp:decide (au<(rd l1 j))=false:=decide_eq_false br;clear br;by_cases cd:ae.length<17592186044416;rotate_left;(rw[if_neg cd]at H;exact absurd H (by simp));rw[if_pos cd]at H;have ct:=Asd.mk cd;clear cd;obtain⟨cg,aJ⟩:∃y_:List Int,y_=(ae++ [aw]):=⟨_,rfl⟩;replace H:(spec_TidyRank.l0 k3 a0 l1 cg (wrap64 (j+1)))=some r:=by first|(rw[aJ];with_reducible exact H)|(have bh:=(Option.bind_some _ _).symm.trans H;rw[aJ];with_reducible exact bh)|(have bh:=(Option.bind_some _ _).symm.trans H;with_reducible exact bh)|with_reducible exact H|(rw[aJ];exact H)|exact H
         have cu:=Asd.mk aJ;clear aJ;have H':=Asd.mk H;clear H;have aG:0≤(j:Int):=odt;have aH:j<(l1.length:Int):=odt;obtain⟨bF,bH,ah⟩:=Kd.at_int ar.out j aG aH;cases bH;replace ah:=(HB.out.cell (World.block_lt_of_cell? w _ ah)).trans ah;replace aG:=eq_true aG;replace aH:=eq_true aH;go_wp2_with (first|((with_reducible refine gate_builtin (b:=.append) (xs:= #[.tmp 49,.tmp 51]) rfl ?_);at_builtin;refine Kd.R_append (Kd.int .i64) (w0:=w) w.heap.size rfl (.tmp 49) (.tmp 51) 55 3 (.int .i64 0) 8 rfl Try.underlying55 info3 rfl (by decide) (by omega) u5 ae aw [.int .i64 aw] (fun _=>True) (fun _=>False) rfl rfl ?aP (fun _ hk=>hk.elim) ?aF ?aO ?aB ?aS ?aL ?_;(case aP=>exact rfl);(case aB=>exact(wZ HB));(case aF=>exact(fun _ _=>trivial));(case aO=>exact(rS HO_5));(case aS=>exact(below_size (wZ HB)));(case aL=>have:=ct.out;omega);intro dE w18 ho hb hg dv;rw[←cu.out]at ho;replace HB:=Asd.mk (hb);have cv:=Asd.mk (ho);clear HO_5;clear ho hb hg dv));go_roundg k3
         case measure=>have:=aj.out;have:=aY.out;have:=aZ.out;omega
         case rel=>exact⟨(cg),(wrap64 (j+1)),(by first|rfl|(simp;done)|(simp[*];done)),H',⟨by have:=aj.out;have:=aY.out;have:=aZ.out;omega⟩,⟨by(repeat apply Kd.RS);exact cv.out⟩,⟨wZ HB⟩⟩
     ·replace c9:=Bool.eq_false_iff.mpr c9;subst c9;rw[if_neg (show¬(false=true) by decide)]at H;obtain rfl:=Option.some.inj H;go_wp2;go_ret;exact⟨_,by first|rfl|(simp[*,errW_none,errW_some]<;>rfl),by(repeat apply Kd.RS);exact HO_5.out,wZ HB⟩

/-! ### spec_l10Tidy: function 99 -/
def spec_l10Tidy.l0:Nat→List Int→List Int→Int→Option (Bool)
 |0,_,_,_=>none
 |k+1,x1,x5,x6=>if x6<(x5.length:Int)then(if 0≤x6 then(if x6<(x1.length:Int)then(if(rd x5 x6)=(rd x1 x6)then(spec_l10Tidy.l0 k x1 x5 (wrap64 (x6+1)))else(some false))else(none))else(none))else(some true)
def spec_l10Tidy.f (k:Nat) (a0:Int) (l1:List Int):Option (Bool):=(spec_RankOk.f k a0 l1).bind fun t172=>(if t172=true then((spec_TidyRank.f k a0 l1).bind fun t173=>(spec_l10Tidy.l0 k l1 t173 0))else(some false))
theorem spec_l10Tidy.mono_l:∀k,(∀y0 y1 y2,LeO (spec_l10Tidy.l0 k y0 y1 y2) (spec_l10Tidy.l0 (k+1) y0 y1 y2))
 |0=>fun _ _ _ r h=>by simp[spec_l10Tidy.l0]at h
 |k+1=>by
  have al:=spec_l10Tidy.mono_l k
  ·intro y0 y1 y2;unfold spec_l10Tidy.l0;repeat' first
   |(with_reducible first|exact al _ _ _|exact spec_RankOk.mono _ _ _|exact spec_TidyRank.mono _ _ _|exact LeO.refl _|exact LeO.none _|refine LeO.ite ?_ ?_|refine LeO.bind ?_ (fun _=>?_))
   |refine LeO.ite ?_ ?_
   |refine LeO.bind ?_ (fun _=>?_)
theorem spec_l10Tidy.mono:∀a0 a1 k,LeO (spec_l10Tidy.f k a0 a1) (spec_l10Tidy.f (k+1) a0 a1):=by
 intro a0 a1 k;have al:=spec_l10Tidy.mono_l k;unfold spec_l10Tidy.f
 repeat' first
   |(with_reducible first|exact al _ _ _|exact spec_RankOk.mono _ _ _|exact spec_TidyRank.mono _ _ _|exact LeO.refl _|exact LeO.none _|refine LeO.ite ?_ ?_|refine LeO.bind ?_ (fun _=>?_))
   |refine LeO.ite ?_ ?_
   |refine LeO.bind ?_ (fun _=>?_)
set_option maxHeartbeats 8000000 in
set_option maxRecDepth 100000 in
theorem spec_l10Tidy.calls (k:Nat) (a0:Int) (A1:Option Addr) (c1:Nat) (l1:List Int) (r:Bool) (w:World) (bx:Kd.C (Kd.int .i64) w A1 l1.length l1) (bz:l1.length≤c1) (h:spec_l10Tidy.f k a0 l1=some r):
  Calls Try.prog 99 #[.int .i64 a0,.slice A1 l1.length c1] w fun e w'=>e= .returned (.bool r)∧Below w.heap.size w w':=by
 have ar:=Asd.mk bx;have aD:=Asd.mk bz;clear bx bz;have HB:=Asd.mk (Below.refl w.heap.size w);have H:((spec_RankOk.f k a0 l1).bind fun t172=>(if t172=true then((spec_TidyRank.f k a0 l1).bind fun t173=>(spec_l10Tidy.l0 k l1 t173 0))else(some false)))=some r:=h;clear h;replace H:=Option.bind_eq_some_iff.mp H;obtain⟨t172,bO,H⟩:=H;try dsimp only at H
 have A3:=Asd.mk bO;clear bO;by_cases c4:t172=true
 ·subst c4;rw[if_pos rfl]at H;replace H:=Option.bind_eq_some_iff.mp H;obtain⟨t173,bd,H⟩:=H;try dsimp only at H
  have A5:=Asd.mk bd;clear bd;have H':=Asd.mk H;clear H;go_enter Try.func99,Try.ntmps99;go_wp2_with (first|(go_at_call 59;(with_reducible refine(spec_RankOk.calls k a0 _ _ l1 true _ ?side1 ?side2 A3.out).mono ?_);(case side1=>exact cZ ar.out);(case side2=>exact aD.out);rintro e w6 ⟨rfl,hb⟩;replace HB:=bW HB hb;(try clear hb);(try clear hb2);(try clear hk);(try clear hi))|(go_at_call 89;(with_reducible refine(spec_TidyRank.calls k a0 _ _ l1 t173 _ ?side1 ?side2 A5.out).mono ?_);(case side1=>exact cZ (Kd.C_below ar.out HB.out));(case side2=>exact aD.out);rintro e w7 ⟨bQ,rfl,bf,hb⟩;have bj:=Asd.mk (Kd.R_lower bf (below_size (wZ HB)));replace HB:=bW HB hb;(try clear hb);(try clear hb2);(try clear hk);(try clear hi);(try clear bf)));repeat(go_quiet (first|(go_at_call 59;(with_reducible refine(spec_RankOk.calls k a0 _ _ l1 true _ ?side1 ?side2 A3.out).mono ?_);(case side1=>exact cZ ar.out);(case side2=>exact aD.out);rintro e w6 ⟨rfl,hb⟩;replace HB:=bW HB hb;(try clear hb);(try clear hb2);(try clear hk);(try clear hi))|(go_at_call 89;(with_reducible refine(spec_TidyRank.calls k a0 _ _ l1 t173 _ ?side1 ?side2 A5.out).mono ?_);(case side1=>exact cZ (Kd.C_below ar.out HB.out));(case side2=>exact aD.out);rintro e w7 ⟨bQ,rfl,bf,hb⟩;have bj:=Asd.mk (Kd.R_lower bf (below_size (wZ HB)));replace HB:=bW HB hb;(try clear hb);(try clear hb2);(try clear hk);(try clear hi);(try clear bf)));try go_wp2_with (first|(go_at_call 59;(with_reducible refine(spec_RankOk.calls k a0 _ _ l1 true _ ?side1 ?side2 A3.out).mono ?_);(case side1=>exact cZ ar.out);(case side2=>exact aD.out);rintro e w6 ⟨rfl,hb⟩;replace HB:=bW HB hb;(try clear hb);(try clear hb2);(try clear hk);(try clear hi))|(go_at_call 89;(with_reducible refine(spec_TidyRank.calls k a0 _ _ l1 t173 _ ?side1 ?side2 A5.out).mono ?_);(case side1=>exact cZ (Kd.C_below ar.out HB.out));(case side2=>exact aD.out);rintro e w7 ⟨bQ,rfl,bf,hb⟩;have bj:=Asd.mk (Kd.R_lower bf (below_size (wZ HB)));replace HB:=bW HB hb;(try clear hb);(try clear hb2);(try clear hk);(try clear hi);(try clear bf))))
  go_loopg [6] k (fun kq v6 w'=>∃(j:Int),v6= .int .i64 j∧Asd (spec_l10Tidy.l0 kq l1 t173 j=some r)∧Asd (kq≤k)∧Asd (Kd.R (Kd.int .i64) 3 w' w.heap.size (fun _=>True) bQ t173)∧Asd (Below w.heap.size w w'))
  case atStart=>exact⟨(0),(by first|rfl|(simp;done)|(simp[*];done)),H',⟨Nat.le_refl _⟩,⟨by(repeat apply Kd.RS);exact bj.out⟩,⟨wZ HB⟩⟩
  case round=>
   clear H';obtain⟨j,rfl,HA,aj,HO_5,HB⟩:=hrel;cases gk with
   |zero=>exact absurd HA.out (by simp[spec_l10Tidy.l0])
   |succ k1=>
    have H:=HA.out;clear HA;simp only[spec_l10Tidy.l0]at H;by_cases c8:j<(t173.length:Int)
    ·rw[if_pos c8]at H;have cG:decide (j<(t173.length:Int))=true:=decide_eq_true c8;clear c8;by_cases c9:0≤j;rotate_left;(rw[if_neg c9]at H;exact absurd H (by simp));rw[if_pos c9]at H;have dF:decide (0≤j)=true:=decide_eq_true c9;clear c9;by_cases c10:j<(l1.length:Int);rotate_left;(rw[if_neg c10]at H;exact absurd H (by simp));rw[if_pos c10]at H;have cn:decide (j<(l1.length:Int))=true:=decide_eq_true c10;clear c10;by_cases aC:(rd t173 j)=(rd l1 j)
     ·rw[if_pos aC]at H;have bD:((rd t173 j)==(rd l1 j))=true:=beq_iff_eq.mpr aC;have cw:((rd t173 j) !=(rd l1 j))=false:=bne_eq_false_iff_eq.mpr aC;clear aC;have H':=Asd.mk H;clear H;obtain⟨dG,dH,cH⟩:=Kd.R_slice HO_5.out;subst cH;have aK:0≤(j:Int):=odt;have aM:j<(t173.length:Int):=odt;obtain⟨cx,bT,bV⟩:=Kd.at_int (Kd.R_reads' HO_5.out).2.2 j aK aM;cases bT;replace aK:=eq_true aK;replace aM:=eq_true aM;have aN:0≤(j:Int):=odt;have aQ:j<(l1.length:Int):=odt;obtain⟨cy,bZ,ai⟩:=Kd.at_int ar.out j aN aQ;cases bZ;replace ai:=(HB.out.cell (World.block_lt_of_cell? w _ ai)).trans ai;replace aN:=eq_true aN;replace aQ:=eq_true aQ;go_wp2;repeat(go_quiet (fail);try go_wp2)
      go_roundg k1
      case measure=>have:=aj.out;omega
      case rel=>exact⟨(wrap64 (j+1)),(by first|rfl|(simp;done)|(simp[*];done)),H',⟨by have:=aj.out;omega⟩,⟨by(repeat apply Kd.RS);exact HO_5.out⟩,⟨wZ HB⟩⟩
     ·rw[if_neg aC]at H;have bD:((rd t173 j)==(rd l1 j))=false:=beq_eq_false_iff_ne.mpr aC;have cw:((rd t173 j) !=(rd l1 j))=true:=bne_iff_ne.mpr aC;obtain rfl:=Option.some.inj H;obtain⟨dI,dJ,cI⟩:=Kd.R_slice HO_5.out;subst cI;have aK:0≤(j:Int):=odt;have aM:j<(t173.length:Int):=odt;obtain⟨cx,bT,bV⟩:=Kd.at_int (Kd.R_reads' HO_5.out).2.2 j aK aM;cases bT;replace aK:=eq_true aK;replace aM:=eq_true aM;have aN:0≤(j:Int):=odt;have aQ:j<(l1.length:Int):=odt;obtain⟨cy,bZ,ai⟩:=Kd.at_int ar.out j aN aQ;cases bZ;replace ai:=(HB.out.cell (World.block_lt_of_cell? w _ ai)).trans ai;replace aN:=eq_true aN;replace aQ:=eq_true aQ;go_wp2;repeat(go_quiet (fail);try go_wp2)
      go_ret;exact⟨by first|rfl|(simp[*,errW_none,errW_some]<;>rfl),wZ HB⟩
    ·rw[if_neg c8]at H;have cG:decide (j<(t173.length:Int))=false:=decide_eq_false c8;clear c8;obtain rfl:=Option.some.inj H;obtain⟨dK,dL,cJ⟩:=Kd.R_slice HO_5.out;subst cJ;go_wp2;repeat(go_quiet (fail);try go_wp2)
     go_ret;exact⟨by first|rfl|(simp[*,errW_none,errW_some]<;>rfl),wZ HB⟩
 ·replace c4:=Bool.eq_false_iff.mpr c4;subst c4;rw[if_neg (show¬(false=true) by decide)]at H;obtain rfl:=Option.some.inj H;go_enter Try.func99,Try.ntmps99;go_wp2_with (first|(go_at_call 59;(with_reducible refine(spec_RankOk.calls k a0 _ _ l1 false _ ?side1 ?side2 A3.out).mono ?_);(case side1=>exact cZ ar.out);(case side2=>exact aD.out);rintro e w15 ⟨rfl,hb⟩;replace HB:=bW HB hb;(try clear hb);(try clear hb2);(try clear hk);(try clear hi)));repeat(go_quiet (first|(go_at_call 59;(with_reducible refine(spec_RankOk.calls k a0 _ _ l1 false _ ?side1 ?side2 A3.out).mono ?_);(case side1=>exact cZ ar.out);(case side2=>exact aD.out);rintro e w15 ⟨rfl,hb⟩;replace HB:=bW HB hb;(try clear hb);(try clear hb2);(try clear hk);(try clear hi)));try go_wp2_with (first|(go_at_call 59;(with_reducible refine(spec_RankOk.calls k a0 _ _ l1 false _ ?side1 ?side2 A3.out).mono ?_);(case side1=>exact cZ ar.out);(case side2=>exact aD.out);rintro e w15 ⟨rfl,hb⟩;replace HB:=bW HB hb;(try clear hb);(try clear hb2);(try clear hk);(try clear hi))))
  go_ret;exact⟨by first|rfl|(simp[*,errW_none,errW_some]<;>rfl),wZ HB⟩

/-! ### spec_MindValid: function 52 -/
def spec_MindValid.l0:Nat→Int→Int→List Int→List (List Int)→Option (Bool)
 |0,_,_,_,_=>none
 |k+1,x3,x179000,x179001,x179002=>if x3<(x179002.length:Int)then(if 0≤x3 then((spec_l10Tidy.f k x179000 (rd_L1 x179002 x3)).bind fun t180=>(if t180=true then(spec_MindValid.l0 k (wrap64 (x3+1)) x179000 x179001 x179002)else(some false)))else(none))else((spec_l10Tidy.f k x179000 x179001).bind fun t181=>(if t181=true then(some (decide ((x179002.length:Int)≤10)))else(some false)))
def spec_MindValid.f (k:Nat) (af:Int) (ag:List Int) (I:List (List Int)):Option (Bool):=spec_MindValid.l0 k 0 af ag I
theorem spec_MindValid.mono_l:∀k,(∀y0 y1 y2 y3,LeO (spec_MindValid.l0 k y0 y1 y2 y3) (spec_MindValid.l0 (k+1) y0 y1 y2 y3))
 |0=>fun _ _ _ _ r h=>by simp[spec_MindValid.l0]at h
 |k+1=>by
  have al:=spec_MindValid.mono_l k
  ·intro y0 y1 y2 y3;unfold spec_MindValid.l0;repeat' first
   |(with_reducible first|exact al _ _ _ _|exact spec_l10Tidy.mono _ _ _|exact LeO.refl _|exact LeO.none _|refine LeO.ite ?_ ?_|refine LeO.bind ?_ (fun _=>?_))
   |refine LeO.ite ?_ ?_
   |refine LeO.bind ?_ (fun _=>?_)
theorem spec_MindValid.mono:∀a0 a1 a2 k,LeO (spec_MindValid.f k a0 a1 a2) (spec_MindValid.f (k+1) a0 a1 a2):=by
 intro a0 a1 a2 k;have al:=spec_MindValid.mono_l k;unfold spec_MindValid.f
 repeat' first
   |(with_reducible first|exact al _ _ _ _|exact spec_l10Tidy.mono _ _ _|exact LeO.refl _|exact LeO.none _|refine LeO.ite ?_ ?_|refine LeO.bind ?_ (fun _=>?_))
   |refine LeO.ite ?_ ?_
   |refine LeO.bind ?_ (fun _=>?_)
def spec_MindValid.T4:Bool×List (List Nat×List Nat):=(true,[([],[]),([0],[0]),([],[]),([2],[2]),([],[]),([3,4],[3,4]),([5],[5]),([1,6],[1,6]),([7],[7])])
def spec_MindValid.B4:List Nat:=[0,1,0,4,0,28,60,127,255]
theorem spec_MindValid.tab4:rtab .any (opsOf Try.f52 4)=spec_MindValid.T4:=by kernel_rfl
theorem spec_MindValid.bits4:waitsOk spec_MindValid.T4.2 spec_MindValid.B4=true:=by kernel_rfl
set_option maxHeartbeats 8000000 in
set_option maxRecDepth 100000 in
theorem spec_MindValid.calls (k:Nat) (af:Int) (az:Option Addr) (aA:Nat) (ag:List Int) (bl:Option Addr) (a7:Nat) (I:List (List Int)) (r:Bool) (w:World) (b0:Kd.C (Kd.int .i64) w az ag.length ag) (b1:ag.length≤aA) (b4:Kd.C (Kd.slice 3 (Kd.int .i64)) w bl I.length I) (b5:I.length≤a7) (h:spec_MindValid.f k af ag I=some r):
  Calls Try.prog 52 #[.agg #[.int .i64 af,.slice az ag.length aA,.slice bl I.length a7]] w fun e w'=>e= .returned (.bool r)∧Below w.heap.size w w':=by
 have dM:=Try.underlying58;have b6:=Asd.mk b0;have b7:=Asd.mk b1;clear b0 b1;have b8:=Asd.mk b4;have dw:=Asd.mk b5;clear b4 b5;have HB:=Asd.mk (Below.refl w.heap.size w);have H:(spec_MindValid.l0 k 0 af ag I)=some r:=h;clear h;have H':=Asd.mk H;clear H;go_enter Try.func52,Try.ntmps52;go_wp2_with (first|((with_reducible refine gate_dst (N:=1) rfl ?_);(try(refine gate_guard (by rfl) ?_;dsimp only));refine bxE ?hg (N:=1) ?hd (cs:= #[.int .i64 af,.slice az ag.length aA,.slice bl I.length a7]) (t:=58) ?hr ?_;(case hd=>rfl);(case hg=>rfl);(case hr=>first|(go_simp;done)|(go_simp;rfl));intro av hg w2 ch hb;have o:=Asd.mk (ch);have dx:=bG HB hg;have dy:=bG HB hg;replace HB:=bW HB hb;clear hb ch hg));go_loopg [3] k (fun kq v3 w'=>∃(J:Int),v3= .int .i64 J∧Asd (spec_MindValid.l0 kq J af ag I=some r)∧Asd (kq≤k)∧Asd (w'.heap[av]?=some (.cells #[.int .i64 af,(.slice az ag.length aA),(.slice bl I.length a7)] 58 (0,0)))∧Asd (Below w.heap.size w w'))
 case atStart=>exact⟨(0),(by first|rfl|(simp;done)|(simp[*];done)),H',⟨Nat.le_refl _⟩,⟨kS o⟩,⟨wZ HB⟩⟩
 case round=>
  clear H';obtain⟨J,rfl,HA,aj,o,HB⟩:=hrel;cases gk with
  |zero=>exact absurd HA.out (by simp[spec_MindValid.l0])
  |succ k1=>
   have H:=HA.out;clear HA;simp only[spec_MindValid.l0]at H;by_cases c3:J<(I.length:Int)
   ·rw[if_pos c3]at H;have bn:decide (J<(I.length:Int))=true:=decide_eq_true c3;clear c3;by_cases c4:0≤J;rotate_left;(rw[if_neg c4]at H;exact absurd H (by simp));rw[if_pos c4]at H;have dN:decide (0≤J)=true:=decide_eq_true c4;clear c4;replace H:=Option.bind_eq_some_iff.mp H;obtain⟨t180,bd,H⟩:=H;try dsimp only at H
    have A5:=Asd.mk bd;clear bd;by_cases c6:t180=true
    ·subst c6;rw[if_pos rfl]at H;have H':=Asd.mk H;clear H;obtain⟨dk,dm,dn,dp,dq,dr⟩:=b3 o;try go_wp2
     replace o:=Asd.mk (bkD o.out);replace HB:=Asd.mk (bwD HB.out);have aR:0≤(J:Int):=odt;have aT:J<(I.length:Int):=odt;obtain⟨aU,ax,ay,b9,aa,an,ao⟩:=at_L1 b8.out J aR aT;have ad:=aa;cases b9;replace aa:=(HB.out.cell (World.block_lt_of_cell? w _ aa)).trans aa;have aq:=Asd.mk ao;have aV:=Asd.mk an;clear ao an;replace aR:=eq_true aR;replace aT:=eq_true aT;refine start_ (n:=9) (S:=fun w'=>w'.cell? ⟨av,0,none⟩=some (.int .i64 af)∧w'.cell? ⟨av,1,none⟩=some (.slice az ag.length aA)∧w'.cell? ⟨av,2,none⟩=some (.slice (some aU) I.length a7)∧w'.cell? (aU.add (J).toNat)=some (.slice ax (rd_L1 I J).length ay)) (ds:=[]) Mk4_0 (by kernel_rfl) rfl rfl ⟨(bkC o.out 0).trans rfl,(bkC o.out 1).trans rfl,(bkC o.out 2).trans rfl,((HB.out.cell (World.block_lt_of_cell? w _ ad)).trans ad)⟩ (fun hHeld=>?_);refine with_tabW spec_MindValid.tab4 spec_MindValid.bits4 (fun ak bk=>?_);generalize wr.drew=w8 at o HB aq aa hHeld⊢;refine pure_ (i:=0) (N:=some 11) (v:=?_) (a':=?_) Mk4_1 rfl rfl (any_of ak.out (by kernel_rfl)) (fun _ _ _ h=>h) (Or.inl ⟨by rfl,?_⟩) ?_ ?_;rotate_left
     ·intro w';go_simp;with_reducible rfl
     rotate_left
     ·simp only[Act.put,qA,qB,qC,i64_w,i32_w];rfl
     refine pure_ (i:=2) (N:=some 13) (v:=?_) (a':=?_) Mk4_2 rfl rfl (any_of ak.out (by kernel_rfl)) (fun _ _ _ h=>h) (Or.inl ⟨by rfl,?_⟩) ?_ ?_;rotate_left
     ·intro w';go_simp;with_reducible rfl
     rotate_left
     ·simp only[Act.put,qA,qB,qC,i64_w,i32_w];rfl
     refine pure_ (i:=4) (N:=some 15) (v:=?_) (a':=?_) Mk4_3 rfl rfl (any_of ak.out (by kernel_rfl)) (fun _ _ _ h=>h) (Or.inl ⟨by rfl,?_⟩) ?_ ?_;rotate_left
     ·intro w';go_simp;with_reducible rfl
     rotate_left
     ·simp only[Act.put,qA,qB,qC,i64_w,i32_w];rfl
     refine take_ (i:=1) (N:=some 12) (v:=?_) (a':=?_) Mk4_4 rfl rfl (take_ofW ak.out bk.out (by kernel_rfl)) (fun _ _ _ h=>h) (Or.inl ⟨by rfl,?_⟩) hHeld ?_ ?_;rotate_left
     ·rintro w' ⟨s0,s1,s2,s3⟩;go_simp;with_reducible rfl
     rotate_left
     ·simp only[Act.put,qA,qB,qC,i64_w,i32_w];rfl
     refine take_ (i:=3) (N:=some 14) (v:=?_) (a':=?_) Mk4_5 rfl rfl (take_ofW ak.out bk.out (by kernel_rfl)) (fun _ _ _ h=>h) (Or.inl ⟨by rfl,?_⟩) hHeld ?_ ?_;rotate_left
     ·rintro w' ⟨s0,s1,s2,s3⟩;go_simp;with_reducible rfl
     rotate_left
     ·simp only[Act.put,qA,qB,qC,i64_w,i32_w];rfl
     refine pure_ (i:=5) (N:=some 16) (v:=?_) (a':=?_) Mk4_6 rfl rfl (any_of ak.out (by kernel_rfl)) (fun _ _ _ h=>h) (Or.inl ⟨by rfl,?_⟩) ?_ ?_;rotate_left
     ·intro w';go_simp;with_reducible rfl
     rotate_left
     ·simp only[Act.put,qA,qB,qC,i64_w,i32_w];rfl
     refine take_ (i:=6) (N:=some 17) (v:=?_) (a':=?_) Mk4_7 rfl rfl (take_ofW ak.out bk.out (by kernel_rfl)) (fun _ _ _ h=>h) (Or.inl ⟨by rfl,?_⟩) hHeld ?_ ?_;rotate_left
     ·rintro w' ⟨s0,s1,s2,s3⟩;go_simp;with_reducible rfl
     rotate_left
     ·simp only[Act.put,qA,qB,qC,i64_w,i32_w];rfl
     refine one_ (i:=7) (N:=some 18) Mk4_8 rfl rfl (one_of ak.out (by kernel_rfl)) (by decide) (fun K hK=>?_);refine goes_ Try.func99 (by kernel_rfl) rfl #[.int .i64 af,.slice ax (rd_L1 I J).length ay] (by rfl) rfl rfl (by(try simp only[List.map_toArray,List.map_cons,List.map_nil]);first|done|rfl|(simp only[List.length_drop,List.length_take];rfl)) ?_;with_reducible refine(spec_l10Tidy.calls k1 af _ _ (rd_L1 I J) true _ ?side1 ?side2 A5.out).mono ?_
     (case side1=>exact cZ (Kd.C_below aq.out HB.out));(case side2=>exact aV.out);rintro e w9 ⟨rfl,hb⟩;refine⟨_,rfl,?_⟩;replace o:=bU o hb;replace HB:=bW HB hb;(try clear hb);(try clear hb2);(try clear hk);(try clear hi);refine hK.out _ _ ⟨(bkC o.out 0).trans rfl,(bkC o.out 1).trans rfl,(bkC o.out 2).trans rfl,((HB.out.cell (World.block_lt_of_cell? w _ ad)).trans ad)⟩ (fun hHeld=>?_);clear hK K;refine norm_ (a':=?_) ?_ ?_;rotate_left
     ·show Act.put _ (some 18) _=_
      simp only[Act.put,qA,qB,qC,i64_w,i32_w];rfl
     refine pure_ (i:=8) (N:=some 19) (v:=?_) (a':=?_) Mk4_9 rfl rfl (any_of ak.out (by kernel_rfl)) (fun _ _ _ h=>h) (Or.inl ⟨by rfl,?_⟩) ?_ ?_;rotate_left
     ·intro w';go_simp;with_reducible rfl
     rotate_left
     ·simp only[Act.put,qA,qB,qC,i64_w,i32_w];rfl
     refine done_ (done_of ak.out (by kernel_rfl)) ?_;try go_wp2
     go_roundg k1
     case measure=>have:=aj.out;omega
     case rel=>exact⟨(wrap64 (J+1)),(by first|rfl|(simp;done)|(simp[*];done)),H',⟨by have:=aj.out;omega⟩,⟨kS o⟩,⟨wZ HB⟩⟩
    ·replace c6:=Bool.eq_false_iff.mpr c6;subst c6;rw[if_neg (show¬(false=true) by decide)]at H;obtain rfl:=Option.some.inj H;obtain⟨cK,cL,cM,cN,cO,cP⟩:=b3 o;try go_wp2
     replace o:=Asd.mk (bkD o.out);replace HB:=Asd.mk (bwD HB.out);have aR:0≤(J:Int):=odt;have aT:J<(I.length:Int):=odt;obtain⟨aU,ax,ay,b9,aa,an,ao⟩:=at_L1 b8.out J aR aT;have ad:=aa;cases b9;replace aa:=(HB.out.cell (World.block_lt_of_cell? w _ aa)).trans aa;have aq:=Asd.mk ao;have aV:=Asd.mk an;clear ao an;replace aR:=eq_true aR;replace aT:=eq_true aT;refine start_ (n:=9) (S:=fun w'=>w'.cell? ⟨av,0,none⟩=some (.int .i64 af)∧w'.cell? ⟨av,1,none⟩=some (.slice az ag.length aA)∧w'.cell? ⟨av,2,none⟩=some (.slice (some aU) I.length a7)∧w'.cell? (aU.add (J).toNat)=some (.slice ax (rd_L1 I J).length ay)) (ds:=[]) Mk4_0 (by kernel_rfl) rfl rfl ⟨(bkC o.out 0).trans rfl,(bkC o.out 1).trans rfl,(bkC o.out 2).trans rfl,((HB.out.cell (World.block_lt_of_cell? w _ ad)).trans ad)⟩ (fun hHeld=>?_);refine with_tabW spec_MindValid.tab4 spec_MindValid.bits4 (fun ak bk=>?_);generalize wr.drew=w11 at o HB aq aa hHeld⊢;refine pure_ (i:=0) (N:=some 11) (v:=?_) (a':=?_) Mk4_1 rfl rfl (any_of ak.out (by kernel_rfl)) (fun _ _ _ h=>h) (Or.inl ⟨by rfl,?_⟩) ?_ ?_;rotate_left
     ·intro w';go_simp;with_reducible rfl
     rotate_left
     ·simp only[Act.put,qA,qB,qC,i64_w,i32_w];rfl
     refine pure_ (i:=2) (N:=some 13) (v:=?_) (a':=?_) Mk4_2 rfl rfl (any_of ak.out (by kernel_rfl)) (fun _ _ _ h=>h) (Or.inl ⟨by rfl,?_⟩) ?_ ?_;rotate_left
     ·intro w';go_simp;with_reducible rfl
     rotate_left
     ·simp only[Act.put,qA,qB,qC,i64_w,i32_w];rfl
     refine pure_ (i:=4) (N:=some 15) (v:=?_) (a':=?_) Mk4_3 rfl rfl (any_of ak.out (by kernel_rfl)) (fun _ _ _ h=>h) (Or.inl ⟨by rfl,?_⟩) ?_ ?_;rotate_left
     ·intro w';go_simp;with_reducible rfl
     rotate_left
     ·simp only[Act.put,qA,qB,qC,i64_w,i32_w];rfl
     refine take_ (i:=1) (N:=some 12) (v:=?_) (a':=?_) Mk4_4 rfl rfl (take_ofW ak.out bk.out (by kernel_rfl)) (fun _ _ _ h=>h) (Or.inl ⟨by rfl,?_⟩) hHeld ?_ ?_;rotate_left
     ·rintro w' ⟨s0,s1,s2,s3⟩;go_simp;with_reducible rfl
     rotate_left
     ·simp only[Act.put,qA,qB,qC,i64_w,i32_w];rfl
     refine take_ (i:=3) (N:=some 14) (v:=?_) (a':=?_) Mk4_5 rfl rfl (take_ofW ak.out bk.out (by kernel_rfl)) (fun _ _ _ h=>h) (Or.inl ⟨by rfl,?_⟩) hHeld ?_ ?_;rotate_left
     ·rintro w' ⟨s0,s1,s2,s3⟩;go_simp;with_reducible rfl
     rotate_left
     ·simp only[Act.put,qA,qB,qC,i64_w,i32_w];rfl
     refine pure_ (i:=5) (N:=some 16) (v:=?_) (a':=?_) Mk4_6 rfl rfl (any_of ak.out (by kernel_rfl)) (fun _ _ _ h=>h) (Or.inl ⟨by rfl,?_⟩) ?_ ?_;rotate_left
     ·intro w';go_simp;with_reducible rfl
     rotate_left
     ·simp only[Act.put,qA,qB,qC,i64_w,i32_w];rfl
     refine take_ (i:=6) (N:=some 17) (v:=?_) (a':=?_) Mk4_7 rfl rfl (take_ofW ak.out bk.out (by kernel_rfl)) (fun _ _ _ h=>h) (Or.inl ⟨by rfl,?_⟩) hHeld ?_ ?_;rotate_left
     ·rintro w' ⟨s0,s1,s2,s3⟩;go_simp;with_reducible rfl
     rotate_left
     ·simp only[Act.put,qA,qB,qC,i64_w,i32_w];rfl
     refine one_ (i:=7) (N:=some 18) Mk4_8 rfl rfl (one_of ak.out (by kernel_rfl)) (by decide) (fun K hK=>?_);refine goes_ Try.func99 (by kernel_rfl) rfl #[.int .i64 af,.slice ax (rd_L1 I J).length ay] (by rfl) rfl rfl (by(try simp only[List.map_toArray,List.map_cons,List.map_nil]);first|done|rfl|(simp only[List.length_drop,List.length_take];rfl)) ?_;with_reducible refine(spec_l10Tidy.calls k1 af _ _ (rd_L1 I J) false _ ?side1 ?side2 A5.out).mono ?_
     (case side1=>exact cZ (Kd.C_below aq.out HB.out));(case side2=>exact aV.out);rintro e w12 ⟨rfl,hb⟩;refine⟨_,rfl,?_⟩;replace o:=bU o hb;replace HB:=bW HB hb;(try clear hb);(try clear hb2);(try clear hk);(try clear hi);refine hK.out _ _ ⟨(bkC o.out 0).trans rfl,(bkC o.out 1).trans rfl,(bkC o.out 2).trans rfl,((HB.out.cell (World.block_lt_of_cell? w _ ad)).trans ad)⟩ (fun hHeld=>?_);clear hK K;refine norm_ (a':=?_) ?_ ?_;rotate_left
     ·show Act.put _ (some 18) _=_
      simp only[Act.put,qA,qB,qC,i64_w,i32_w];rfl
     refine pure_ (i:=8) (N:=some 19) (v:=?_) (a':=?_) Mk4_9 rfl rfl (any_of ak.out (by kernel_rfl)) (fun _ _ _ h=>h) (Or.inl ⟨by rfl,?_⟩) ?_ ?_;rotate_left
     ·intro w';go_simp;with_reducible rfl
     rotate_left
     ·simp only[Act.put,qA,qB,qC,i64_w,i32_w];rfl
     refine done_ (done_of ak.out (by kernel_rfl)) ?_;try go_wp2
     go_ret;exact⟨by first|rfl|(simp[*,errW_none,errW_some]<;>rfl),wZ HB⟩
   ·rw[if_neg c3]at H;have bn:decide (J<(I.length:Int))=false:=decide_eq_false c3;clear c3;replace H:=Option.bind_eq_some_iff.mp H;obtain⟨t181,cj,H⟩:=H;try dsimp only at H
    have cQ:=Asd.mk cj;clear cj;by_cases ba:t181=true
    ·subst ba;rw[if_pos rfl]at H;obtain rfl:=Option.some.inj H;obtain⟨cR,cS,cT,cU,cV,cW⟩:=b3 o;go_wp2_with (first|((with_reducible refine gate_callee (f:=99) rfl ?_);refine gsM (some 24) rfl rfl Try.func99 (by kernel_rfl) rfl #[.int .i64 af,.slice az ag.length aA] rfl ?_;(with_reducible refine(spec_l10Tidy.calls k1 af _ _ ag true _ ?side1 ?side2 cQ.out).mono ?_);(case side1=>exact cZ (Kd.C_below b6.out HB.out));(case side2=>exact b7.out);rintro e w16 ⟨rfl,hb⟩;refine⟨_,rfl,?_⟩;replace o:=bU o hb;replace HB:=bW HB hb;(try clear hb);(try clear hb2);(try clear hk);(try clear hi);obtain⟨cX,cY,c0,da,db,dc⟩:=b3 o));go_ret;exact⟨by first|rfl|(simp[*,errW_none,errW_some]<;>rfl),wZ HB⟩
    ·replace ba:=Bool.eq_false_iff.mpr ba;subst ba;rw[if_neg (show¬(false=true) by decide)]at H;obtain rfl:=Option.some.inj H;obtain⟨dd,de,df,dg,dh,di⟩:=b3 o;go_wp2_with (first|((with_reducible refine gate_callee (f:=99) rfl ?_);refine gsM (some 24) rfl rfl Try.func99 (by kernel_rfl) rfl #[.int .i64 af,.slice az ag.length aA] rfl ?_;(with_reducible refine(spec_l10Tidy.calls k1 af _ _ ag false _ ?side1 ?side2 cQ.out).mono ?_);(case side1=>exact cZ (Kd.C_below b6.out HB.out));(case side2=>exact b7.out);rintro e w19 ⟨rfl,hb⟩;refine⟨_,rfl,?_⟩;replace o:=bU o hb;replace HB:=bW HB hb;(try clear hb);(try clear hb2);(try clear hk);(try clear hi)));go_ret;exact⟨by first|rfl|(simp[*,errW_none,errW_some]<;>rfl),wZ HB⟩

/-! ### spec_l1All: function 140 (by hand) -/
theorem spec_l1All.nonneg (x y:Int):0≤shl .u64 x y:=by
 unfold shl;rw[show IntKind.u64.wrap (x*2^min y.toNat IntKind.u64.bits)=(x*2^min y.toNat IntKind.u64.bits)%18446744073709551616 from by simp[IntKind.wrap,IntKind.bits,IntKind.signed]];exact Int.emod_nonneg _ (by decide)
def spec_l1All.f (a0:Int):Option (Int):=if 0≤a0 then(some (wrap64 ((shl .i64 1 (shl .u64 1 a0)) - 1)))else(none)
set_option maxHeartbeats 8000000 in
set_option maxRecDepth 100000 in
theorem spec_l1All.calls (a0:Int) (r:Int) (w:World) (h:spec_l1All.f a0=some r):
  Calls Try.prog 140 #[.int .i64 a0] w fun e w'=>e= .returned (.int .i64 r)∧Drawn0 w w':=by
 have H:(if 0≤a0 then(some (wrap64 ((shl .i64 1 (shl .u64 1 a0)) - 1)))else(none))=some r:=h;clear h;by_cases c2:0≤a0;rotate_left;(rw[if_neg c2]at H;exact absurd H (by simp));rw[if_pos c2]at H;have dO:=eq_true c2;have dP:decide (0≤a0)=true:=decide_eq_true c2;clear c2;obtain rfl:=Option.some.inj H;clear H;have p:=spec_l1All.nonneg 1 a0;obtain⟨bu,ca⟩:∃j_:Int,(shl .u64 1 a0)=j_:=⟨_,rfl⟩;rw[ca]at p⊢;have cz:(IntKind.u64.wrap (1*2^min a0.toNat 64))=bu:=ca;have dz:(IntKind.u64.wrap (2^min a0.toNat 64))=bu:=by have h_:=cz;rw[Int.one_mul]at h_;exact h_
 have dS:=eq_true p;have dT:decide (0≤bu)=true:=decide_eq_true p;have dU:decide (bu<0)=false:=decide_eq_false (by omega)
 have e5:wrap64 (2^min bu.toNat 64)=shl .i64 1 bu:=by
  unfold shl;rw[i64_w,Int.one_mul];rfl
 have E5:=Asd.mk e5;clear ca p e5;go_enter Try.func140,Try.ntmps140;go_wp2;go_ret;rw[←E5.out];exact⟨rfl,Drawn0.refl _⟩

/-! ### spec_l1Bit: function 146 -/
def spec_l1Bit.f (a0:Int) (a1:Int):Option (Int):=if 0≤a1 then(some (Int.tmod (shr .i64 a0 a1) 2))else(none)
set_option maxHeartbeats 8000000 in
set_option maxRecDepth 100000 in
theorem spec_l1Bit.calls (a0:Int) (a1:Int) (r:Int) (w:World) (h:spec_l1Bit.f a0 a1=some r):
  Calls Try.prog 146 #[.int .i64 a0,.int .i64 a1] w fun e w'=>e= .returned (.int .i64 r)∧Drawn0 w w':=by
 have H:(if 0≤a1 then(some (Int.tmod (shr .i64 a0 a1) 2))else(none))=some r:=h;clear h;by_cases c3:0≤a1;rotate_left;(rw[if_neg c3]at H;exact absurd H (by simp));rw[if_pos c3]at H;have bn:=eq_true c3;have dQ:decide (0≤a1)=true:=decide_eq_true c3;clear c3;obtain⟨cA,bg⟩:∃j_:Int,(shr .i64 a0 a1)=j_:=⟨_,rfl⟩;replace H:(some (Int.tmod (cA) 2))=some r:=by first|(rw[bg]at H;exact H)|(simp only[bg]at H⊢;exact H)
 have dA:(a0/2^min a1.toNat 64)=cA:=bg;have dB:a1≤64→(a0/2^a1.toNat)=cA:=shr_small bg;obtain rfl:=Option.some.inj H;go_enter Try.func146,Try.ntmps146;go_wp2;go_ret;exact⟨by first|rfl|(simp;done)|(simp only[←bg]<;>(first|rfl|simp))|(simp[*];done),by repeat(first|exact Drawn0.refl _|apply Drawn0.step)⟩

/-! ### spec_l1Both: function 141 -/
def spec_l1Both.l0:Nat→Int→Int→Int→Int→Option (Int)
 |0,_,_,_,_=>none
 |k+1,x0,x1,x5,x6=>if x6<8 then((spec_l1Bit.f x0 x6).bind fun t182=>((spec_l1Bit.f x1 x6).bind fun t183=>(if 0≤x6 then(spec_l1Both.l0 k x0 x1 (wrap64 (x5+(shl .i64 (wrap64 (t182*t183)) x6))) (wrap64 (x6+1)))else(none))))else(some x5)
def spec_l1Both.f (k:Nat) (a0:Int) (a1:Int):Option (Int):=spec_l1Both.l0 k a0 a1 0 0
theorem spec_l1Both.mono_l:∀k,(∀y0 y1 y2 y3,LeO (spec_l1Both.l0 k y0 y1 y2 y3) (spec_l1Both.l0 (k+1) y0 y1 y2 y3))
 |0=>fun _ _ _ _ r h=>by simp[spec_l1Both.l0]at h
 |k+1=>by
  have al:=spec_l1Both.mono_l k
  ·intro y0 y1 y2 y3;unfold spec_l1Both.l0;repeat' first
   |(with_reducible first|exact al _ _ _ _|exact LeO.refl _|exact LeO.none _|refine LeO.ite ?_ ?_|refine LeO.bind ?_ (fun _=>?_))
   |refine LeO.ite ?_ ?_
   |refine LeO.bind ?_ (fun _=>?_)
theorem spec_l1Both.mono:∀a0 a1 k,LeO (spec_l1Both.f k a0 a1) (spec_l1Both.f (k+1) a0 a1):=by
 intro a0 a1 k;have al:=spec_l1Both.mono_l k;unfold spec_l1Both.f
 repeat' first
   |(with_reducible first|exact al _ _ _ _|exact LeO.refl _|exact LeO.none _|refine LeO.ite ?_ ?_|refine LeO.bind ?_ (fun _=>?_))
   |refine LeO.ite ?_ ?_
   |refine LeO.bind ?_ (fun _=>?_)
set_option maxHeartbeats 8000000 in
set_option maxRecDepth 100000 in
theorem spec_l1Both.calls (k:Nat) (a0:Int) (a1:Int) (r:Int) (w:World) (h:spec_l1Both.f k a0 a1=some r):
  Calls Try.prog 141 #[.int .i64 a0,.int .i64 a1] w fun e w'=>e= .returned (.int .i64 r)∧Drawn0 w w':=by
 have H:(spec_l1Both.l0 k a0 a1 0 0)=some r:=h;clear h;have H':=Asd.mk H;clear H;go_enter Try.func141,Try.ntmps141;go_wp2;go_loopg [5,6] k (fun kq v5 v6 w'=>∃(ae:Int) (j:Int),v5= .int .i64 ae∧v6= .int .i64 j∧Asd (spec_l1Both.l0 kq a0 a1 ae j=some r)∧Asd (kq≤k)∧Drawn0 w w')
 case atStart=>exact⟨(0),(0),(by first|rfl|(simp;done)|(simp[*];done)),(by first|rfl|(simp;done)|(simp[*];done)),H',⟨Nat.le_refl _⟩,by repeat(first|exact Drawn0.refl _|apply Drawn0.step)⟩
 case round=>
  clear H';obtain⟨ae,j,rfl,rfl,HA,aj,⟨m1,rfl⟩⟩:=hrel;cases gk with
  |zero=>exact absurd HA.out (by simp[spec_l1Both.l0])
  |succ k1=>
   have H:=HA.out;clear HA;simp only[spec_l1Both.l0]at H;by_cases c3:j<8
   ·rw[if_pos c3]at H;have bn:decide (j<8)=true:=decide_eq_true c3;clear c3;replace H:=Option.bind_eq_some_iff.mp H;obtain⟨t182,dj,H⟩:=H;try dsimp only at H
    have A4:=Asd.mk dj;clear dj;replace H:=Option.bind_eq_some_iff.mp H;obtain⟨t183,bd,H⟩:=H;try dsimp only at H
    have A5:=Asd.mk bd;clear bd;by_cases c6:0≤j;rotate_left;(rw[if_neg c6]at H;exact absurd H (by simp));rw[if_pos c6]at H;have a6:=eq_true c6;have dR:decide (0≤j)=true:=decide_eq_true c6;clear c6;obtain⟨bw,aW⟩:∃j_:Int,(shl .i64 (wrap64 (t182*t183)) j)=j_:=⟨_,rfl⟩;replace H:(spec_l1Both.l0 k1 a0 a1 (wrap64 (ae+(bw))) (wrap64 (j+1)))=some r:=by first|(rw[aW]at H;exact H)|(simp only[aW]at H⊢;exact H)
    (try rw[aW]at A4);(try rw[aW]at A5);have cB:(IntKind.i64.wrap ((wrap64 (t182*t183))*2^min j.toNat 64))=bw:=aW;have cC:j≤64→(IntKind.i64.wrap ((wrap64 (t182*t183))*2^j.toNat))=bw:=shl_small aW;have dC:(wrap64 ((wrap64 (t182*t183))*2^min j.toNat 64))=bw:=(i64_w _).symm.trans cB;have dD:j≤64→(wrap64 ((wrap64 (t182*t183))*2^j.toNat))=bw:=fun h_=>(i64_w _).symm.trans (cC h_)
    have H':=Asd.mk H;clear H;go_wp2_with (first|((with_reducible refine gate_callee (f:=146) rfl ?_);refine gsM (some 14) rfl rfl Try.func146 (by kernel_rfl) rfl #[.int .i64 a0,.int .i64 j] rfl ?_;(with_reducible refine(spec_l1Bit.calls a0 j t182 _ A4.out).mono ?_);rintro e w' ⟨rfl,⟨nd,rfl⟩⟩;refine⟨_,rfl,?_⟩)|((with_reducible refine gate_callee (f:=146) rfl ?_);refine gsM (some 17) rfl rfl Try.func146 (by kernel_rfl) rfl #[.int .i64 a1,.int .i64 j] rfl ?_;(with_reducible refine(spec_l1Bit.calls a1 j t183 _ A5.out).mono ?_);rintro e w' ⟨rfl,⟨nd,rfl⟩⟩;refine⟨_,rfl,?_⟩));go_roundg k1
    case measure=>have:=aj.out;omega
    case rel=>exact⟨(wrap64 (ae+(bw))),(wrap64 (j+1)),(by first|rfl|(simp;done)|(simp only[←aW]<;>(first|rfl|simp))|(simp[*];done)),(by first|rfl|(simp;done)|(simp[*];done)),H',⟨by have:=aj.out;omega⟩,by repeat(first|exact Drawn0.refl _|apply Drawn0.step)⟩
   ·rw[if_neg c3]at H;have bn:decide (j<8)=false:=decide_eq_false c3;clear c3;obtain rfl:=Option.some.inj H;go_wp2;go_ret;exact⟨by first|rfl|(simp;done)|(simp[*];done),by repeat(first|exact Drawn0.refl _|apply Drawn0.step)⟩

/-! ### spec_l1Either: function 142 -/
def spec_l1Either.f (k:Nat) (a0:Int) (a1:Int):Option (Int):=(spec_l1Both.f k a0 a1).bind fun t184=>(some (wrap64 ((wrap64 (a0+a1)) - t184)))
theorem spec_l1Either.mono:∀a0 a1 k,LeO (spec_l1Either.f k a0 a1) (spec_l1Either.f (k+1) a0 a1):=by
 intro a0 a1 k;unfold spec_l1Either.f
 repeat' first
   |(with_reducible first|exact spec_l1Both.mono _ _ _|exact LeO.refl _|exact LeO.none _|refine LeO.ite ?_ ?_|refine LeO.bind ?_ (fun _=>?_))
   |refine LeO.ite ?_ ?_
   |refine LeO.bind ?_ (fun _=>?_)
set_option maxHeartbeats 8000000 in
set_option maxRecDepth 100000 in
theorem spec_l1Either.calls (k:Nat) (a0:Int) (a1:Int) (r:Int) (w:World) (h:spec_l1Either.f k a0 a1=some r):
  Calls Try.prog 142 #[.int .i64 a0,.int .i64 a1] w fun e w'=>e= .returned (.int .i64 r)∧Drawn0 w w':=by
 have H:((spec_l1Both.f k a0 a1).bind fun t184=>(some (wrap64 ((wrap64 (a0+a1)) - t184))))=some r:=h;clear h;replace H:=Option.bind_eq_some_iff.mp H;obtain⟨t184,bO,H⟩:=H;try dsimp only at H
 have A3:=Asd.mk bO;clear bO;obtain rfl:=Option.some.inj H;go_enter Try.func142,Try.ntmps142;go_wp2_with (first|((with_reducible refine gate_callee (f:=141) rfl ?_);refine gsM (some 10) rfl rfl Try.func141 (by kernel_rfl) rfl #[.int .i64 a0,.int .i64 a1] rfl ?_;(with_reducible refine(spec_l1Both.calls k a0 a1 t184 _ A3.out).mono ?_);rintro e w' ⟨rfl,⟨nd,rfl⟩⟩;refine⟨_,rfl,?_⟩));go_ret;exact⟨by first|rfl|(simp;done)|(simp[*];done),by repeat(first|exact Drawn0.refl _|apply Drawn0.step)⟩

end Go.Proofs.Ytihgpkohglcijaa.P
