-- Written by a program of this session (wip/hook.py), which runs the kit's printer; Lean checks it.
import Derived.Test.YtihgpkohglcijaaPx0
import Derived.Test.YtihgpkohglcijaaPx2
namespace Go.Proofs.Ytihgpkohglcijaa.P
open Go.RowKit Go.Proofs.YtihgpkohglcijaaW.PrintWords Go.Proofs.YtihgpkohglcijaaW.PrintLast Go.Proofs.YtihgpkohglcijaaW.PrintMore
attribute [local go_sem] max2_int min2_int max_two min_two max_three min_three max_four min_four   -- for this text's walks alone
set_option linter.unusedVariables false
set_option linter.unusedSimpArgs false

/-! ### spec_l20Rd_pick: function 82 -/
def spec_l20Rd_pick.j0:Nat→Int→Bool→List Int→Int→Option (Int×Int)
 |0,_,_,_,_=>none
 |k+1,x1,x24,x1000,x1001=>if x24=true then(some (0,x1001))else(if(wrap64 (x1001 - 1))<(x1000.length:Int)then(if 0≤(wrap64 (x1001 - 1))then(if x1=0 then(none)else(some (Int.tmod (wrap64 (rd x1000 (wrap64 (x1001 - 1)))) x1,x1001)))else(none))else(if(x1000.length:Int)=0 then(none)else(if 0≤(Int.tmod (wrap64 (x1001 - 1)) (x1000.length:Int))then(if(Int.tmod (wrap64 (x1001 - 1)) (x1000.length:Int))<(x1000.length:Int)then(if 0≤(Int.tmod (wrap64 ((wrap64 ((wrap64 (x1001 - 1))*7))+3)) (x1000.length:Int))then(if(Int.tmod (wrap64 ((wrap64 ((wrap64 (x1001 - 1))*7))+3)) (x1000.length:Int))<(x1000.length:Int)then(if x1=0 then(none)else(some (Int.tmod (Go.bits .xor .i64 (wrap64 ((wrap64 ((wrap64 ((wrap64 ((wrap64 (rd x1000 (Int.tmod (wrap64 (x1001 - 1)) (x1000.length:Int))))*131))+(wrap64 ((wrap64 (rd x1000 (Int.tmod (wrap64 ((wrap64 ((wrap64 (x1001 - 1))*7))+3)) (x1000.length:Int))))*1117))))+(wrap64 ((wrap64 (x1001 - 1))*29))))+(wrap64 ((wrap64 (Int.tdiv (wrap64 (x1001 - 1)) (x1000.length:Int)))*53)))) (wrap64 (Int.tdiv (wrap64 ((wrap64 ((wrap64 ((wrap64 ((wrap64 (rd x1000 (Int.tmod (wrap64 (x1001 - 1)) (x1000.length:Int))))*131))+(wrap64 ((wrap64 (rd x1000 (Int.tmod (wrap64 ((wrap64 ((wrap64 (x1001 - 1))*7))+3)) (x1000.length:Int))))*1117))))+(wrap64 ((wrap64 (x1001 - 1))*29))))+(wrap64 ((wrap64 (Int.tdiv (wrap64 (x1001 - 1)) (x1000.length:Int)))*53)))) 64))) x1,x1001)))else(none))else(none))else(none))else(none))))
def spec_l20Rd_pick.f (k:Nat) (j:List Int) (o:Int) (a1:Int):Option (Int×Int):=if a1<1 then(spec_l20Rd_pick.j0 k a1 true j (wrap64 (o+1)))else(spec_l20Rd_pick.j0 k a1 ((j.length:Int)==0) j (wrap64 (o+1)))
theorem spec_l20Rd_pick.mono_l:∀k,(∀y0 y1 y2 y3,LeO (spec_l20Rd_pick.j0 k y0 y1 y2 y3) (spec_l20Rd_pick.j0 (k+1) y0 y1 y2 y3))
 |0=>fun _ _ _ _ r h=>by simp[spec_l20Rd_pick.j0]at h
 |k+1=>by
  have af:=spec_l20Rd_pick.mono_l k
  ·intro y0 y1 y2 y3;unfold spec_l20Rd_pick.j0;repeat' first
   |(with_reducible first|exact af _ _ _ _|exact LeO.refl _|exact LeO.none _|refine LeO.ite ?_ ?_|refine LeO.bind ?_ (fun _=>?_))
   |refine LeO.ite ?_ ?_
   |refine LeO.bind ?_ (fun _=>?_)
theorem spec_l20Rd_pick.mono:∀a0 a1 a2 k,LeO (spec_l20Rd_pick.f k a0 a1 a2) (spec_l20Rd_pick.f (k+1) a0 a1 a2):=by
 intro a0 a1 a2 k;have af:=spec_l20Rd_pick.mono_l k;unfold spec_l20Rd_pick.f
 repeat' first
   |(with_reducible first|exact af _ _ _ _|exact LeO.refl _|exact LeO.none _|refine LeO.ite ?_ ?_|refine LeO.bind ?_ (fun _=>?_))
   |refine LeO.ite ?_ ?_
   |refine LeO.bind ?_ (fun _=>?_)
set_option maxHeartbeats 8000000 in
set_option maxRecDepth 100000 in
theorem spec_l20Rd_pick.calls (k:Nat) (g:Nat) (j:List Int) (o:Int) (a1:Int) (r1:Int) (r2:Int) (w0 w:World) (hI:Iz w0 w g j o) (hB:Below w0.heap.size w0 w) (h:spec_l20Rd_pick.f k j o a1=some (r1,r2)):
  Calls Try.prog 82 #[.pointer (some ⟨g,0,none⟩),.int .i64 a1] w fun e w'=>e= .returned (.int .i64 r1)∧Iz w0 w' g j r2∧Below w0.heap.size w0 w'∧Kbt w w' g none:=by
 have J:=Asd.mk hI;have HK:=Asd.mk (Kbt.refl w g none);have HL:=Asd.mk hB.size;clear hI;have eE:=Asd.mk hB.size;have HB:=Asd.mk hB;clear hB;have H:(if a1<1 then(spec_l20Rd_pick.j0 k a1 true j (wrap64 (o+1)))else(spec_l20Rd_pick.j0 k a1 ((j.length:Int)==0) j (wrap64 (o+1))))=some (r1,r2):=h;clear h;have cp:=Asd.mk H;clear H;obtain⟨eg,eh,aV,cS,ei⟩:=J.out;have ej:=cellS118_0 aV;have ek:=cellS118_1 aV;have el:=bkF aV 1;clear aV cS;go_enter Try.func82,Try.ntmps82;go_upto_region 2 with(fail)
 repeat(go_quiet (fail);go_upto_region 2 with(fail))
 go_cut [24] (fun v24 wc=>∃(kq:Nat) (aC:Bool),v24= .bool aC∧Asd (spec_l20Rd_pick.j0 kq a1 aC j (wrap64 (o+1))=some (r1,r2))∧Asd (kq≤k)∧Asd (Iz w0 wc g j (wrap64 (o+1)))∧Asd (Kbt w wc g none)∧Asd (Below w0.heap.size w0 wc))
 case first=>
  have H:=cp.out;clear cp;rcases iT H with⟨c5,H⟩|⟨c5,H⟩
  ·have aG:=decide_eq_true c5;clear c5;(first|rw[aG]|(simp only[i64_w,i32_w];rw[aG])|skip);have H':=Asd.mk H;clear H;go_wp2;repeat(go_quiet (fail);try go_wp2)
   go_meet
   case rel=>exact⟨_,(true),(by first|rfl|(simp;done)|(simp[*];done)),H',⟨by first|omega|exact Nat.le_refl _⟩,⟨Iz.z J⟩,⟨kZ HK⟩,⟨wI HB (Iz.ge J.out)⟩⟩
  ·have aG:=decide_eq_false c5;clear c5;(first|rw[aG]|(simp only[i64_w,i32_w];rw[aG])|skip);have H':=Asd.mk H;clear H;obtain⟨en,eo,aW,cT,ep⟩:=J.out;have er:=cellS118_0 aW;have et:=cellS118_1 aW;have eu:=bkF aW 1;clear aW cT;go_wp2;repeat(go_quiet (fail);try go_wp2)
   go_meet
   case rel=>exact⟨_,(((j.length:Int)==0)),(by first|rfl|(simp;done)|(simp[*];done)),H',⟨by first|omega|exact Nat.le_refl _⟩,⟨Iz.z J⟩,⟨kZ HK⟩,⟨wI HB (Iz.ge J.out)⟩⟩
 case rest=>
  clear cp;obtain⟨kq,aC,rfl,HA,fv,J,HK,HB⟩:=hcut;cases kq with
  |zero=>exact absurd HA.out (by simp[spec_l20Rd_pick.j0])
  |succ kj2=>
   have H:=HA.out;clear HA;simp only[spec_l20Rd_pick.j0]at H;by_cases c7:aC=true
   ·subst c7;rw[if_pos rfl]at H;obtain⟨rfl,rfl⟩:=s2 H;go_wp2;repeat(go_quiet (fail);try go_wp2)
    go_ret;exact⟨by first|rfl|(simp[*,errW_none,errW_some]<;>rfl),Iz.z J,wI HB (Iz.ge J.out),kZ HK⟩
   ·replace c7:=Bool.eq_false_iff.mpr c7;subst c7;rw[if_neg (show¬(false=true) by decide)]at H;rcases iT H with⟨c8,H⟩|⟨c8,H⟩
    ·have cn:=decide_eq_true c8;clear c8;obtain⟨cg,aH⟩:∃j_:Int,(wrap64 ((wrap64 (o+1)) - 1))=j_:=⟨_,rfl⟩;first|rw[aH]at H|simp only[aH]at H
     (try rw[aH]at cn);have eF:(IntKind.i64.wrap ((wrap64 (o+1)) - 1))=cg:=(i64_w _).trans aH;obtain⟨c10,H⟩:=iN H;have eG:=decide_eq_true c10;clear c10;rcases iT H with⟨aA,H⟩|⟨aA,H⟩
     ·exact absurd H (by simp)
     ·have bp:(a1==0)=false:=beq_eq_false_iff_ne.mpr aA;have bq:(a1 !=0)=true:=bne_iff_ne.mpr aA;obtain⟨rfl,rfl⟩:=s2 H;obtain⟨cU,cV,aD,cq,br⟩:=J.out;have cW:=cellS118_0 aD;have cX:=cellS118_1 aD;have cY:=bkF aD 1;clear aD cq;have bs:0≤((cg):Int):=odt;have bu:(cg)<(j.length:Int):=odt;obtain⟨eH,c0,aI⟩:=Kd.at_int br (cg) bs bu;cases c0;replace aI:=pw_cell_below HB.out aI;replace bs:=eq_true bs;replace bu:=eq_true bu;go_wp2;repeat(go_quiet (fail);try go_wp2)
      go_ret;exact⟨by first|rfl|(simp[errW_none,errW_some]<;>rfl)|(simp only[←aH];first|rfl|(simp[errW_none,errW_some]<;>rfl))|(simp[*,errW_none,errW_some]<;>rfl),Iz.z J,wI HB (Iz.ge J.out),kZ HK⟩
    ·have cn:=decide_eq_false c8;clear c8;rcases iT H with⟨ch,H⟩|⟨ch,H⟩
     ·exact absurd H (by simp)
     ·have eI:((j.length:Int)==0)=false:=beq_eq_false_iff_ne.mpr ch;have eJ:((j.length:Int) !=0)=true:=bne_iff_ne.mpr ch;have eK:¬(j= []):=fun h_=>ch (by rw[h_];rfl)
      obtain⟨bw,aQ⟩:∃j_:Int,(Int.tmod (wrap64 ((wrap64 (o+1)) - 1)) (j.length:Int))=j_:=⟨_,rfl⟩;first|rw[aQ]at H|simp only[aQ]at H
      obtain⟨da,H⟩:=iN H;have eL:=decide_eq_true da;clear da;obtain⟨aR,H⟩:=iN H;have eM:=decide_eq_true aR;clear aR;obtain⟨bx,aS⟩:∃j_:Int,(Int.tmod (wrap64 ((wrap64 ((wrap64 ((wrap64 (o+1)) - 1))*7))+3)) (j.length:Int))=j_:=⟨_,rfl⟩;first|rw[aS]at H|simp only[aS]at H
      obtain⟨db,H⟩:=iN H;have eN:=decide_eq_true db;clear db;obtain⟨aJ,H⟩:=iN H;have bz:=decide_eq_true aJ;clear aJ;rcases iT H with⟨bb,H⟩|⟨bb,H⟩
      ·exact absurd H (by simp)
      ·have cr:(a1==0)=false:=beq_eq_false_iff_ne.mpr bb;have eO:(a1 !=0)=true:=bne_iff_ne.mpr bb;obtain⟨rfl,rfl⟩:=s2 H;obtain⟨dc,dd,aE,ct,aK⟩:=J.out;have de:=cellS118_0 aE;have df:=cellS118_1 aE;have dg:=bkF aE 1;clear aE ct;have bA:0≤((bw):Int):=odt;have bB:(bw)<(j.length:Int):=odt;obtain⟨cu,dh,aL⟩:=Kd.at_int aK (bw) bA bB;cases dh;replace aL:=pw_cell_below HB.out aL;replace bA:=eq_true bA;replace bB:=eq_true bB;have bD:0≤((bx):Int):=odt;have bF:(bx)<(j.length:Int):=odt;obtain⟨cv,di,aM⟩:=Kd.at_int aK (bx) bD bF;obtain rfl:cu=cv:=(by injection di);replace aM:=pw_cell_below HB.out aM;replace bD:=eq_true bD;replace bF:=eq_true bF;go_wp2;repeat(go_quiet (fail);try go_wp2)
       go_ret;exact⟨by first|rfl|(simp[errW_none,errW_some]<;>rfl)|(simp only[←aQ,←aS];first|rfl|(simp[errW_none,errW_some]<;>rfl))|(simp[*,errW_none,errW_some]<;>rfl),Iz.z J,wI HB (Iz.ge J.out),kZ HK⟩

/-! ### spec_l20Rd_odd: function 81 -/
def spec_l20Rd_odd.f (k:Nat) (j:List Int) (o:Int) (a1:Int):Option (Bool×Int):=if a1>0 then((spec_l20Rd_pick.f k j o a1).bind fun ak=>(some ((ak.1==(wrap64 (a1 - 1))),ak.2)))else(some (false,o))
theorem spec_l20Rd_odd.mono:∀a0 a1 a2 k,LeO (spec_l20Rd_odd.f k a0 a1 a2) (spec_l20Rd_odd.f (k+1) a0 a1 a2):=by
 intro a0 a1 a2 k;unfold spec_l20Rd_odd.f
 repeat' first
   |(with_reducible first|exact spec_l20Rd_pick.mono _ _ _ _|exact LeO.refl _|exact LeO.none _|refine LeO.ite ?_ ?_|refine LeO.bind ?_ (fun _=>?_))
   |refine LeO.ite ?_ ?_
   |refine LeO.bind ?_ (fun _=>?_)
set_option maxHeartbeats 8000000 in
set_option maxRecDepth 100000 in
theorem spec_l20Rd_odd.calls (k:Nat) (g:Nat) (j:List Int) (o:Int) (a1:Int) (r1:Bool) (r2:Int) (w0 w:World) (hI:Iz w0 w g j o) (hB:Below w0.heap.size w0 w) (h:spec_l20Rd_odd.f k j o a1=some (r1,r2)):
  Calls Try.prog 81 #[.pointer (some ⟨g,0,none⟩),.int .i64 a1] w fun e w'=>e= .returned (.bool r1)∧Iz w0 w' g j r2∧Below w0.heap.size w0 w'∧Kbt w w' g none:=by
 have J:=Asd.mk hI;have HK:=Asd.mk (Kbt.refl w g none);have HL:=Asd.mk hB.size;clear hI;have eE:=Asd.mk hB.size;have HB:=Asd.mk hB;clear hB;have H:(if a1>0 then((spec_l20Rd_pick.f k j o a1).bind fun ak=>(some ((ak.1==(wrap64 (a1 - 1))),ak.2)))else(some (false,o)))=some (r1,r2):=h;clear h;rcases iT H with⟨c3,H⟩|⟨c3,H⟩
 ·have aY:=decide_eq_true c3;clear c3;obtain⟨⟨t190,t191⟩,A4,H⟩:=bE H;try dsimp only at H
  obtain⟨rfl,rfl⟩:=s2 H;go_enter Try.func81,Try.ntmps81;go_wp2_with (first|(go_at_call 82;(with_reducible refine(spec_l20Rd_pick.calls k g j o a1 t190 t191 w0 _ ?side1 ?side2 A4.out).mono ?_);(case side1=>exact Iz.z J);(case side2=>repeat(with_reducible first|exact HB.out|apply bwX|refine bwS ?_ (Iz.ge J.out)));rintro e w5 ⟨rfl,hi,hb,hk⟩;replace HK:=Asd.mk (Kbt.trans (kZ HK) hk (.inl rfl));replace HB:=Asd.mk (hb);replace J:=Asd.mk (hi);clear hb hk hi));go_ret;exact⟨by first|rfl|(simp[*,errW_none,errW_some]<;>rfl),Iz.z J,wI HB (Iz.ge J.out),kZ HK⟩
 ·have aY:=decide_eq_false c3;clear c3;obtain⟨rfl,rfl⟩:=s2 H;go_enter Try.func81,Try.ntmps81;go_wp2;go_ret;exact⟨by first|rfl|(simp[*,errW_none,errW_some]<;>rfl),Iz.z J,wI HB (Iz.ge J.out),kZ HK⟩

/-! ### spec_MindNew: function 42 -/
def spec_MindNew.f (k:Nat) (a0:Int) (l1:List Int):Option (Int×List Int×(List (List Int))):=(spec_RankOk.f k a0 l1).bind fun t193=>(if t193=true then((spec_TidyRank.f k a0 l1).bind fun t194=>(some (a0,t194,([]:List (List Int)))))else(some (0,([]:List Int),([]:List (List Int)))))
theorem spec_MindNew.mono:∀a0 a1 k,LeO (spec_MindNew.f k a0 a1) (spec_MindNew.f (k+1) a0 a1):=by
 intro a0 a1 k;unfold spec_MindNew.f
 repeat' first
   |(with_reducible first|exact spec_RankOk.mono _ _ _|exact spec_TidyRank.mono _ _ _|exact LeO.refl _|exact LeO.none _|refine LeO.ite ?_ ?_|refine LeO.bind ?_ (fun _=>?_))
   |refine LeO.ite ?_ ?_
   |refine LeO.bind ?_ (fun _=>?_)
set_option maxHeartbeats 8000000 in
set_option maxRecDepth 100000 in
theorem spec_MindNew.calls (k:Nat) (a0:Int) (A1:Option Addr) (c1:Nat) (l1:List Int) (r1:Int) (r2:List Int) (r3:List (List Int)) (w:World) (dj:Kd.C (Kd.int .i64) w A1 l1.length l1) (dk:l1.length≤c1) (h:spec_MindNew.f k a0 l1=some (r1,r2,r3)):
  Calls Try.prog 42 #[.int .i64 a0,.slice A1 l1.length c1] w fun e w'=>∃cw dm:Value,e= .returned (.agg #[.int .i64 r1,cw,dm])∧Kd.R (Kd.int .i64) 3 w' w.heap.size (fun _=>True) cw r2∧Kd.S (Kd.slice 3 (Kd.int .i64)) 55 w' w.heap.size (fun k_=>some k_≠(cw:Value).ownBlock) dm r3∧Below w.heap.size w w':=by
 have fg:=Try.underlying58;have cx:=Asd.mk dj;have cy:=Asd.mk dk;clear dj dk;have HB:=Asd.mk (Below.refl w.heap.size w);have H:((spec_RankOk.f k a0 l1).bind fun t193=>(if t193=true then((spec_TidyRank.f k a0 l1).bind fun t194=>(some (a0,t194,([]:List (List Int)))))else(some (0,([]:List Int),([]:List (List Int))))))=some (r1,r2,r3):=h;clear h;obtain⟨t193,A3,H⟩:=bE H;try dsimp only at H
 by_cases c4:t193=true
 ·subst c4;rw[if_pos rfl]at H;obtain⟨t194,A5,H⟩:=bE H;try dsimp only at H
  obtain⟨rfl,rfl,rfl⟩:=s3 H;go_enter Try.func42,Try.ntmps42;go_wp2_with (first|((with_reducible refine gate_dst (N:=4) rfl ?_);refine bxA 4 #[.int .i64 0,.slice none 0 0,.slice none 0 0] 58 ?_;intro aT hg w6 aN hb;have aa:=Asd.mk (aN);have cz:=bG HB hg;have cA:=bG HB hg;replace HB:=bW HB hb;clear hb aN hg)|((with_reducible refine gate_callee (f:=59) rfl ?_);refine gB (some 7) Try.func59 #[.int .i64 a0,.slice A1 l1.length c1] rfl ?_;(with_reducible refine(spec_RankOk.calls k a0 _ _ l1 true _ ?side1 ?side2 A3.out).mono ?_);(case side1=>exact cZ (Kd.C_below cx.out HB.out));(case side2=>exact cy.out);rintro e w7 ⟨rfl,hb⟩;refine⟨_,rfl,?_⟩;replace aa:=bU aa hb;replace HB:=bW HB hb;clear hb)|((with_reducible refine gate_callee (f:=89) rfl ?_);refine gB (some 13) Try.func89 #[.int .i64 a0,.slice A1 l1.length c1] rfl ?_;(with_reducible refine(spec_TidyRank.calls k a0 _ _ l1 t194 _ ?side1 ?side2 A5.out).mono ?_);(case side1=>exact cZ (Kd.C_below cx.out HB.out));(case side2=>exact cy.out);rintro e w8 ⟨fh,rfl,dn,hb⟩;refine⟨_,rfl,?_⟩;have bH:=Asd.mk (Kd.R_lower dn (below_size (wZ HB)));replace aa:=bU aa hb;replace HB:=bW HB hb;clear hb;(try clear dn);obtain⟨eP,eQ,eR⟩:=Kd.R_slice bH.out;subst eR;obtain⟨dp,dq,dr,ds,dt,du⟩:=b3 aa));refine bodyPost_ret (results_cell_row rfl _ _ aT 58 #[.int .i64 a0,.slice eP t194.length eQ,.slice none 0 0] (0,0) _ rfl (kP aa) Try.underlying58 rfl (by kernel_rfl)) rfl ?_;exact⟨_,_,by first|rfl|(simp[*,errW_none,errW_some]<;>rfl),rT bH,by first|exact Kd.S_nil _ _ _ _ _|exact Kd.N_nil _ _ _ _ _|exact Kd.V_nil _ _ _ _ _|exact Kd.Q_nil _ _ _ _ _|exact Kd.R_nil _ _ _ _ _,wZ HB⟩
 ·replace c4:=Bool.eq_false_iff.mpr c4;subst c4;rw[if_neg (show¬(false=true) by decide)]at H;obtain⟨rfl,rfl,rfl⟩:=s3 H;go_enter Try.func42,Try.ntmps42;go_wp2_with (first|((with_reducible refine gate_dst (N:=4) rfl ?_);refine bxA 4 #[.int .i64 0,.slice none 0 0,.slice none 0 0] 58 ?_;intro aT hg w11 aN hb;have aa:=Asd.mk (aN);have cz:=bG HB hg;have cA:=bG HB hg;replace HB:=bW HB hb;clear hb aN hg)|((with_reducible refine gate_callee (f:=59) rfl ?_);refine gB (some 7) Try.func59 #[.int .i64 a0,.slice A1 l1.length c1] rfl ?_;(with_reducible refine(spec_RankOk.calls k a0 _ _ l1 false _ ?side1 ?side2 A3.out).mono ?_);(case side1=>exact cZ (Kd.C_below cx.out HB.out));(case side2=>exact cy.out);rintro e w12 ⟨rfl,hb⟩;refine⟨_,rfl,?_⟩;replace aa:=bU aa hb;replace HB:=bW HB hb;clear hb;obtain⟨dv,dw,dx,dy,dz,dA⟩:=b3 aa));refine bodyPost_ret (results_cell_row rfl _ _ aT 58 #[.int .i64 0,.slice none 0 0,.slice none 0 0] (0,0) _ rfl (kP aa) Try.underlying58 rfl (by kernel_rfl)) rfl ?_;exact⟨_,_,by first|rfl|(simp[*,errW_none,errW_some]<;>rfl),by first|exact Kd.R_nil _ _ _ _ _|exact Kd.N_nil _ _ _ _ _|exact Kd.V_nil _ _ _ _ _|exact Kd.Q_nil _ _ _ _ _|exact Kd.S_nil _ _ _ _ _,by first|exact Kd.S_nil _ _ _ _ _|exact Kd.N_nil _ _ _ _ _|exact Kd.V_nil _ _ _ _ _|exact Kd.Q_nil _ _ _ _ _|exact Kd.R_nil _ _ _ _ _,wZ HB⟩

/-! ### spec_l1All: function 140 (by hand) -/
theorem spec_l1All.nonneg (x y:Int):0≤shl .u64 x y:=by
 unfold shl;rw[show IntKind.u64.wrap (x*2^min y.toNat IntKind.u64.bits)=(x*2^min y.toNat IntKind.u64.bits)%18446744073709551616 from by simp[IntKind.wrap,IntKind.bits,IntKind.signed]];exact Int.emod_nonneg _ (by decide)
def spec_l1All.f (a0:Int):Option (Int):=if 0≤a0 then(some (wrap64 ((shl .i64 1 (shl .u64 1 a0)) - 1)))else(none)
set_option maxHeartbeats 8000000 in
set_option maxRecDepth 100000 in
theorem spec_l1All.calls (a0:Int) (r:Int) (w:World) (h:spec_l1All.f a0=some r):
  Calls Try.prog 140 #[.int .i64 a0] w fun e w'=>e= .returned (.int .i64 r)∧Drawn0 w w':=by
 have H:(if 0≤a0 then(some (wrap64 ((shl .i64 1 (shl .u64 1 a0)) - 1)))else(none))=some r:=h;clear h;obtain⟨c2,H⟩:=iN H;have fi:=eq_true c2;have fj:=decide_eq_true c2;clear c2;obtain rfl:=Option.some.inj H;clear H;have p:=spec_l1All.nonneg 1 a0;obtain⟨bc,bJ⟩:∃j_:Int,(shl .u64 1 a0)=j_:=⟨_,rfl⟩;rw[bJ]at p⊢;have cB:(IntKind.u64.wrap (1*2^min a0.toNat 64))=bc:=bJ;have eS:(IntKind.u64.wrap (2^min a0.toNat 64))=bc:=by have h_:=cB;rw[Int.one_mul]at h_;exact h_
 have fw:=eq_true p;have fx:decide (0≤bc)=true:=decide_eq_true p;have fy:decide (bc<0)=false:=decide_eq_false (by omega)
 have e5:wrap64 (2^min bc.toNat 64)=shl .i64 1 bc:=by
  unfold shl;rw[i64_w,Int.one_mul];rfl
 have E5:=Asd.mk e5;clear bJ p e5;go_enter Try.func140,Try.ntmps140;go_wp2;go_ret;rw[←E5.out];exact⟨rfl,Drawn0.refl _⟩

/-! ### spec_l1Bit: function 146 -/
def spec_l1Bit.f (a0:Int) (a1:Int):Option (Int):=if 0≤a1 then(some (Int.tmod (shr .i64 a0 a1) 2))else(none)
set_option maxHeartbeats 8000000 in
set_option maxRecDepth 100000 in
theorem spec_l1Bit.calls (a0:Int) (a1:Int) (r:Int) (w:World) (h:spec_l1Bit.f a0 a1=some r):
  Calls Try.prog 146 #[.int .i64 a0,.int .i64 a1] w fun e w'=>e= .returned (.int .i64 r)∧Drawn0 w w':=by
 have H:(if 0≤a1 then(some (Int.tmod (shr .i64 a0 a1) 2))else(none))=some r:=h;clear h;obtain⟨c3,H⟩:=iN H;have aY:=eq_true c3;have fk:=decide_eq_true c3;clear c3;obtain⟨dB,aO⟩:∃j_:Int,(shr .i64 a0 a1)=j_:=⟨_,rfl⟩;first|rw[aO]at H|simp only[aO]at H
 have eT:(a0/2^min a1.toNat 64)=dB:=aO;have eU:a1≤64→(a0/2^a1.toNat)=dB:=shr_small aO;obtain rfl:=Option.some.inj H;go_enter Try.func146,Try.ntmps146;go_wp2;go_ret;exact⟨by first|rfl|(simp;done)|(simp only[←aO]<;>(first|rfl|simp))|(simp[*];done),by repeat(first|exact Drawn0.refl _|apply Drawn0.step)⟩

/-! ### spec_l1Both: function 141 -/
def spec_l1Both.l0:Nat→Int→Int→Int→Int→Option (Int)
 |0,_,_,_,_=>none
 |k+1,x0,x1,x5,x6=>if x6<8 then((spec_l1Bit.f x0 x6).bind fun t197=>((spec_l1Bit.f x1 x6).bind fun t198=>(if 0≤x6 then(spec_l1Both.l0 k x0 x1 (wrap64 (x5+(shl .i64 (wrap64 (t197*t198)) x6))) (wrap64 (x6+1)))else(none))))else(some x5)
def spec_l1Both.f (k:Nat) (a0:Int) (a1:Int):Option (Int):=spec_l1Both.l0 k a0 a1 0 0
theorem spec_l1Both.mono_l:∀k,(∀y0 y1 y2 y3,LeO (spec_l1Both.l0 k y0 y1 y2 y3) (spec_l1Both.l0 (k+1) y0 y1 y2 y3))
 |0=>fun _ _ _ _ r h=>by simp[spec_l1Both.l0]at h
 |k+1=>by
  have af:=spec_l1Both.mono_l k
  ·intro y0 y1 y2 y3;unfold spec_l1Both.l0;repeat' first
   |(with_reducible first|exact af _ _ _ _|exact LeO.refl _|exact LeO.none _|refine LeO.ite ?_ ?_|refine LeO.bind ?_ (fun _=>?_))
   |refine LeO.ite ?_ ?_
   |refine LeO.bind ?_ (fun _=>?_)
theorem spec_l1Both.mono:∀a0 a1 k,LeO (spec_l1Both.f k a0 a1) (spec_l1Both.f (k+1) a0 a1):=by
 intro a0 a1 k;have af:=spec_l1Both.mono_l k;unfold spec_l1Both.f
 repeat' first
   |(with_reducible first|exact af _ _ _ _|exact LeO.refl _|exact LeO.none _|refine LeO.ite ?_ ?_|refine LeO.bind ?_ (fun _=>?_))
   |refine LeO.ite ?_ ?_
   |refine LeO.bind ?_ (fun _=>?_)
set_option maxHeartbeats 8000000 in
set_option maxRecDepth 100000 in
theorem spec_l1Both.calls (k:Nat) (a0:Int) (a1:Int) (r:Int) (w:World) (h:spec_l1Both.f k a0 a1=some r):
  Calls Try.prog 141 #[.int .i64 a0,.int .i64 a1] w fun e w'=>e= .returned (.int .i64 r)∧Drawn0 w w':=by
 have H:(spec_l1Both.l0 k a0 a1 0 0)=some r:=h;clear h;have H':=Asd.mk H;clear H;go_enter Try.func141,Try.ntmps141;go_wp2;go_loopg [5,6] k (fun kq v5 v6 w'=>∃(aZ:Int) (ab:Int),v5= .int .i64 aZ∧v6= .int .i64 ab∧Asd (spec_l1Both.l0 kq a0 a1 aZ ab=some r)∧Asd (kq≤k)∧Drawn0 w w')
 case atStart=>exact⟨(0),(0),(by first|rfl|(simp;done)|(simp[*];done)),(by first|rfl|(simp;done)|(simp[*];done)),H',⟨Nat.le_refl _⟩,by repeat(first|exact Drawn0.refl _|apply Drawn0.step)⟩
 case round=>
  clear H';obtain⟨aZ,ab,rfl,rfl,HA,dC,⟨m1,rfl⟩⟩:=hrel;cases gk with
  |zero=>exact absurd HA.out (by simp[spec_l1Both.l0])
  |succ k1=>
   have H:=HA.out;clear HA;simp only[spec_l1Both.l0]at H;rcases iT H with⟨c3,H⟩|⟨c3,H⟩
   ·have aY:=decide_eq_true c3;clear c3;obtain⟨t197,A4,H⟩:=bE H;try dsimp only at H
    obtain⟨t198,A5,H⟩:=bE H;try dsimp only at H
    obtain⟨c6,H⟩:=iN H;have dD:=eq_true c6;have fl:=decide_eq_true c6;clear c6;obtain⟨bO,al⟩:∃j_:Int,(shl .i64 (wrap64 (t197*t198)) ab)=j_:=⟨_,rfl⟩;first|rw[al]at H|simp only[al]at H
    (try rw[al]at A4);(try rw[al]at A5);have cC:(IntKind.i64.wrap ((wrap64 (t197*t198))*2^min ab.toNat 64))=bO:=al;have cD:ab≤64→(IntKind.i64.wrap ((wrap64 (t197*t198))*2^ab.toNat))=bO:=shl_small al;have eV:(wrap64 ((wrap64 (t197*t198))*2^min ab.toNat 64))=bO:=(i64_w _).symm.trans cC;have eW:ab≤64→(wrap64 ((wrap64 (t197*t198))*2^ab.toNat))=bO:=fun h_=>(i64_w _).symm.trans (cD h_)
    have H':=Asd.mk H;clear H;go_wp2_with (first|((with_reducible refine gate_callee (f:=146) rfl ?_);refine gB (some 14) Try.func146 #[.int .i64 a0,.int .i64 ab] rfl ?_;(with_reducible refine(spec_l1Bit.calls a0 ab t197 _ A4.out).mono ?_);rintro e w' ⟨rfl,⟨nd,rfl⟩⟩;refine⟨_,rfl,?_⟩)|((with_reducible refine gate_callee (f:=146) rfl ?_);refine gB (some 17) Try.func146 #[.int .i64 a1,.int .i64 ab] rfl ?_;(with_reducible refine(spec_l1Bit.calls a1 ab t198 _ A5.out).mono ?_);rintro e w' ⟨rfl,⟨nd,rfl⟩⟩;refine⟨_,rfl,?_⟩));go_roundg k1
    case measure=>have:=dC.out;omega
    case rel=>exact⟨(wrap64 (aZ+(bO))),(wrap64 (ab+1)),(by first|rfl|(simp;done)|(simp only[←al]<;>(first|rfl|simp))|(simp[*];done)),(by first|rfl|(simp;done)|(simp[*];done)),H',⟨by have:=dC.out;omega⟩,by repeat(first|exact Drawn0.refl _|apply Drawn0.step)⟩
   ·have aY:=decide_eq_false c3;clear c3;obtain rfl:=Option.some.inj H;go_wp2;go_ret;exact⟨by first|rfl|(simp;done)|(simp[*];done),by repeat(first|exact Drawn0.refl _|apply Drawn0.step)⟩

/-! ### spec_l1Either: function 142 -/
def spec_l1Either.f (k:Nat) (a0:Int) (a1:Int):Option (Int):=(spec_l1Both.f k a0 a1).bind fun t199=>(some (wrap64 ((wrap64 (a0+a1)) - t199)))
theorem spec_l1Either.mono:∀a0 a1 k,LeO (spec_l1Either.f k a0 a1) (spec_l1Either.f (k+1) a0 a1):=by
 intro a0 a1 k;unfold spec_l1Either.f
 repeat' first
   |(with_reducible first|exact spec_l1Both.mono _ _ _|exact LeO.refl _|exact LeO.none _|refine LeO.ite ?_ ?_|refine LeO.bind ?_ (fun _=>?_))
   |refine LeO.ite ?_ ?_
   |refine LeO.bind ?_ (fun _=>?_)
set_option maxHeartbeats 8000000 in
set_option maxRecDepth 100000 in
theorem spec_l1Either.calls (k:Nat) (a0:Int) (a1:Int) (r:Int) (w:World) (h:spec_l1Either.f k a0 a1=some r):
  Calls Try.prog 142 #[.int .i64 a0,.int .i64 a1] w fun e w'=>e= .returned (.int .i64 r)∧Drawn0 w w':=by
 have H:((spec_l1Both.f k a0 a1).bind fun t199=>(some (wrap64 ((wrap64 (a0+a1)) - t199))))=some r:=h;clear h;obtain⟨t199,A3,H⟩:=bE H;try dsimp only at H
 obtain rfl:=Option.some.inj H;go_enter Try.func142,Try.ntmps142;go_wp2_with (first|((with_reducible refine gate_callee (f:=141) rfl ?_);refine gB (some 10) Try.func141 #[.int .i64 a0,.int .i64 a1] rfl ?_;(with_reducible refine(spec_l1Both.calls k a0 a1 t199 _ A3.out).mono ?_);rintro e w' ⟨rfl,⟨nd,rfl⟩⟩;refine⟨_,rfl,?_⟩));go_ret;exact⟨by first|rfl|(simp;done)|(simp[*];done),by repeat(first|exact Drawn0.refl _|apply Drawn0.step)⟩

/-! ### spec_l1Read: function 119 -/
mutual
def spec_l1Read.j0:Nat→Int→ByteArray→Int→Int→Bool→Option (Int×Int)
 |0,_,_,_,_,_=>none
 |k+1,x0,x1,x2,x8,x38=>if x38=true then(spec_l1Read.l0 k x0 x1 x2 0 0)else(if 0≤x2 then(if x2<(x1.size:Int)then(if(bt x1 x2)=33 then((spec_l1Read.f k x0 x1 (wrap64 (x2+1))).bind fun aU=>(if aU.2<0 then(some ((-1),(-1)))else(some (wrap64 (x8 - aU.1),aU.2))))else(if(bt x1 x2)=40 then((spec_l1Read.f k x0 x1 (wrap64 (x2+1))).bind fun ai=>(if ai.2<0 then(spec_l1Read.j2 k x0 x1 x8 ai.1 ai.2 true)else(spec_l1Read.j2 k x0 x1 x8 ai.1 ai.2 (decide (ai.2≥(x1.size:Int))))))else(some ((-1),(-1)))))else(none))else(none))
def spec_l1Read.l0:Nat→Int→ByteArray→Int→Int→Int→Option (Int×Int)
 |0,_,_,_,_,_=>none
 |k+1,x0,x1,x2,x9,x10=>if 0≤x0 then(if x10<(shl .i64 1 x0)then(if 0≤x2 then(if x2<(x1.size:Int)then(if 0≤x10 then(spec_l1Read.l0 k x0 x1 x2 (wrap64 (x9+(shl .i64 (Int.tmod (shr .i64 x10 (((bt x1 x2) - 97)%256)) 2) x10))) (wrap64 (x10+1)))else(none))else(none))else(none))else(some (x9,wrap64 (x2+1))))else(none)
def spec_l1Read.j2:Nat→Int→ByteArray→Int→Int→Int→Bool→Option (Int×Int)
 |0,_,_,_,_,_,_=>none
 |k+1,x0,x1,x8,x13,x14,x111=>if x111=true then(some ((-1),(-1)))else((spec_l1Read.f k x0 x1 (wrap64 (x14+1))).bind fun ad=>(if ad.2<0 then(spec_l1Read.j3 k x1 x8 x13 x14 ad.1 ad.2 true)else(if ad.2≥(x1.size:Int)then(spec_l1Read.j3 k x1 x8 x13 x14 ad.1 ad.2 true)else(if 0≤ad.2 then(if ad.2<(x1.size:Int)then(spec_l1Read.j3 k x1 x8 x13 x14 ad.1 ad.2 ((bt x1 ad.2) !=41))else(none))else(none)))))
def spec_l1Read.j3:Nat→ByteArray→Int→Int→Int→Int→Int→Bool→Option (Int×Int)
 |0,_,_,_,_,_,_,_=>none
 |k+1,x1,x8,x13,x14,x15,x16,x133=>if x133=true then(some ((-1),(-1)))else(if 0≤x14 then(if x14<(x1.size:Int)then(if(bt x1 x14)=38 then((spec_l1Both.f k x13 x15).bind fun t207=>(some (t207,wrap64 (x16+1))))else(if(bt x1 x14)=124 then((spec_l1Either.f k x13 x15).bind fun t208=>(some (t208,wrap64 (x16+1))))else(if(bt x1 x14)=62 then((spec_l1Either.f k (wrap64 (x8 - x13)) x15).bind fun t209=>(some (t209,wrap64 (x16+1))))else(some ((-1),(-1))))))else(none))else(none))
def spec_l1Read.f:Nat→Int→ByteArray→Int→Option (Int×Int)
 |0,_,_,_=>none
 |k+1,a0,a1,a2=>if a2≥(a1.size:Int)then(some ((-1),(-1)))else((spec_l1All.f a0).bind fun t200=>(if 0≤a2 then(if a2<(a1.size:Int)then(if(bt a1 a2)=49 then(some (t200,wrap64 (a2+1)))else(if(bt a1 a2)=48 then(some (0,wrap64 (a2+1)))else(if(bt a1 a2)≥97 then(spec_l1Read.j0 k a0 a1 a2 t200 (decide ((((bt a1 a2) - 97)%256)<a0)))else(spec_l1Read.j0 k a0 a1 a2 t200 false))))else(none))else(none)))
end
theorem spec_l1Read.mono_l:∀k,(∀y0 y1 y2,LeO (spec_l1Read.f k y0 y1 y2) (spec_l1Read.f (k+1) y0 y1 y2))∧(∀y0 y1 y2 y3 y4,LeO (spec_l1Read.j0 k y0 y1 y2 y3 y4) (spec_l1Read.j0 (k+1) y0 y1 y2 y3 y4))∧(∀y0 y1 y2 y3 y4,LeO (spec_l1Read.l0 k y0 y1 y2 y3 y4) (spec_l1Read.l0 (k+1) y0 y1 y2 y3 y4))∧(∀y0 y1 y2 y3 y4 y5,LeO (spec_l1Read.j2 k y0 y1 y2 y3 y4 y5) (spec_l1Read.j2 (k+1) y0 y1 y2 y3 y4 y5))∧(∀y0 y1 y2 y3 y4 y5 y6,LeO (spec_l1Read.j3 k y0 y1 y2 y3 y4 y5 y6) (spec_l1Read.j3 (k+1) y0 y1 y2 y3 y4 y5 y6))
 |0=>⟨fun _ _ _ r h=>by simp[spec_l1Read.f]at h,fun _ _ _ _ _ r h=>by simp[spec_l1Read.j0]at h,fun _ _ _ _ _ r h=>by simp[spec_l1Read.l0]at h,fun _ _ _ _ _ _ r h=>by simp[spec_l1Read.j2]at h,fun _ _ _ _ _ _ _ r h=>by simp[spec_l1Read.j3]at h⟩
 |k+1=>by
  obtain⟨af,bd,bf,bg,bh⟩:=spec_l1Read.mono_l k;refine⟨?_,?_,?_,?_,?_⟩
  ·intro y0 y1 y2;unfold spec_l1Read.f;repeat' first
   |(with_reducible first|exact af _ _ _|exact bd _ _ _ _ _|exact bf _ _ _ _ _|exact bg _ _ _ _ _ _|exact bh _ _ _ _ _ _ _|exact spec_l1Both.mono _ _ _|exact spec_l1Either.mono _ _ _|exact LeO.refl _|exact LeO.none _|refine LeO.ite ?_ ?_|refine LeO.bind ?_ (fun _=>?_))
   |refine LeO.ite ?_ ?_
   |refine LeO.bind ?_ (fun _=>?_)
  ·intro y0 y1 y2 y3 y4;unfold spec_l1Read.j0;repeat' first
   |(with_reducible first|exact af _ _ _|exact bd _ _ _ _ _|exact bf _ _ _ _ _|exact bg _ _ _ _ _ _|exact bh _ _ _ _ _ _ _|exact spec_l1Both.mono _ _ _|exact spec_l1Either.mono _ _ _|exact LeO.refl _|exact LeO.none _|refine LeO.ite ?_ ?_|refine LeO.bind ?_ (fun _=>?_))
   |refine LeO.ite ?_ ?_
   |refine LeO.bind ?_ (fun _=>?_)
  ·intro y0 y1 y2 y3 y4;unfold spec_l1Read.l0;repeat' first
   |(with_reducible first|exact af _ _ _|exact bd _ _ _ _ _|exact bf _ _ _ _ _|exact bg _ _ _ _ _ _|exact bh _ _ _ _ _ _ _|exact spec_l1Both.mono _ _ _|exact spec_l1Either.mono _ _ _|exact LeO.refl _|exact LeO.none _|refine LeO.ite ?_ ?_|refine LeO.bind ?_ (fun _=>?_))
   |refine LeO.ite ?_ ?_
   |refine LeO.bind ?_ (fun _=>?_)
  ·intro y0 y1 y2 y3 y4 y5;unfold spec_l1Read.j2;repeat' first
   |(with_reducible first|exact af _ _ _|exact bd _ _ _ _ _|exact bf _ _ _ _ _|exact bg _ _ _ _ _ _|exact bh _ _ _ _ _ _ _|exact spec_l1Both.mono _ _ _|exact spec_l1Either.mono _ _ _|exact LeO.refl _|exact LeO.none _|refine LeO.ite ?_ ?_|refine LeO.bind ?_ (fun _=>?_))
   |refine LeO.ite ?_ ?_
   |refine LeO.bind ?_ (fun _=>?_)
  ·intro y0 y1 y2 y3 y4 y5 y6;unfold spec_l1Read.j3;repeat' first
   |(with_reducible first|exact af _ _ _|exact bd _ _ _ _ _|exact bf _ _ _ _ _|exact bg _ _ _ _ _ _|exact bh _ _ _ _ _ _ _|exact spec_l1Both.mono _ _ _|exact spec_l1Either.mono _ _ _|exact LeO.refl _|exact LeO.none _|refine LeO.ite ?_ ?_|refine LeO.bind ?_ (fun _=>?_))
   |refine LeO.ite ?_ ?_
   |refine LeO.bind ?_ (fun _=>?_)
theorem spec_l1Read.mono:∀a0 a1 a2 k,LeO (spec_l1Read.f k a0 a1 a2) (spec_l1Read.f (k+1) a0 a1 a2):=by
 intro a0 a1 a2 k;obtain⟨af,bd,bf,bg,bh⟩:=spec_l1Read.mono_l k;exact af a0 a1 a2
set_option maxHeartbeats 8000000 in
set_option maxRecDepth 100000 in
theorem spec_l1Read.calls (k:Nat):∀(a0:Int) (a1:ByteArray) (a2:Int) (r1:Int) (r2:Int) (w:World) (h:spec_l1Read.f k a0 a1 a2=some (r1,r2)),
  Calls Try.prog 119 #[.int .i64 a0,.string a1,.int .i64 a2] w fun e w'=>e= .returned (.tuple #[.int .i64 r1,.int .i64 r2])∧Drawn0 w w':=by
 induction k using Nat.strongRecOn with
 | _ k ih=>
 intro a0 a1 a2 r1 r2 w h;cases k with
 |zero=>exact absurd h (by simp[spec_l1Read.f])
 |succ k=>
 simp only[spec_l1Read.f]at h;have H:(if a2≥(a1.size:Int)then(some ((-1),(-1)))else((spec_l1All.f a0).bind fun t200=>(if 0≤a2 then(if a2<(a1.size:Int)then(if(bt a1 a2)=49 then(some (t200,wrap64 (a2+1)))else(if(bt a1 a2)=48 then(some (0,wrap64 (a2+1)))else(if(bt a1 a2)≥97 then(spec_l1Read.j0 k a0 a1 a2 t200 (decide ((((bt a1 a2) - 97)%256)<a0)))else(spec_l1Read.j0 k a0 a1 a2 t200 false))))else(none))else(none))))=some (r1,r2):=h;clear h;rcases iT H with⟨c4,H⟩|⟨c4,H⟩
 ·have dE:=decide_eq_true c4;clear c4;obtain⟨rfl,rfl⟩:=s2 H;go_enter Try.func119,Try.ntmps119;go_wp2;go_ret2;exact⟨by first|rfl|(simp;done)|(simp[*];done),by repeat(first|exact Drawn0.refl _|apply Drawn0.step)⟩
 ·have dE:=decide_eq_false c4;clear c4;obtain⟨t200,A5,H⟩:=bE H;try dsimp only at H
  obtain⟨c6,H⟩:=iN H;have dD:=decide_eq_true c6;clear c6;obtain⟨c7,H⟩:=iN H;have fm:=decide_eq_true c7;clear c7;rcases iT H with⟨c9,H⟩|⟨c9,H⟩
  ·have dF:((bt a1 a2)==49)=true:=beq_iff_eq.mpr c9;have dG:((bt a1 a2) !=49)=false:=bne_eq_false_iff_eq.mpr c9;clear c9;obtain⟨rfl,rfl⟩:=s2 H;go_enter Try.func119,Try.ntmps119;go_wp2_with (first|((with_reducible refine gate_callee (f:=140) rfl ?_);refine gB (some 22) Try.func140 #[.int .i64 a0] rfl ?_;(with_reducible refine(spec_l1All.calls a0 t200 _ A5.out).mono ?_);rintro e w' ⟨rfl,⟨nd,rfl⟩⟩;refine⟨_,rfl,?_⟩;have p8:0≤(a2:Int):=odt;have q8:a2<(a1.size:Int):=odt;have dH:=bt_at a1 a2;replace p8:=eq_true p8;replace q8:=eq_true q8));go_ret2;exact⟨by first|rfl|(simp;done)|(simp[*];done),by repeat(first|exact Drawn0.refl _|apply Drawn0.step)⟩
  ·have dF:((bt a1 a2)==49)=false:=beq_eq_false_iff_ne.mpr c9;have dG:((bt a1 a2) !=49)=true:=bne_iff_ne.mpr c9;rcases iT H with⟨aA,H⟩|⟨aA,H⟩
   ·have bp:((bt a1 a2)==48)=true:=beq_iff_eq.mpr aA;have bq:((bt a1 a2) !=48)=false:=bne_eq_false_iff_eq.mpr aA;clear aA;obtain⟨rfl,rfl⟩:=s2 H;go_enter Try.func119,Try.ntmps119;go_wp2_with (first|((with_reducible refine gate_callee (f:=140) rfl ?_);refine gB (some 22) Try.func140 #[.int .i64 a0] rfl ?_;(with_reducible refine(spec_l1All.calls a0 t200 _ A5.out).mono ?_);rintro e w' ⟨rfl,⟨nd,rfl⟩⟩;refine⟨_,rfl,?_⟩;have p8:0≤(a2:Int):=odt;have q8:a2<(a1.size:Int):=odt;have dH:=bt_at a1 a2;replace p8:=eq_true p8;replace q8:=eq_true q8;have bT:0≤(a2:Int):=odt;have bV:a2<(a1.size:Int):=odt;have dI:=bt_at a1 a2;replace bT:=eq_true bT;replace bV:=eq_true bV));go_ret2;exact⟨by first|rfl|(simp;done)|(simp[*];done),by repeat(first|exact Drawn0.refl _|apply Drawn0.step)⟩
   ·have bp:((bt a1 a2)==48)=false:=beq_eq_false_iff_ne.mpr aA;have bq:((bt a1 a2) !=48)=true:=bne_iff_ne.mpr aA;have bZ:=Asd.mk H;clear H;go_enter Try.func119,Try.ntmps119;go_upto_region 8 with(first|((with_reducible refine gate_callee (f:=140) rfl ?_);refine gB (some 22) Try.func140 #[.int .i64 a0] rfl ?_;(with_reducible refine(spec_l1All.calls a0 t200 _ A5.out).mono ?_);rintro e w' ⟨rfl,⟨nd,rfl⟩⟩;refine⟨_,rfl,?_⟩;have p8:0≤(a2:Int):=odt;have q8:a2<(a1.size:Int):=odt;have dH:=bt_at a1 a2;replace p8:=eq_true p8;replace q8:=eq_true q8;have bT:0≤(a2:Int):=odt;have bV:a2<(a1.size:Int):=odt;have dI:=bt_at a1 a2;replace bT:=eq_true bT;replace bV:=eq_true bV))
    (try simp only[Act.put,qA,qB,qC]);go_cut [38] (fun eX wc=>∃(kq:Nat) (aj:Bool),eX= .bool aj∧Asd (spec_l1Read.j0 kq a0 a1 a2 t200 aj=some (r1,r2))∧Asd (kq≤k)∧Drawn0 w wc)
    case first=>
     have H:=bZ.out;clear bZ;rcases iT H with⟨b0,H⟩|⟨b0,H⟩
     ·have an:=decide_eq_true b0;clear b0;(first|rw[an]|(simp only[i64_w,i32_w];rw[an])|skip);have H':=Asd.mk H;clear H;have b1:0≤(a2:Int):=odt;have b4:a2<(a1.size:Int):=odt;have dJ:=bt_at a1 a2;replace b1:=eq_true b1;replace b4:=eq_true b4;have dK:0≤(a2:Int):=odt;have dL:a2<(a1.size:Int):=odt;have fo:=bt_at a1 a2;replace dK:=eq_true dK;replace dL:=eq_true dL;go_wp2;go_meet
      case rel=>exact⟨_,(decide ((((bt a1 a2) - 97)%256)<a0)),(by first|rfl|(simp;done)|(simp[*];done)),H',⟨by first|omega|exact Nat.le_refl _⟩,by repeat(first|exact Drawn0.refl _|apply Drawn0.step)⟩
     ·have an:=decide_eq_false b0;clear b0;(first|rw[an]|(simp only[i64_w,i32_w];rw[an])|skip);have H':=Asd.mk H;clear H;have b1:0≤(a2:Int):=odt;have b4:a2<(a1.size:Int):=odt;have dJ:=bt_at a1 a2;replace b1:=eq_true b1;replace b4:=eq_true b4;go_wp2;go_meet
      case rel=>exact⟨_,(false),(by first|rfl|(simp;done)|(simp[*];done)),H',⟨by first|omega|exact Nat.le_refl _⟩,by repeat(first|exact Drawn0.refl _|apply Drawn0.step)⟩
    case rest=>
     clear bZ;obtain⟨kq,aj,rfl,HA,ae,⟨fp,rfl⟩⟩:=hcut;cases kq with
     |zero=>exact absurd HA.out (by simp[spec_l1Read.j0])
     |succ kj11=>
      have H:=HA.out;clear HA;simp only[spec_l1Read.j0]at H;by_cases aR:aj=true
      ·subst aR;rw[if_pos rfl]at H;have H':=Asd.mk H;clear H;go_wp2;go_loopg [9,10] kj11 (fun kq v9 v10 w'=>∃(a6:Int) (I:Int),v9= .int .i64 a6∧v10= .int .i64 I∧Asd (spec_l1Read.l0 kq a0 a1 a2 a6 I=some (r1,r2))∧Asd (kq≤kj11)∧Drawn0 w w')
       case atStart=>exact⟨(0),(0),(by first|rfl|(simp;done)|(simp[*];done)),(by first|rfl|(simp;done)|(simp[*];done)),H',⟨Nat.le_refl _⟩,by repeat(first|exact Drawn0.refl _|apply Drawn0.step)⟩
       case round=>
        clear H';obtain⟨a6,I,rfl,rfl,HA,dM,⟨m2,rfl⟩⟩:=hrel;cases gk with
        |zero=>exact absurd HA.out (by simp[spec_l1Read.l0])
        |succ k2=>
         have H:=HA.out;clear HA;simp only[spec_l1Read.l0]at H;obtain⟨cE,H⟩:=iN H;have eY:=eq_true cE;have eZ:=decide_eq_true cE;clear cE;obtain⟨aB,ao⟩:∃j_:Int,(shl .i64 1 a0)=j_:=⟨_,rfl⟩;first|rw[ao]at H|simp only[ao]at H
         have a7:(IntKind.i64.wrap (1*2^min a0.toNat 64))=aB:=ao;have a8:a0≤64→(IntKind.i64.wrap (1*2^a0.toNat))=aB:=shl_small ao;have ev:(IntKind.i64.wrap (2^min a0.toNat 64))=aB:=by have h_:=a7;rw[Int.one_mul]at h_;exact h_
         have ew:a0≤64→(IntKind.i64.wrap (2^a0.toNat))=aB:=fun dN=>by have h_:=a8 dN;rw[Int.one_mul]at h_;exact h_
         have ey:(wrap64 (1*2^min a0.toNat 64))=aB:=(i64_w _).symm.trans a7;have ez:a0≤64→(wrap64 (1*2^a0.toNat))=aB:=fun h_=>(i64_w _).symm.trans (a8 h_)
         rcases iT H with⟨aJ,H⟩|⟨aJ,H⟩
         ·have bz:=decide_eq_true aJ;clear aJ;obtain⟨bb,H⟩:=iN H;have cr:=decide_eq_true bb;clear bb;obtain⟨dO,H⟩:=iN H;have e0:=decide_eq_true dO;clear dO;obtain⟨aq,aF⟩:∃j_:Int,(shr .i64 I (((bt a1 a2) - 97)%256))=j_:=⟨_,rfl⟩;first|rw[aF]at H|simp only[aF]at H
          have eA:(I/2^min (((bt a1 a2) - 97)%256).toNat 64)=aq:=aF;have dP:=eq_true (show(0:Int)≤(((bt a1 a2) - 97)%256) by omega);have dQ:decide ((0:Int)≤(((bt a1 a2) - 97)%256))=true:=decide_eq_true (by omega);have dR:decide ((((bt a1 a2) - 97)%256)<0)=false:=decide_eq_false (by omega);have eB:(((bt a1 a2) - 97)%256)≤64→(I/2^(((bt a1 a2) - 97)%256).toNat)=aq:=shr_small aF;obtain⟨cF,H⟩:=iN H;have e1:=eq_true cF;have e2:=decide_eq_true cF;clear cF;obtain⟨aP,ar⟩:∃j_:Int,(shl .i64 (Int.tmod (aq) 2) I)=j_:=⟨_,rfl⟩;first|rw[ar]at H|simp only[ar]at H
          have cj:(IntKind.i64.wrap ((Int.tmod (aq) 2)*2^min I.toNat 64))=aP:=ar;have ck:I≤64→(IntKind.i64.wrap ((Int.tmod (aq) 2)*2^I.toNat))=aP:=shl_small ar;have eC:(wrap64 ((Int.tmod (aq) 2)*2^min I.toNat 64))=aP:=(i64_w _).symm.trans cj;have eD:I≤64→(wrap64 ((Int.tmod (aq) 2)*2^I.toNat))=aP:=fun h_=>(i64_w _).symm.trans (ck h_)
          have H':=Asd.mk H;clear H;have dS:0≤(a2:Int):=odt;have dT:a2<(a1.size:Int):=odt;have fq:=bt_at a1 a2;replace dS:=eq_true dS;replace dT:=eq_true dT;go_wp2;go_roundg k2
          case measure=>have:=ae.out;have:=dM.out;omega
          case rel=>exact⟨(wrap64 (a6+(aP))),(wrap64 (I+1)),(by first|rfl|(simp;done)|(simp only[←ar]<;>(first|rfl|simp))|(simp[*];done)),(by first|rfl|(simp;done)|(simp[*];done)),H',⟨by have:=ae.out;have:=dM.out;omega⟩,by repeat(first|exact Drawn0.refl _|apply Drawn0.step)⟩
         ·have bz:=decide_eq_false aJ;clear aJ;obtain⟨rfl,rfl⟩:=s2 H;go_wp2;go_ret2;exact⟨by first|rfl|(simp;done)|(simp only[←ao]<;>(first|rfl|simp))|(simp[*];done),by repeat(first|exact Drawn0.refl _|apply Drawn0.step)⟩
      ·replace aR:=Bool.eq_false_iff.mpr aR;subst aR;rw[if_neg (show¬(false=true) by decide)]at H;obtain⟨dU,H⟩:=iN H;have e3:=decide_eq_true dU;clear dU;obtain⟨dV,H⟩:=iN H;have e4:=decide_eq_true dV;clear dV;rcases iT H with⟨bj,H⟩|⟨bj,H⟩
       ·have cG:((bt a1 a2)==33)=true:=beq_iff_eq.mpr bj;have cH:((bt a1 a2) !=33)=false:=bne_eq_false_iff_eq.mpr bj;clear bj;obtain⟨⟨t201,t202⟩,dW,H⟩:=bE H;try dsimp only at H
        rcases iT H with⟨b5,H⟩|⟨b5,H⟩
        ·have cI:=decide_eq_true b5;clear b5;obtain⟨rfl,rfl⟩:=s2 H;have au:0≤(a2:Int):=odt;have av:a2<(a1.size:Int):=odt;have b6:=bt_at a1 a2;replace au:=eq_true au;replace av:=eq_true av;go_wp2_with (first|((with_reducible refine gate_callee (f:=119) rfl ?_);refine gB (some 82) Try.func119 #[.int .i64 a0,.string a1,.int .i64 (wrap64 (a2+1))] rfl ?_;(with_reducible refine(ih kj11 (by have:=ae.out;omega) a0 a1 (wrap64 (a2+1)) t201 t202 _ dW.out).mono ?_);rintro e w' ⟨rfl,⟨nd,rfl⟩⟩;refine⟨_,rfl,?_⟩));go_ret2;exact⟨by first|rfl|(simp;done)|(simp[*];done),by repeat(first|exact Drawn0.refl _|apply Drawn0.step)⟩
        ·have cI:=decide_eq_false b5;clear b5;obtain⟨rfl,rfl⟩:=s2 H;have au:0≤(a2:Int):=odt;have av:a2<(a1.size:Int):=odt;have b6:=bt_at a1 a2;replace au:=eq_true au;replace av:=eq_true av;go_wp2_with (first|((with_reducible refine gate_callee (f:=119) rfl ?_);refine gB (some 82) Try.func119 #[.int .i64 a0,.string a1,.int .i64 (wrap64 (a2+1))] rfl ?_;(with_reducible refine(ih kj11 (by have:=ae.out;omega) a0 a1 (wrap64 (a2+1)) t201 t202 _ dW.out).mono ?_);rintro e w' ⟨rfl,⟨nd,rfl⟩⟩;refine⟨_,rfl,?_⟩));go_ret2;exact⟨by first|rfl|(simp;done)|(simp[*];done),by repeat(first|exact Drawn0.refl _|apply Drawn0.step)⟩
       ·have cG:((bt a1 a2)==33)=false:=beq_eq_false_iff_ne.mpr bj;have cH:((bt a1 a2) !=33)=true:=bne_iff_ne.mpr bj;rcases iT H with⟨bk,H⟩|⟨bk,H⟩
        ·have cJ:((bt a1 a2)==40)=true:=beq_iff_eq.mpr bk;have cK:((bt a1 a2) !=40)=false:=bne_eq_false_iff_eq.mpr bk;clear bk;obtain⟨⟨t203,t204⟩,e6,H⟩:=bE H;try dsimp only at H
         have b7:=Asd.mk H;clear H;have au:0≤(a2:Int):=odt;have av:a2<(a1.size:Int):=odt;have b6:=bt_at a1 a2;replace au:=eq_true au;replace av:=eq_true av;have b8:0≤(a2:Int):=odt;have b9:a2<(a1.size:Int):=odt;have dX:=bt_at a1 a2;replace b8:=eq_true b8;replace b9:=eq_true b9;go_upto_region 22 with(first|((with_reducible refine gate_callee (f:=119) rfl ?_);refine gB (some 101) Try.func119 #[.int .i64 a0,.string a1,.int .i64 (wrap64 (a2+1))] rfl ?_;(with_reducible refine(ih kj11 (by have:=ae.out;omega) a0 a1 (wrap64 (a2+1)) t203 t204 _ e6.out).mono ?_);rintro e w' ⟨rfl,⟨nd,rfl⟩⟩;refine⟨_,rfl,?_⟩))
         (try simp only[Act.put,qA,qB,qC]);go_cut [111] (fun dY wc=>∃(kq:Nat) (ag:Bool),dY= .bool ag∧Asd (spec_l1Read.j2 kq a0 a1 t200 t203 t204 ag=some (r1,r2))∧Asd (kq≤kj11)∧Drawn0 w wc)
         case first=>
          have H:=b7.out;clear b7;rcases iT H with⟨ca,H⟩|⟨ca,H⟩
          ·have aw:=decide_eq_true ca;clear ca;(first|rw[aw]|(simp only[i64_w,i32_w];rw[aw])|skip);have H':=Asd.mk H;clear H;go_wp2;go_meet
           case rel=>exact⟨_,(true),(by first|rfl|(simp;done)|(simp[*];done)),H',⟨by have:=ae.out;first|omega|exact Nat.le_refl _⟩,by repeat(first|exact Drawn0.refl _|apply Drawn0.step)⟩
          ·have aw:=decide_eq_false ca;clear ca;(first|rw[aw]|(simp only[i64_w,i32_w];rw[aw])|skip);have H':=Asd.mk H;clear H;go_wp2;go_meet
           case rel=>exact⟨_,(decide (t204≥(a1.size:Int))),(by first|rfl|(simp;done)|(simp[*];done)),H',⟨by have:=ae.out;first|omega|exact Nat.le_refl _⟩,by repeat(first|exact Drawn0.refl _|apply Drawn0.step)⟩
         case rest=>
          clear b7;obtain⟨kq,ag,rfl,HA,ba,⟨fr,rfl⟩⟩:=hcut;cases kq with
          |zero=>exact absurd HA.out (by simp[spec_l1Read.j2])
          |succ kj34=>
           have H:=HA.out;clear HA;simp only[spec_l1Read.j2]at H;by_cases cl:ag=true
           ·subst cl;rw[if_pos rfl]at H;obtain⟨rfl,rfl⟩:=s2 H;go_wp2;go_ret2;exact⟨by first|rfl|(simp;done)|(simp[*];done),by repeat(first|exact Drawn0.refl _|apply Drawn0.step)⟩
           ·replace cl:=Bool.eq_false_iff.mpr cl;subst cl;rw[if_neg (show¬(false=true) by decide)]at H;obtain⟨⟨t205,t206⟩,e7,H⟩:=bE H;try dsimp only at H
            have cb:=Asd.mk H;clear H;go_upto_region 25 with(first|((with_reducible refine gate_callee (f:=119) rfl ?_);refine gB (some 117) Try.func119 #[.int .i64 a0,.string a1,.int .i64 (wrap64 (t204+1))] rfl ?_;(with_reducible refine(ih kj34 (by have:=ae.out;have:=ba.out;omega) a0 a1 (wrap64 (t204+1)) t205 t206 _ e7.out).mono ?_);rintro e w' ⟨rfl,⟨nd,rfl⟩⟩;refine⟨_,rfl,?_⟩))
            (try simp only[Act.put,qA,qB,qC]);go_cut [133] (fun dZ wc=>∃(kq:Nat) (ah:Bool),dZ= .bool ah∧Asd (spec_l1Read.j3 kq a1 t200 t203 t204 t205 t206 ah=some (r1,r2))∧Asd (kq≤kj34)∧Drawn0 w wc)
            case first=>
             have H:=cb.out;clear cb;rcases iT H with⟨cc,H⟩|⟨cc,H⟩
             ·have ax:=decide_eq_true cc;clear cc;(first|rw[ax]|(simp only[i64_w,i32_w];rw[ax])|skip);have H':=Asd.mk H;clear H;go_wp2;go_meet
              case rel=>exact⟨_,(true),(by first|rfl|(simp;done)|(simp[*];done)),H',⟨by have:=ae.out;have:=ba.out;first|omega|exact Nat.le_refl _⟩,by repeat(first|exact Drawn0.refl _|apply Drawn0.step)⟩
             ·have ax:=decide_eq_false cc;clear cc;(first|rw[ax]|(simp only[i64_w,i32_w];rw[ax])|skip);rcases iT H with⟨cd,H⟩|⟨cd,H⟩
              ·have cL:=decide_eq_true cd;clear cd;have H':=Asd.mk H;clear H;go_wp2;go_meet
               case rel=>exact⟨_,(true),(by first|rfl|(simp;done)|(simp[*];done)),H',⟨by have:=ae.out;have:=ba.out;first|omega|exact Nat.le_refl _⟩,by repeat(first|exact Drawn0.refl _|apply Drawn0.step)⟩
              ·have cL:=decide_eq_false cd;clear cd;obtain⟨ea,H⟩:=iN H;have e8:=decide_eq_true ea;clear ea;obtain⟨eb,H⟩:=iN H;have e9:=decide_eq_true eb;clear eb;have H':=Asd.mk H;clear H;have ec:0≤(t206:Int):=odt;have ed:t206<(a1.size:Int):=odt;have fs:=bt_at a1 t206;replace ec:=eq_true ec;replace ed:=eq_true ed;go_wp2;go_meet
               case rel=>exact⟨_,(((bt a1 t206) !=41)),(by first|rfl|(simp;done)|(simp[*];done)),H',⟨by have:=ae.out;have:=ba.out;first|omega|exact Nat.le_refl _⟩,by repeat(first|exact Drawn0.refl _|apply Drawn0.step)⟩
            case rest=>
             clear cb;obtain⟨kq,ah,rfl,HA,ft,⟨fu,rfl⟩⟩:=hcut;cases kq with
             |zero=>exact absurd HA.out (by simp[spec_l1Read.j3])
             |succ kj38=>
              have H:=HA.out;clear HA;simp only[spec_l1Read.j3]at H;by_cases cm:ah=true
              ·subst cm;rw[if_pos rfl]at H;obtain⟨rfl,rfl⟩:=s2 H;go_wp2;go_ret2;exact⟨by first|rfl|(simp;done)|(simp[*];done),by repeat(first|exact Drawn0.refl _|apply Drawn0.step)⟩
              ·replace cm:=Bool.eq_false_iff.mpr cm;subst cm;rw[if_neg (show¬(false=true) by decide)]at H;obtain⟨ee,H⟩:=iN H;have fa:=decide_eq_true ee;clear ee;obtain⟨ef,H⟩:=iN H;have fb:=decide_eq_true ef;clear ef;rcases iT H with⟨bl,H⟩|⟨bl,H⟩
               ·have cM:((bt a1 t204)==38)=true:=beq_iff_eq.mpr bl;have cN:((bt a1 t204) !=38)=false:=bne_eq_false_iff_eq.mpr bl;clear bl;obtain⟨t207,fc,H⟩:=bE H;try dsimp only at H
                obtain⟨rfl,rfl⟩:=s2 H;have ay:0≤(t204:Int):=odt;have az:t204<(a1.size:Int):=odt;have cf:=bt_at a1 t204;replace ay:=eq_true ay;replace az:=eq_true az;go_wp2_with (first|((with_reducible refine gate_callee (f:=141) rfl ?_);refine gB (some 141) Try.func141 #[.int .i64 t203,.int .i64 t205] rfl ?_;(with_reducible refine(spec_l1Both.calls kj38 t203 t205 t207 _ fc.out).mono ?_);rintro e w' ⟨rfl,⟨nd,rfl⟩⟩;refine⟨_,rfl,?_⟩));go_ret2;exact⟨by first|rfl|(simp;done)|(simp[*];done),by repeat(first|exact Drawn0.refl _|apply Drawn0.step)⟩
               ·have cM:((bt a1 t204)==38)=false:=beq_eq_false_iff_ne.mpr bl;have cN:((bt a1 t204) !=38)=true:=bne_iff_ne.mpr bl;rcases iT H with⟨bn,H⟩|⟨bn,H⟩
                ·have cO:((bt a1 t204)==124)=true:=beq_iff_eq.mpr bn;have cP:((bt a1 t204) !=124)=false:=bne_eq_false_iff_eq.mpr bn;clear bn;obtain⟨t208,fe,H⟩:=bE H;try dsimp only at H
                 obtain⟨rfl,rfl⟩:=s2 H;have ay:0≤(t204:Int):=odt;have az:t204<(a1.size:Int):=odt;have cf:=bt_at a1 t204;replace ay:=eq_true ay;replace az:=eq_true az;go_wp2_with (first|((with_reducible refine gate_callee (f:=142) rfl ?_);refine gB (some 148) Try.func142 #[.int .i64 t203,.int .i64 t205] rfl ?_;(with_reducible refine(spec_l1Either.calls kj38 t203 t205 t208 _ fe.out).mono ?_);rintro e w' ⟨rfl,⟨nd,rfl⟩⟩;refine⟨_,rfl,?_⟩));go_ret2;exact⟨by first|rfl|(simp;done)|(simp[*];done),by repeat(first|exact Drawn0.refl _|apply Drawn0.step)⟩
                ·have cO:((bt a1 t204)==124)=false:=beq_eq_false_iff_ne.mpr bn;have cP:((bt a1 t204) !=124)=true:=bne_iff_ne.mpr bn;rcases iT H with⟨bo,H⟩|⟨bo,H⟩
                 ·have cQ:((bt a1 t204)==62)=true:=beq_iff_eq.mpr bo;have cR:((bt a1 t204) !=62)=false:=bne_eq_false_iff_eq.mpr bo;clear bo;obtain⟨t209,ff,H⟩:=bE H;try dsimp only at H
                  obtain⟨rfl,rfl⟩:=s2 H;have ay:0≤(t204:Int):=odt;have az:t204<(a1.size:Int):=odt;have cf:=bt_at a1 t204;replace ay:=eq_true ay;replace az:=eq_true az;go_wp2_with (first|((with_reducible refine gate_callee (f:=142) rfl ?_);refine gB (some 157) Try.func142 #[.int .i64 (wrap64 (t200 - t203)),.int .i64 t205] rfl ?_;(with_reducible refine(spec_l1Either.calls kj38 (wrap64 (t200 - t203)) t205 t209 _ ff.out).mono ?_);rintro e w' ⟨rfl,⟨nd,rfl⟩⟩;refine⟨_,rfl,?_⟩));go_ret2;exact⟨by first|rfl|(simp;done)|(simp[*];done),by repeat(first|exact Drawn0.refl _|apply Drawn0.step)⟩
                 ·have cQ:((bt a1 t204)==62)=false:=beq_eq_false_iff_ne.mpr bo;have cR:((bt a1 t204) !=62)=true:=bne_iff_ne.mpr bo;obtain⟨rfl,rfl⟩:=s2 H;have ay:0≤(t204:Int):=odt;have az:t204<(a1.size:Int):=odt;have cf:=bt_at a1 t204;replace ay:=eq_true ay;replace az:=eq_true az;go_wp2;go_ret2;exact⟨by first|rfl|(simp;done)|(simp[*];done),by repeat(first|exact Drawn0.refl _|apply Drawn0.step)⟩
        ·have cJ:((bt a1 a2)==40)=false:=beq_eq_false_iff_ne.mpr bk;have cK:((bt a1 a2) !=40)=true:=bne_iff_ne.mpr bk;obtain⟨rfl,rfl⟩:=s2 H;have au:0≤(a2:Int):=odt;have av:a2<(a1.size:Int):=odt;have b6:=bt_at a1 a2;replace au:=eq_true au;replace av:=eq_true av;have b8:0≤(a2:Int):=odt;have b9:a2<(a1.size:Int):=odt;have dX:=bt_at a1 a2;replace b8:=eq_true b8;replace b9:=eq_true b9;go_wp2;go_ret2;exact⟨by first|rfl|(simp;done)|(simp[*];done),by repeat(first|exact Drawn0.refl _|apply Drawn0.step)⟩

end Go.Proofs.Ytihgpkohglcijaa.P
