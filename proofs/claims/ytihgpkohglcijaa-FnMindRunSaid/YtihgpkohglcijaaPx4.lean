-- Written by a program of this session (wip/hook.py), which runs the kit's printer; Lean checks it.
import Derived.Test.YtihgpkohglcijaaPx0
import Derived.Test.YtihgpkohglcijaaPx2
import Derived.Test.YtihgpkohglcijaaPx3
namespace Go.Proofs.Ytihgpkohglcijaa.P
open Go.RowKit Go.Proofs.YtihgpkohglcijaaW.PrintWords Go.Proofs.YtihgpkohglcijaaW.PrintLast Go.Proofs.YtihgpkohglcijaaW.PrintMore
attribute [local go_sem] max2_int min2_int max_two min_two max_three min_three max_four min_four   -- for this text's walks alone
set_option linter.unusedVariables false
set_option linter.unusedSimpArgs false

abbrev Mk4_0:Array Bool:= #[true,true,true,true,true,false,false,true,false]
abbrev Mk4_1:Array Bool:= #[true,true,true,true,true,true,false,true,false]
abbrev Mk4_2:Array Bool:= #[true,true,true,true,true,true,true,true,false]
/-! ### spec_HoldsIn: function 83 -/
def spec_HoldsIn.j0:Nat→Int→ByteArray→Bool→Option (Int×Bool)
 |0,_,_,_=>none
 |k+1,x0,x1,x15=>if x15=true then(some ((-1),false))else((spec_l1Read.f k x0 x1 0).bind fun bs=>(if bs.2=(x1.size:Int)then(some (bs.1,true))else(some ((-1),false))))
def spec_HoldsIn.f (k:Nat) (a0:Int) (a1:ByteArray):Option (Int×Bool):=(spec_l1In.f a0 1 3).bind fun t210=>(if t210=true then(spec_HoldsIn.j0 k a0 a1 (decide ((a1.size:Int)>120)))else(spec_HoldsIn.j0 k a0 a1 true))
theorem spec_HoldsIn.mono_l:∀k,(∀y0 y1 y2,LeO (spec_HoldsIn.j0 k y0 y1 y2) (spec_HoldsIn.j0 (k+1) y0 y1 y2))
 |0=>fun _ _ _ r h=>by simp[spec_HoldsIn.j0]at h
 |k+1=>by
  have bg:=spec_HoldsIn.mono_l k
  ·intro y0 y1 y2;unfold spec_HoldsIn.j0;repeat' first
   |(with_reducible first|exact bg _ _ _|exact spec_l1Read.mono _ _ _ _|exact LeO.refl _|exact LeO.none _|refine LeO.ite ?_ ?_|refine LeO.bind ?_ (fun _=>?_))
   |refine LeO.ite ?_ ?_
   |refine LeO.bind ?_ (fun _=>?_)
theorem spec_HoldsIn.mono:∀a0 a1 k,LeO (spec_HoldsIn.f k a0 a1) (spec_HoldsIn.f (k+1) a0 a1):=by
 intro a0 a1 k;have bg:=spec_HoldsIn.mono_l k;unfold spec_HoldsIn.f
 repeat' first
   |(with_reducible first|exact bg _ _ _|exact spec_l1Read.mono _ _ _ _|exact LeO.refl _|exact LeO.none _|refine LeO.ite ?_ ?_|refine LeO.bind ?_ (fun _=>?_))
   |refine LeO.ite ?_ ?_
   |refine LeO.bind ?_ (fun _=>?_)
set_option maxHeartbeats 8000000 in
set_option maxRecDepth 100000 in
theorem spec_HoldsIn.calls (k:Nat) (a0:Int) (a1:ByteArray) (r1:Int) (r2:Bool) (w:World) (h:spec_HoldsIn.f k a0 a1=some (r1,r2)):
  Calls Try.prog 83 #[.int .i64 a0,.string a1] w fun e w'=>e= .returned (.tuple #[.int .i64 r1,.bool r2])∧Drawn0 w w':=by
 have H:((spec_l1In.f a0 1 3).bind fun t210=>(if t210=true then(spec_HoldsIn.j0 k a0 a1 (decide ((a1.size:Int)>120)))else(spec_HoldsIn.j0 k a0 a1 true)))=some (r1,r2):=h;clear h;have cc:=Asd.mk H;clear H;go_enter Try.func83,Try.ntmps83;go_upto_region 1 with(fail)
 go_cut [15] (fun du wc=>∃(kq:Nat) (a6:Bool),du= .bool a6∧Asd (spec_HoldsIn.j0 kq a0 a1 a6=some (r1,r2))∧Asd (kq≤k)∧Drawn0 w wc)
 case first=>
  have H:=cc.out;clear cc;obtain⟨t210,A4,H⟩:=bE H;try dsimp only at H
  by_cases c5:t210=true
  ·subst c5;rw[if_pos rfl]at H;have H':=Asd.mk H;clear H;go_wp2_with (first|((with_reducible refine gate_callee (f:=72) rfl ?_);refine gB (some 9) Try.func72 #[.int .i64 a0,.int .i64 1,.int .i64 3] rfl ?_;(with_reducible refine(spec_l1In.calls a0 1 3 true _ A4.out).mono ?_);rintro e w' ⟨rfl,⟨nd,rfl⟩⟩;refine⟨_,rfl,?_⟩));go_meet
   case rel=>exact⟨_,(decide ((a1.size:Int)>120)),(by first|rfl|(simp;done)|(simp[*];done)),H',⟨by first|omega|exact Nat.le_refl _⟩,by repeat(first|exact Drawn0.refl _|apply Drawn0.step)⟩
  ·replace c5:=Bool.eq_false_iff.mpr c5;subst c5;rw[if_neg (show¬(false=true) by decide)]at H;have H':=Asd.mk H;clear H;go_wp2_with (first|((with_reducible refine gate_callee (f:=72) rfl ?_);refine gB (some 9) Try.func72 #[.int .i64 a0,.int .i64 1,.int .i64 3] rfl ?_;(with_reducible refine(spec_l1In.calls a0 1 3 false _ A4.out).mono ?_);rintro e w' ⟨rfl,⟨nd,rfl⟩⟩;refine⟨_,rfl,?_⟩));go_meet
   case rel=>exact⟨_,(true),(by first|rfl|(simp;done)|(simp[*];done)),H',⟨by first|omega|exact Nat.le_refl _⟩,by repeat(first|exact Drawn0.refl _|apply Drawn0.step)⟩
 case rest=>
  clear cc;obtain⟨kq,a6,rfl,HA,dZ,⟨ea,rfl⟩⟩:=hcut;cases kq with
  |zero=>exact absurd HA.out (by simp[spec_HoldsIn.j0])
  |succ kj2=>
   have H:=HA.out;clear HA;simp only[spec_HoldsIn.j0]at H;by_cases c6:a6=true
   ·subst c6;rw[if_pos rfl]at H;obtain⟨rfl,rfl⟩:=s2 H;go_wp2;go_ret2;exact⟨by first|rfl|(simp;done)|(simp[*];done),by repeat(first|exact Drawn0.refl _|apply Drawn0.step)⟩
   ·replace c6:=Bool.eq_false_iff.mpr c6;subst c6;rw[if_neg (show¬(false=true) by decide)]at H;obtain⟨⟨t211,t212⟩,A7,H⟩:=bE H;try dsimp only at H
    rcases iT H with⟨c8,H⟩|⟨c8,H⟩
    ·have cm:(t212==(a1.size:Int))=true:=beq_iff_eq.mpr c8;have cn:(t212 !=(a1.size:Int))=false:=bne_eq_false_iff_eq.mpr c8;clear c8;obtain⟨rfl,rfl⟩:=s2 H;go_wp2_with (first|((with_reducible refine gate_callee (f:=119) rfl ?_);refine gB (some 19) Try.func119 #[.int .i64 a0,.string a1,.int .i64 0] rfl ?_;(with_reducible refine(spec_l1Read.calls kj2 a0 a1 0 t211 t212 _ A7.out).mono ?_);rintro e w' ⟨rfl,⟨nd,rfl⟩⟩;refine⟨_,rfl,?_⟩));go_ret2;exact⟨by first|rfl|(simp;done)|(simp[*];done),by repeat(first|exact Drawn0.refl _|apply Drawn0.step)⟩
    ·have cm:(t212==(a1.size:Int))=false:=beq_eq_false_iff_ne.mpr c8;have cn:(t212 !=(a1.size:Int))=true:=bne_iff_ne.mpr c8;obtain⟨rfl,rfl⟩:=s2 H;go_wp2_with (first|((with_reducible refine gate_callee (f:=119) rfl ?_);refine gB (some 19) Try.func119 #[.int .i64 a0,.string a1,.int .i64 0] rfl ?_;(with_reducible refine(spec_l1Read.calls kj2 a0 a1 0 t211 t212 _ A7.out).mono ?_);rintro e w' ⟨rfl,⟨nd,rfl⟩⟩;refine⟨_,rfl,?_⟩));go_ret2;exact⟨by first|rfl|(simp;done)|(simp[*];done),by repeat(first|exact Drawn0.refl _|apply Drawn0.step)⟩

/-! ### spec_l10Copy: function 107 -/
def spec_l10Copy.l0:Nat→Int→Int→List Int→List (List Int)→Int→List Int→List (List Int)→Option (Int×List Int×(List (List Int)))
 |0,_,_,_,_,_,_,_=>none
 |k+1,x4,x214000,x214001,x214002,x222000,x222001,x222002=>if x4<(x214002.length:Int)then((some (([]:List Int):List Int)).bind fun aM=>(if 0≤x4 then(if aM.length+(rd_L1 x214002 x4).length<17592186044416 then(if x222002.length<5864062014805 then(spec_l10Copy.l0 k (wrap64 (x4+1)) x214000 x214001 x214002 x222000 x222001 (x222002++ [(aM++(rd_L1 x214002 x4))]))else(none))else(none))else(none)))else(some (x222000,x222001,x222002))
def spec_l10Copy.f (k:Nat) (af:Int) (ae:List Int) (aj:List (List Int)):Option (Int×List Int×(List (List Int))):=(some (([]:List Int):List Int)).bind fun ax=>(if ax.length+ae.length<17592186044416 then(spec_l10Copy.l0 k 0 af ae aj af (ax++ae) ([]:List (List Int)))else(none))
theorem spec_l10Copy.mono_l:∀k,(∀y0 y1 y2 y3 y4 y5 y6,LeO (spec_l10Copy.l0 k y0 y1 y2 y3 y4 y5 y6) (spec_l10Copy.l0 (k+1) y0 y1 y2 y3 y4 y5 y6))
 |0=>fun _ _ _ _ _ _ _ r h=>by simp[spec_l10Copy.l0]at h
 |k+1=>by
  have bg:=spec_l10Copy.mono_l k
  ·intro y0 y1 y2 y3 y4 y5 y6;unfold spec_l10Copy.l0;repeat' first
   |(with_reducible first|exact bg _ _ _ _ _ _ _|exact LeO.refl _|exact LeO.none _|refine LeO.ite ?_ ?_|refine LeO.bind ?_ (fun _=>?_))
   |refine LeO.ite ?_ ?_
   |refine LeO.bind ?_ (fun _=>?_)
theorem spec_l10Copy.mono:∀a0 a1 a2 k,LeO (spec_l10Copy.f k a0 a1 a2) (spec_l10Copy.f (k+1) a0 a1 a2):=by
 intro a0 a1 a2 k;have bg:=spec_l10Copy.mono_l k;unfold spec_l10Copy.f
 repeat' first
   |(with_reducible first|exact bg _ _ _ _ _ _ _|exact LeO.refl _|exact LeO.none _|refine LeO.ite ?_ ?_|refine LeO.bind ?_ (fun _=>?_))
   |refine LeO.ite ?_ ?_
   |refine LeO.bind ?_ (fun _=>?_)
def spec_l10Copy.T1:Bool×List (List Nat×List Nat):=(true,[([],[]),([0],[0]),([],[]),([],[]),([3],[3]),([2,4],[2,4]),([1,5],[1,5]),([],[]),([7,6,5,0,1,2,3,4,5,6,7],[6,7])])
def spec_l10Copy.B1:List Nat:=[0,1,0,0,8,28,63,0,255]
theorem spec_l10Copy.tab1:rtab .any (opsOf Try.f107 1)=spec_l10Copy.T1:=by kernel_rfl
theorem spec_l10Copy.bits1:waitsOk spec_l10Copy.T1.2 spec_l10Copy.B1=true:=by kernel_rfl
def spec_l10Copy.T5:Bool×List (List Nat×List Nat):=(true,[([],[]),([0],[0]),([],[]),([],[]),([3],[3]),([],[]),([4,5],[4,5]),([6],[6]),([2,7],[2,7]),([8],[8]),([1,9,8],[1,9]),([0,1,2,3,4,5,6,7,8,9,10],[]),([11,10,10,0,1,2,3,4,5,6,7,8,9,10],[10,11])])
def spec_l10Copy.B5:List Nat:=[0,1,0,0,8,0,56,120,252,508,1023,2047,4095]
theorem spec_l10Copy.tab5:rtab .any (opsOf Try.f107 5)=spec_l10Copy.T5:=by kernel_rfl
theorem spec_l10Copy.bits5:waitsOk spec_l10Copy.T5.2 spec_l10Copy.B5=true:=by kernel_rfl
set_option maxHeartbeats 8000000 in
set_option maxRecDepth 100000 in
theorem spec_l10Copy.calls (k:Nat) (af:Int) (aA:Option Addr) (aC:Nat) (ae:List Int) (aH:Option Addr) (aD:Nat) (aj:List (List Int)) (r1:Int) (r2:List Int) (r3:List (List Int)) (w:World) (bu:Kd.C (Kd.int .i64) w aA ae.length ae) (bw:ae.length≤aC) (bx:Kd.C (Kd.slice 3 (Kd.int .i64)) w aH aj.length aj) (bz:aj.length≤aD) (h:spec_l10Copy.f k af ae aj=some (r1,r2,r3)):
  Calls Try.prog 107 #[.agg #[.int .i64 af,.slice aA ae.length aC,.slice aH aj.length aD]] w fun e w'=>∃cd cp:Value,e= .returned (.agg #[.int .i64 r1,cd,cp])∧Kd.R (Kd.int .i64) 3 w' w.heap.size (fun _=>True) cd r2∧Kd.S (Kd.slice 3 (Kd.int .i64)) 55 w' w.heap.size (fun k_=>some k_≠(cd:Value).ownBlock) cp r3∧Below w.heap.size w w':=by
 have dT:=Try.underlying58;have bh:=Asd.mk bu;have dv:=Asd.mk bw;clear bu bw;have cf:=Asd.mk bx;have dw:=Asd.mk bz;clear bx bz;have HB:=Asd.mk (Below.refl w.heap.size w);have H:((some (([]:List Int):List Int)).bind fun ax=>(if ax.length+ae.length<17592186044416 then(spec_l10Copy.l0 k 0 af ae aj af (ax++ae) ([]:List (List Int)))else(none)))=some (r1,r2,r3):=h;clear h;obtain⟨ax,bj⟩:∃y_:List Int,y_=(([]:List Int)):=⟨_,rfl⟩;replace H:(if ax.length+ae.length<17592186044416 then(spec_l10Copy.l0 k 0 af ae aj af (ax++ae) ([]:List (List Int)))else(none))=some (r1,r2,r3):=by first|(rw[bj];exact H)|exact H
 have a7:=Asd.mk bj;clear bj;obtain⟨c2,H⟩:=iN H;have bA:=Asd.mk c2;clear c2;obtain⟨ao,bk⟩:∃y_:List Int,y_=(ax++ae):=⟨_,rfl⟩;replace H:(spec_l10Copy.l0 k 0 af ae aj af ao ([]:List (List Int)))=some (r1,r2,r3):=by first|(rw[bk];exact H)|exact H
 have bl:=Asd.mk bk;clear bk;have H':=Asd.mk H;clear H;go_enter Try.func107,Try.ntmps107;try go_wp2_with (first|((with_reducible refine gate_dst (N:=1) rfl ?_);refine bxA 1 #[.int .i64 af,.slice aA ae.length aC,.slice aH aj.length aD] 58 ?_;intro ak hg w3 aw hb;have o:=Asd.mk (aw);have dx:=bG HB hg;have dy:=bG HB hg;replace HB:=bW HB hb;clear hb aw hg)|((with_reducible refine gate_dst (N:=2) rfl ?_);refine bxA 2 #[.int .i64 0,.slice none 0 0,.slice none 0 0] 58 ?_;intro ay hg w4 aw hb;have J:=Asd.mk (aw);have dz:=bG HB hg;have dA:=bG HB hg;replace HB:=bW HB hb;have aN:=bL o hg;have aQ:=bM o hg;replace o:=bU o hb;clear hb aw hg))
 replace o:=Asd.mk (bkD o.out);replace J:=Asd.mk (bkD J.out);replace HB:=Asd.mk (bwD HB.out);refine start_ (n:=9) (S:=fun w'=>w'.cell? ⟨ak,0,none⟩=some (.int .i64 af)∧w'.cell? ⟨ak,1,none⟩=some (.slice aA ae.length aC)∧w'.cell? ⟨ak,2,none⟩=some (.slice aH aj.length aD)) (ds:=[]) #[false,false,false,false,false,false,false,false,false] (by kernel_rfl) rfl rfl ⟨(bkC o.out 0).trans rfl,(bkC o.out 1).trans rfl,(bkC o.out 2).trans rfl⟩ (fun hHeld=>?_);refine with_tabW spec_l10Copy.tab1 spec_l10Copy.bits1 (fun aq br=>?_);generalize w4.drew=w5 at o J HB hHeld⊢;refine pure_ (i:=0) (N:=some 5) (v:=?_) (a':=?_) #[true,false,false,false,false,false,false,false,false] rfl rfl (any_of aq.out (by kernel_rfl)) (fun _ _ _ h=>h) (Or.inl ⟨by rfl,?_⟩) ?_ ?_;rotate_left
 ·intro w';go_simp;with_reducible rfl
 rotate_left
 ·simp only[Act.put,qA,qB,qC,i64_w,i32_w];rfl
 refine pure_ (i:=3) (N:=some 8) (v:=?_) (a':=?_) #[true,false,false,true,false,false,false,false,false] rfl rfl (any_of aq.out (by kernel_rfl)) (fun _ _ _ h=>h) (Or.inl ⟨by rfl,?_⟩) ?_ ?_;rotate_left
 ·intro w';go_simp;with_reducible rfl
 rotate_left
 ·simp only[Act.put,qA,qB,qC,i64_w,i32_w];rfl
 refine take_ (i:=1) (N:=some 6) (v:=?_) (a':=?_) #[true,true,false,true,false,false,false,false,false] rfl rfl (take_ofW aq.out br.out (by kernel_rfl)) (fun _ _ _ h=>h) (Or.inl ⟨by rfl,?_⟩) hHeld ?_ ?_;rotate_left
 ·rintro w' ⟨s0,s1,s2⟩;go_simp;with_reducible rfl
 rotate_left
 ·simp only[Act.put,qA,qB,qC,i64_w,i32_w];rfl
 refine take_ (i:=4) (N:=some 9) (v:=?_) (a':=?_) #[true,true,false,true,true,false,false,false,false] rfl rfl (take_ofW aq.out br.out (by kernel_rfl)) (fun _ _ _ h=>h) (Or.inl ⟨by rfl,?_⟩) hHeld ?_ ?_;rotate_left
 ·rintro w' ⟨s0,s1,s2⟩;go_simp;with_reducible rfl
 rotate_left
 ·simp only[Act.put,qA,qB,qC,i64_w,i32_w];rfl
 refine join_ (σ:=Value×Value×Nat) 1 Mk4_2 (fun s_=>[(7,s_.1),(10,s_.2.1),(3,.pointer (some ⟨s_.2.2,0,none⟩)),(11,.agg #[.int .i64 af,s_.2.1,.slice none 0 0])]) (fun s_ w'=>(w'.cell? ⟨ak,0,none⟩=some (.int .i64 af)∧w'.cell? ⟨ak,1,none⟩=some (.slice aA ae.length aC)∧w'.cell? ⟨ak,2,none⟩=some (.slice aH aj.length aD))∧(Kd.R (Kd.int .i64) 3 w' w.heap.size (fun _=>True) s_.2.1 ao)∧(w'.heap[ak]?=some (.cells #[.int .i64 af,.slice aA ae.length aC,.slice aH aj.length aD] 58 (0,0)))∧(w'.heap[ay]?=some (.cells #[.int .i64 0,.slice none 0 0,.slice none 0 0] 58 (0,0)))∧(w'.heap[s_.2.2]?=some (.cells #[.int .i64 0,.slice none 0 0,.slice none 0 0] 58 (0,0)))∧(w.heap.size≤s_.2.2)∧(w.heap.size≤s_.2.2)∧(ak≠s_.2.2)∧(s_.2.2≠ak)∧(ay≠s_.2.2)∧(s_.2.2≠ay)∧(Below w.heap.size w w')) ?_ ?_;rotate_left
 ·intro hCont;refine two_ (i:=2) (j:=7) (Ni:=some 7) (Nj:=some 3) #[true,true,true,true,true,false,false,false,false] #[true,true,false,true,true,false,false,true,false] rfl rfl rfl rfl (two_of aq.out (by kernel_rfl)) (by decide) (by decide) (fun K hK=>?_) (fun K hK=>?_)
  ·skip;refine Kd.R_lit_step (Kd.int .i64) _ 3 ?hg (N:=7) ?hd (xs:=([]:List Int)) (inner:=[]) (ok:=fun _=>True) (okp:=fun _=>True) ?hr ?hp (fun _ hk=>hk) trivial (Below.refl _ _) (Nat.le_refl _) (by simp) ?_;(case hd=>rfl);(case hg=>rfl);(case hr=>first|(go_simp;done)|(go_simp;rfl));(case hp=>exact(Reps.none _ _));intro aK w6 bB hb bD aT;clear bD aT;(first|rw[←a7.out]at bB|(simp only[Int.reduceToNat]at bB;rw[←a7.out]at bB));have an:=Asd.mk (Kd.R_lower bB (below_size (wZ HB)));replace o:=bU o hb;replace J:=bU J hb;replace HB:=bW HB hb;clear hb bB;refine hK.out _ _ ⟨(bkC o.out 0).trans rfl,(bkC o.out 1).trans rfl,(bkC o.out 2).trans rfl⟩ (fun hHeld=>?_);clear hK K;refine norm_ (a':=?_) ?_ ?_;rotate_left
   ·show Act.put _ (some 7) _=_
    simp only[Act.put,qA,qB,qC,i64_w,i32_w];rfl
   refine two_ (i:=5) (j:=7) (Ni:=some 10) (Nj:=some 3) #[true,true,true,true,true,true,false,false,false] Mk4_0 rfl rfl rfl rfl (two_of aq.out (by kernel_rfl)) (by decide) (by decide) (fun K hK=>?_) (fun K hK=>?_)
   ·skip;refine Kd.R_append_rows_step (Kd.int .i64) (w0:=w) w.heap.size (by rfl) (.tmp 7) (.tmp 9) 55 3 (.int .i64 0) 8 rfl Try.underlying55 info3 rfl (by decide) (by omega) aK ax ae _ _ _ (fun _=>True) (fun _=>False) rfl rfl ?aO ?aR (fun _ _ h=>h) (fun _ h=>h.elim) ?aF ?aB ?aS ?aL ?_;(case aR=>repeat(first|exact(Kd.C_below bh.out HB.out)|(with_reducible refine Kd.C_alloc ?_ _)|(with_reducible refine Kd.C_drewN ?_ _)|(with_reducible refine Kd.C_drew ?_)));(case aB=>exact(wZ HB));(case aF=>exact(fun _ _=>trivial));(case aO=>exact(rS an));(case aS=>exact(below_size (wZ HB)));(case aL=>have:=bA.out;omega);intro bq w8 ho hb hg aU
    rw[←bl.out]at ho;replace o:=bN o hg (Kd.R_ne an.out o.out (by decide));replace J:=bN J hg (Kd.R_ne an.out J.out (by decide));replace HB:=Asd.mk (hb);have ar:=Asd.mk (ho);clear an ho hb hg aU
    obtain⟨dB,dC,cq⟩:=Kd.R_slice ar.out;(first|subst cq|(injection cq with f1_ f2_ f3_;have aV:=f1_.symm;have aW:=f3_.symm;clear f1_ f2_ f3_;subst aV;subst aW));refine hK.out _ _ ⟨(bkC o.out 0).trans rfl,(bkC o.out 1).trans rfl,(bkC o.out 2).trans rfl⟩ (fun hHeld=>?_);clear hK K;refine norm_ (a':=?_) ?_ ?_;rotate_left
    ·show Act.put _ (some 10) _=_
     simp only[Act.put,qA,qB,qC,i64_w,i32_w];rfl
    refine pure_ (i:=6) (N:=some 11) (v:=?_) (a':=?_) #[true,true,true,true,true,true,true,false,false] rfl rfl (any_of aq.out (by kernel_rfl)) (fun _ _ _ h=>h) (Or.inl ⟨by rfl,?_⟩) ?_ ?_;rotate_left
    ·intro w';go_simp;with_reducible rfl
    rotate_left
    ·simp only[Act.put,qA,qB,qC,i64_w,i32_w];rfl
    refine one_ (i:=7) (N:=some 3) Mk4_2 rfl rfl (one_of aq.out (by kernel_rfl)) (by decide) (fun K hK=>?_);refine box_step ?hg (N:=3) ?hd (cs:= #[.int .i64 0,.slice none 0 0,.slice none 0 0]) (t:=58) ?hr ?_;(case hd=>rfl);(case hg=>rfl);(case hr=>first|(go_simp;done)|(go_simp;rfl));intro ab hg w10 aw hb;replace ar:=bR ar hb;have I:=Asd.mk (aw);have aI:=bG HB hg;have aJ:=bG HB hg;replace HB:=bW HB hb;have aa:=bL o hg;have ad:=bM o hg;replace o:=bU o hb;have ag:=bL J hg;have ah:=bM J hg;replace J:=bU J hb;clear hb aw hg;refine hK.out _ _ ⟨(bkC o.out 0).trans rfl,(bkC o.out 1).trans rfl,(bkC o.out 2).trans rfl⟩ (fun hHeld=>?_);clear hK K;refine norm_ (a':=?_) ?_ ?_;rotate_left
    ·show Act.put _ (some 3) _=_
     simp only[Act.put,qA,qB,qC,i64_w,i32_w];rfl
    exact norm_ (by simp only[putAll,Act.put,qA,qB,qC]) (hCont (aK,.slice dB ao.length dC,ab) _ ⟨hHeld,(rS ar),(kS o),(kS J),(kS I),aI.out,aJ.out,aa.out,ad.out,ag.out,ah.out,(wZ HB)⟩)
   ·skip;refine box_step ?hg (N:=3) ?hd (cs:= #[.int .i64 0,.slice none 0 0,.slice none 0 0]) (t:=58) ?hr ?_;(case hd=>rfl);(case hg=>rfl);(case hr=>first|(go_simp;done)|(go_simp;rfl));intro ab hg w8 aw hb;replace an:=bR an hb;have I:=Asd.mk (aw);have aI:=bG HB hg;have aJ:=bG HB hg;replace HB:=bW HB hb;have aa:=bL o hg;have ad:=bM o hg;replace o:=bU o hb;have ag:=bL J hg;have ah:=bM J hg;replace J:=bU J hb;clear hb aw hg;refine hK.out _ _ ⟨(bkC o.out 0).trans rfl,(bkC o.out 1).trans rfl,(bkC o.out 2).trans rfl⟩ (fun hHeld=>?_);clear hK K;refine norm_ (a':=?_) ?_ ?_;rotate_left
    ·show Act.put _ (some 3) _=_
     simp only[Act.put,qA,qB,qC,i64_w,i32_w];rfl
    refine one_ (i:=5) (N:=some 10) Mk4_1 rfl rfl (one_of aq.out (by kernel_rfl)) (by decide) (fun K hK=>?_);refine Kd.R_append_rows_step (Kd.int .i64) (w0:=w) w.heap.size (by rfl) (.tmp 7) (.tmp 9) 55 3 (.int .i64 0) 8 rfl Try.underlying55 info3 rfl (by decide) (by omega) aK ax ae _ _ _ (fun _=>True) (fun _=>False) rfl rfl ?aO ?aR (fun _ _ h=>h) (fun _ h=>h.elim) ?aF ?aB ?aS ?aL ?_;(case aR=>repeat(first|exact(Kd.C_below bh.out HB.out)|(with_reducible refine Kd.C_alloc ?_ _)|(with_reducible refine Kd.C_drewN ?_ _)|(with_reducible refine Kd.C_drew ?_)));(case aB=>exact(wZ HB));(case aF=>exact(fun _ _=>trivial));(case aO=>exact(rS an));(case aS=>exact(below_size (wZ HB)));(case aL=>have:=bA.out;omega);intro bq w9 ho hb hg aU
    rw[←bl.out]at ho;replace o:=bN o hg (Kd.R_ne an.out o.out (by decide));replace J:=bN J hg (Kd.R_ne an.out J.out (by decide));replace I:=bN I hg (Kd.R_ne an.out I.out (by decide));replace HB:=Asd.mk (hb);have ar:=Asd.mk (ho);clear an ho hb hg aU
    obtain⟨bF,bH,ba⟩:=Kd.R_slice ar.out;(first|subst ba|(injection ba with f1_ f2_ f3_;have aV:=f1_.symm;have aW:=f3_.symm;clear f1_ f2_ f3_;subst aV;subst aW));refine hK.out _ _ ⟨(bkC o.out 0).trans rfl,(bkC o.out 1).trans rfl,(bkC o.out 2).trans rfl⟩ (fun hHeld=>?_);clear hK K;refine norm_ (a':=?_) ?_ ?_;rotate_left
    ·show Act.put _ (some 10) _=_
     simp only[Act.put,qA,qB,qC,i64_w,i32_w];rfl
    refine pure_ (i:=6) (N:=some 11) (v:=?_) (a':=?_) Mk4_2 rfl rfl (any_of aq.out (by kernel_rfl)) (fun _ _ _ h=>h) (Or.inl ⟨by rfl,?_⟩) ?_ ?_;rotate_left
    ·intro w';go_simp;with_reducible rfl
    rotate_left
    ·simp only[Act.put,qA,qB,qC,i64_w,i32_w];rfl
    exact norm_ (by simp only[putAll,Act.put,qA,qB,qC]) (hCont (aK,.slice bF ao.length bH,ab) _ ⟨hHeld,(rS ar),(kS o),(kS J),(kS I),aI.out,aJ.out,aa.out,ad.out,ag.out,ah.out,(wZ HB)⟩)
  ·skip;refine box_step ?hg (N:=3) ?hd (cs:= #[.int .i64 0,.slice none 0 0,.slice none 0 0]) (t:=58) ?hr ?_;(case hd=>rfl);(case hg=>rfl);(case hr=>first|(go_simp;done)|(go_simp;rfl));intro ab hg w6 aw hb;have I:=Asd.mk (aw);have aI:=bG HB hg;have aJ:=bG HB hg;replace HB:=bW HB hb;have aa:=bL o hg;have ad:=bM o hg;replace o:=bU o hb;have ag:=bL J hg;have ah:=bM J hg;replace J:=bU J hb;clear hb aw hg;refine hK.out _ _ ⟨(bkC o.out 0).trans rfl,(bkC o.out 1).trans rfl,(bkC o.out 2).trans rfl⟩ (fun hHeld=>?_);clear hK K;refine norm_ (a':=?_) ?_ ?_;rotate_left
   ·show Act.put _ (some 3) _=_
    simp only[Act.put,qA,qB,qC,i64_w,i32_w];rfl
   refine one_ (i:=2) (N:=some 7) Mk4_0 rfl rfl (one_of aq.out (by kernel_rfl)) (by decide) (fun K hK=>?_);refine Kd.R_lit_step (Kd.int .i64) _ 3 ?hg (N:=7) ?hd (xs:=([]:List Int)) (inner:=[]) (ok:=fun _=>True) (okp:=fun _=>True) ?hr ?hp (fun _ hk=>hk) trivial (Below.refl _ _) (Nat.le_refl _) (by simp) ?_;(case hd=>rfl);(case hg=>rfl);(case hr=>first|(go_simp;done)|(go_simp;rfl));(case hp=>exact(Reps.none _ _));intro aK w7 bJ hb bD aT;clear bD aT;(first|rw[←a7.out]at bJ|(simp only[Int.reduceToNat]at bJ;rw[←a7.out]at bJ));have an:=Asd.mk (Kd.R_lower bJ (below_size (wZ HB)));replace o:=bU o hb;replace J:=bU J hb;replace I:=bU I hb;replace HB:=bW HB hb;clear hb bJ;refine hK.out _ _ ⟨(bkC o.out 0).trans rfl,(bkC o.out 1).trans rfl,(bkC o.out 2).trans rfl⟩ (fun hHeld=>?_);clear hK K;refine norm_ (a':=?_) ?_ ?_;rotate_left
   ·show Act.put _ (some 7) _=_
    simp only[Act.put,qA,qB,qC,i64_w,i32_w];rfl
   refine one_ (i:=5) (N:=some 10) Mk4_1 rfl rfl (one_of aq.out (by kernel_rfl)) (by decide) (fun K hK=>?_);refine Kd.R_append_rows_step (Kd.int .i64) (w0:=w) w.heap.size (by rfl) (.tmp 7) (.tmp 9) 55 3 (.int .i64 0) 8 rfl Try.underlying55 info3 rfl (by decide) (by omega) aK ax ae _ _ _ (fun _=>True) (fun _=>False) rfl rfl ?aO ?aR (fun _ _ h=>h) (fun _ h=>h.elim) ?aF ?aB ?aS ?aL ?_;(case aR=>repeat(first|exact(Kd.C_below bh.out HB.out)|(with_reducible refine Kd.C_alloc ?_ _)|(with_reducible refine Kd.C_drewN ?_ _)|(with_reducible refine Kd.C_drew ?_)));(case aB=>exact(wZ HB));(case aF=>exact(fun _ _=>trivial));(case aO=>exact(rS an));(case aS=>exact(below_size (wZ HB)));(case aL=>have:=bA.out;omega);intro bq w9 ho hb hg aU
   rw[←bl.out]at ho;replace o:=bN o hg (Kd.R_ne an.out o.out (by decide));replace J:=bN J hg (Kd.R_ne an.out J.out (by decide));replace I:=bN I hg (Kd.R_ne an.out I.out (by decide));replace HB:=Asd.mk (hb);have ar:=Asd.mk (ho);clear an ho hb hg aU
   obtain⟨bF,bH,ba⟩:=Kd.R_slice ar.out;(first|subst ba|(injection ba with f1_ f2_ f3_;have aV:=f1_.symm;have aW:=f3_.symm;clear f1_ f2_ f3_;subst aV;subst aW));refine hK.out _ _ ⟨(bkC o.out 0).trans rfl,(bkC o.out 1).trans rfl,(bkC o.out 2).trans rfl⟩ (fun hHeld=>?_);clear hK K;refine norm_ (a':=?_) ?_ ?_;rotate_left
   ·show Act.put _ (some 10) _=_
    simp only[Act.put,qA,qB,qC,i64_w,i32_w];rfl
   refine pure_ (i:=6) (N:=some 11) (v:=?_) (a':=?_) Mk4_2 rfl rfl (any_of aq.out (by kernel_rfl)) (fun _ _ _ h=>h) (Or.inl ⟨by rfl,?_⟩) ?_ ?_;rotate_left
   ·intro w';go_simp;with_reducible rfl
   rotate_left
   ·simp only[Act.put,qA,qB,qC,i64_w,i32_w];rfl
   exact norm_ (by simp only[putAll,Act.put,qA,qB,qC]) (hCont (aK,.slice bF ao.length bH,ab) _ ⟨hHeld,(rS ar),(kS o),(kS J),(kS I),aI.out,aJ.out,aa.out,ad.out,ag.out,ah.out,(wZ HB)⟩)
 rintro⟨aK,bq,ab⟩ w11 ⟨hS_,h0_,h1_,h2_,h3_,h4_,h5_,h6_,h7_,h8_,h9_,h10_⟩;have ar:Asd (Kd.R (Kd.int .i64) 3 w11 w.heap.size (fun _=>True) bq ao):=⟨h0_⟩;replace o:Asd (w11.heap[ak]?=some (.cells #[.int .i64 af,.slice aA ae.length aC,.slice aH aj.length aD] 58 (0,0))):=⟨h1_⟩;replace J:Asd (w11.heap[ay]?=some (.cells #[.int .i64 0,.slice none 0 0,.slice none 0 0] 58 (0,0))):=⟨h2_⟩;have I:Asd (w11.heap[ab]?=some (.cells #[.int .i64 0,.slice none 0 0,.slice none 0 0] 58 (0,0))):=⟨h3_⟩;have aI:Asd (w.heap.size≤ab):=⟨h4_⟩;have aJ:Asd (w.heap.size≤ab):=⟨h5_⟩;have aa:Asd (ak≠ab):=⟨h6_⟩;have ad:Asd (ab≠ak):=⟨h7_⟩;have ag:Asd (ay≠ab):=⟨h8_⟩;have ah:Asd (ab≠ay):=⟨h9_⟩;replace HB:Asd (Below w.heap.size w w11):=⟨h10_⟩;clear h0_ h1_ h2_ h3_ h4_ h5_ h6_ h7_ h8_ h9_ h10_;have hHeld:w11.cell? ⟨ak,0,none⟩=some (.int .i64 af)∧w11.cell? ⟨ak,1,none⟩=some (.slice aA ae.length aC)∧w11.cell? ⟨ak,2,none⟩=some (.slice aH aj.length aD):=hS_;obtain⟨aE,aG,b7⟩:=Kd.R_slice ar.out;(first|subst b7|(injection b7 with f1_ f2_ f3_;have aV:=f1_.symm;have aW:=f3_.symm;clear f1_ f2_ f3_;subst aV;subst aW));refine norm_ (a':=?_) ?_ ?_;rotate_left
 ·simp only[putAll,Act.put,qA,qB,qC];rfl
 refine one_ (i:=8) (N:=none) #[true,true,true,true,true,true,true,true,true] rfl rfl (one_of aq.out (by kernel_rfl)) (by decide) (fun K hK=>?_);have dU:=bC I 0;have dD:=bkF I.out 0;have cr:=aa.out;have ct:=ag.out;have cu:=ad.out;have cv:=ah.out;have dV:=bC I 1;have dE:=bkF I.out 1;have cw:=aa.out;have cx:=ag.out;have cy:=ad.out;have cz:=ah.out;have dW:=bC I 2;have dF:=bkF I.out 2;have cA:=aa.out;have cB:=ag.out;have cC:=ad.out;have cD:=ah.out;refine skip_ (w1:=?_) (by rfl) rfl ?_ ?_;rotate_left
 ·go_simp;rfl
 refine hK.out _ _ ⟨((cell_far (p:=⟨ab,_,none⟩) aa.out _).trans (((cell_far (p:=⟨ab,_,none⟩) aa.out _).trans (((cell_far (p:=⟨ab,_,none⟩) aa.out _).trans (hHeld.1)))))),((cell_far (p:=⟨ab,_,none⟩) aa.out _).trans (((cell_far (p:=⟨ab,_,none⟩) aa.out _).trans (((cell_far (p:=⟨ab,_,none⟩) aa.out _).trans (hHeld.2.1)))))),((cell_far (p:=⟨ab,_,none⟩) aa.out _).trans (((cell_far (p:=⟨ab,_,none⟩) aa.out _).trans (((cell_far (p:=⟨ab,_,none⟩) aa.out _).trans (hHeld.2.2))))))⟩ (fun hHeld=>?_);clear hK K;refine done_ (done_of aq.out (by kernel_rfl)) ?_;try go_wp2
 go_loopg [4] k (fun kq v4 w'=>∃(au:Int) (ai:List (List Int)) (av:Value),v4= .int .i64 au∧Asd (spec_l10Copy.l0 kq au af ae aj af ao ai=some (r1,r2,r3))∧Asd (kq≤k)∧Asd (Kd.R (Kd.int .i64) 3 w' w.heap.size (fun _=>True) (.slice aE ao.length aG) ao)∧Asd (Kd.S (Kd.slice 3 (Kd.int .i64)) 55 w' w.heap.size (fun k_=>some k_≠((.slice aE ao.length aG):Value).ownBlock) av ai)∧Asd (w'.heap[ak]?=some (.cells #[.int .i64 af,(.slice aA ae.length aC),(.slice aH aj.length aD)] 58 (0,0)))∧Asd (w'.heap[ay]?=some (.cells #[.int .i64 0,(.slice none 0 0),(.slice none 0 0)] 58 (0,0)))∧Asd (w'.heap[ab]?=some (.cells #[.int .i64 af,(.slice aE ao.length aG),av] 58 (0,0)))∧Asd (Below w.heap.size w w'))
 case atStart=>exact⟨(0),(([]:List (List Int))),(.slice none 0 0),(by first|rfl|(simp;done)|(simp[*];done)),H',⟨Nat.le_refl _⟩,⟨rT ar⟩,⟨by first|exact Kd.S_nil _ _ _ _ _|exact Kd.N_nil _ _ _ _ _|exact Kd.V_nil _ _ _ _ _|exact Kd.Q_nil _ _ _ _ _|exact Kd.R_nil _ _ _ _ _⟩,⟨kS o⟩,⟨kS J⟩,⟨kP I⟩,⟨wZ HB⟩⟩
 case round=>
  clear H';obtain⟨au,ai,av,rfl,HA,cE,HO_222001,HO_222002,o,J,I,HB⟩:=hrel;cases gk with
  |zero=>exact absurd HA.out (by simp[spec_l10Copy.l0])
  |succ k1=>
   have H:=HA.out;clear HA;simp only[spec_l10Copy.l0]at H;rcases iT H with⟨bO,H⟩|⟨bO,H⟩
   ·have cg:=decide_eq_true bO;clear bO;obtain⟨aM,bn⟩:∃y_:List Int,y_=(([]:List Int)):=⟨_,rfl⟩;replace H:(if 0≤au then(if aM.length+(rd_L1 aj au).length<17592186044416 then(if ai.length<5864062014805 then(spec_l10Copy.l0 k1 (wrap64 (au+1)) af ae aj af ao (ai++ [(aM++(rd_L1 aj au))]))else(none))else(none))else(none))=some (r1,r2,r3):=by first|(rw[bn];exact H)|exact H
    have bT:=Asd.mk bn;clear bn;obtain⟨cF,H⟩:=iN H;have dG:=decide_eq_true cF;clear cF;obtain⟨cG,H⟩:=iN H;have ch:=Asd.mk cG;clear cG;obtain⟨bb,bo⟩:∃y_:List Int,y_=(aM++(rd_L1 aj au)):=⟨_,rfl⟩;replace H:(if ai.length<5864062014805 then(spec_l10Copy.l0 k1 (wrap64 (au+1)) af ae aj af ao (ai++ [bb]))else(none))=some (r1,r2,r3):=by first|(rw[bo];exact H)|exact H
    have cj:=Asd.mk bo;clear bo;obtain⟨cH,H⟩:=iN H;have ck:=Asd.mk cH;clear cH;obtain⟨bV,bp⟩:∃y_:List (List Int),y_=(ai++ [bb]):=⟨_,rfl⟩;replace H:(spec_l10Copy.l0 k1 (wrap64 (au+1)) af ae aj af ao bV)=some (r1,r2,r3):=by first|(rw[bp];exact H)|exact H
    have cl:=Asd.mk bp;clear bp;have H':=Asd.mk H;clear H;have dH:=aN.out;have dI:=aQ.out;have dJ:=aa.out;have dK:=ad.out;obtain⟨cI,cJ,cK,cL,cM,cN⟩:=b3 o;try go_wp2
    replace HO_222001:=Asd.mk (Kd.R_drew HO_222001.out);replace HO_222002:=Asd.mk (Kd.S_drew HO_222002.out);replace o:=Asd.mk (bkD o.out);replace J:=Asd.mk (bkD J.out);replace I:=Asd.mk (bkD I.out);replace HB:=Asd.mk (bwD HB.out);have bZ:0≤(au:Int):=odt;have b0:au<(aj.length:Int):=odt;obtain⟨b1,b5,b6,cO,az,bc,bd⟩:=at_L1 cf.out au bZ b0;have al:=az;cases cO;replace az:=(HB.out.cell (World.block_lt_of_cell? w _ az)).trans az;have bf:=Asd.mk bd;have cP:=Asd.mk bc;clear bd bc;replace bZ:=eq_true bZ;replace b0:=eq_true b0;refine start_ (n:=13) (S:=fun w'=>w'.cell? ⟨ab,0,none⟩=some (.int .i64 af)∧w'.cell? ⟨ab,1,none⟩=some (.slice aE ao.length aG)∧w'.cell? ⟨ab,2,none⟩=some (av)∧w'.cell? ⟨ak,0,none⟩=some (.int .i64 af)∧w'.cell? ⟨ak,1,none⟩=some (.slice aA ae.length aC)∧w'.cell? ⟨ak,2,none⟩=some (.slice (some b1) aj.length aD)∧w'.cell? (b1.add (au).toNat)=some (.slice b5 (rd_L1 aj au).length b6)) (ds:=[12]) #[false,false,false,false,false,false,false,false,false,false,false,false,false] (by kernel_rfl) rfl rfl ⟨(bkC I.out 0).trans rfl,(bkC I.out 1).trans rfl,(bkC I.out 2).trans rfl,(bkC o.out 0).trans rfl,(bkC o.out 1).trans rfl,(bkC o.out 2).trans rfl,((HB.out.cell (World.block_lt_of_cell? w _ al)).trans al)⟩ (fun hHeld=>?_);refine with_tabW spec_l10Copy.tab5 spec_l10Copy.bits5 (fun aq br=>?_);generalize wr.drew=eb at HO_222001 HO_222002 o J I HB bf az hHeld⊢;refine pure_ (i:=0) (N:=some 19) (v:=?_) (a':=?_) #[true,false,false,false,false,false,false,false,false,false,false,false,false] rfl rfl (any_of aq.out (by kernel_rfl)) (fun _ _ _ h=>h) (Or.inl ⟨by rfl,?_⟩) ?_ ?_;rotate_left
    ·intro w';go_simp;with_reducible rfl
    rotate_left
    ·simp only[Act.put,qA,qB,qC,i64_w,i32_w];rfl
    refine pure_ (i:=3) (N:=some 22) (v:=?_) (a':=?_) #[true,false,false,true,false,false,false,false,false,false,false,false,false] rfl rfl (any_of aq.out (by kernel_rfl)) (fun _ _ _ h=>h) (Or.inl ⟨by rfl,?_⟩) ?_ ?_;rotate_left
    ·intro w';go_simp;with_reducible rfl
    rotate_left
    ·simp only[Act.put,qA,qB,qC,i64_w,i32_w];rfl
    refine pure_ (i:=5) (N:=some 24) (v:=?_) (a':=?_) #[true,false,false,true,false,true,false,false,false,false,false,false,false] rfl rfl (any_of aq.out (by kernel_rfl)) (fun _ _ _ h=>h) (Or.inl ⟨by rfl,?_⟩) ?_ ?_;rotate_left
    ·intro w';go_simp;with_reducible rfl
    rotate_left
    ·simp only[Act.put,qA,qB,qC,i64_w,i32_w];rfl
    refine take_ (i:=1) (N:=some 20) (v:=?_) (a':=?_) #[true,true,false,true,false,true,false,false,false,false,false,false,false] rfl rfl (take_ofW aq.out br.out (by kernel_rfl)) (fun _ _ _ h=>h) (Or.inl ⟨by rfl,?_⟩) hHeld ?_ ?_;rotate_left
    ·rintro w' ⟨s0,s1,s2,s3,s4,s5,s6⟩;go_simp;with_reducible rfl
    rotate_left
    ·simp only[Act.put,qA,qB,qC,i64_w,i32_w];rfl
    refine take_ (i:=4) (N:=some 23) (v:=?_) (a':=?_) #[true,true,false,true,true,true,false,false,false,false,false,false,false] rfl rfl (take_ofW aq.out br.out (by kernel_rfl)) (fun _ _ _ h=>h) (Or.inl ⟨by rfl,?_⟩) hHeld ?_ ?_;rotate_left
    ·rintro w' ⟨s0,s1,s2,s3,s4,s5,s6⟩;go_simp;with_reducible rfl
    rotate_left
    ·simp only[Act.put,qA,qB,qC,i64_w,i32_w];rfl
    refine pure_ (i:=6) (N:=some 25) (v:=?_) (a':=?_) #[true,true,false,true,true,true,true,false,false,false,false,false,false] rfl rfl (any_of aq.out (by kernel_rfl)) (fun _ _ _ h=>h) (Or.inl ⟨by rfl,?_⟩) ?_ ?_;rotate_left
    ·intro w';go_simp;with_reducible rfl
    rotate_left
    ·simp only[Act.put,qA,qB,qC,i64_w,i32_w];rfl
    refine take_ (i:=7) (N:=some 26) (v:=?_) (a':=?_) #[true,true,false,true,true,true,true,true,false,false,false,false,false] rfl rfl (take_ofW aq.out br.out (by kernel_rfl)) (fun _ _ _ h=>h) (Or.inl ⟨by rfl,?_⟩) hHeld ?_ ?_;rotate_left
    ·rintro w' ⟨s0,s1,s2,s3,s4,s5,s6⟩;go_simp;with_reducible rfl
    rotate_left
    ·simp only[Act.put,qA,qB,qC,i64_w,i32_w];rfl
    refine one_ (i:=2) (N:=some 21) #[true,true,true,true,true,true,true,true,false,false,false,false,false] rfl rfl (one_of aq.out (by kernel_rfl)) (by decide) (fun K hK=>?_);refine Kd.R_lit_step (Kd.int .i64) _ 3 ?hg (N:=21) ?hd (xs:=([]:List Int)) (inner:=[]) (ok:=fun _=>True) (okp:=fun _=>True) ?hr ?hp (fun _ hk=>hk) trivial (Below.refl _ _) (Nat.le_refl _) (by simp) ?_;(case hd=>rfl);(case hg=>rfl);(case hr=>first|(go_simp;done)|(go_simp;rfl));(case hp=>exact(Reps.none _ _));intro cQ ec aY hb bD aT;clear bD aT;(first|rw[←bT.out]at aY|(simp only[Int.reduceToNat]at aY;rw[←bT.out]at aY));replace HO_222002:=Asd.mk (Kd.S_elder' (sS HO_222002) (Kd.R_base aY) hb);have aZ:=Asd.mk (Kd.R_lower (Kd.R_new' aY (Kd.R_lt (rS HO_222001))) (below_size (wZ HB)));replace HO_222001:=Asd.mk (Kd.R_elder' (rS HO_222001) (Kd.R_base aY) hb);replace o:=bU o hb;replace J:=bU J hb;replace I:=bU I hb;replace HB:=bW HB hb;clear hb aY;refine hK.out _ _ ⟨(bkC I.out 0).trans rfl,(bkC I.out 1).trans rfl,(bkC I.out 2).trans rfl,(bkC o.out 0).trans rfl,(bkC o.out 1).trans rfl,(bkC o.out 2).trans rfl,((HB.out.cell (World.block_lt_of_cell? w _ al)).trans al)⟩ (fun hHeld=>?_);clear hK K;refine norm_ (a':=?_) ?_ ?_;rotate_left
    ·show Act.put _ (some 21) _=_
     simp only[Act.put,qA,qB,qC,i64_w,i32_w];rfl
    refine one_ (i:=8) (N:=some 27) #[true,true,true,true,true,true,true,true,true,false,false,false,false] rfl rfl (one_of aq.out (by kernel_rfl)) (by decide) (fun K hK=>?_);refine Kd.R_append_rows_step (Kd.int .i64) (w0:=w) w.heap.size (by rfl) (.tmp 21) (.tmp 26) 55 3 (.int .i64 0) 8 rfl Try.underlying55 info3 rfl (by decide) (by omega) cQ aM (rd_L1 aj au) _ _ _ (fun k_=>some k_≠(.slice aE ao.length aG:Value).ownBlock) (fun _=>False) rfl rfl ?aO ?aR (fun _ _ h=>h) (fun _ h=>h.elim) ?aF ?aB ?aS ?aL ?_;(case aR=>repeat(first|exact(Kd.C_below bf.out HB.out)|(with_reducible refine Kd.C_alloc ?_ _)|(with_reducible refine Kd.C_drewN ?_ _)|(with_reducible refine Kd.C_drew ?_)));(case aB=>exact(wZ HB));(case aF=>exact(fun k_ hk=>Kd.fresh' (Kd.R_lt (rS HO_222001)) k_ hk));(case aO=>exact(by(repeat apply Kd.RS);exact Kd.R_mono aZ.out (fun _ hk=>hk.2)));(case aS=>exact(below_size (wZ HB)));(case aL=>have:=ch.out;omega);intro v227 ed ho hb hg aU
    rw[←cj.out]at ho;replace HO_222001:=Asd.mk (Kd.R_after (ok:=(fun _=>True)) (rS HO_222001) hg aU);replace HO_222002:=Asd.mk (Kd.S_after (ok:=(fun k_=>some k_≠(.slice aE ao.length aG:Value).ownBlock)) (sS HO_222002) hg aU);replace o:=bN o hg (Kd.R_ne aZ.out o.out (by decide));replace J:=bN J hg (Kd.R_ne aZ.out J.out (by decide));replace I:=bN I hg (Kd.R_ne aZ.out I.out (by decide));replace HB:=Asd.mk (hb);have a8:=Asd.mk (ho);clear aZ ho hb hg aU
    obtain⟨b8,b9,ca⟩:=Kd.R_slice a8.out;(first|subst ca|(injection ca with f1_ f2_ f3_;have aV:=f1_.symm;have aW:=f3_.symm;clear f1_ f2_ f3_;subst aV;subst aW));refine hK.out _ _ ⟨(bkC I.out 0).trans rfl,(bkC I.out 1).trans rfl,(bkC I.out 2).trans rfl,(bkC o.out 0).trans rfl,(bkC o.out 1).trans rfl,(bkC o.out 2).trans rfl,((HB.out.cell (World.block_lt_of_cell? w _ al)).trans al)⟩ (fun hHeld=>?_);clear hK K;refine norm_ (a':=?_) ?_ ?_;rotate_left
    ·show Act.put _ (some 27) _=_
     simp only[Act.put,qA,qB,qC,i64_w,i32_w];rfl
    refine one_ (i:=9) (N:=some 28) #[true,true,true,true,true,true,true,true,true,true,false,false,false] rfl rfl (one_of aq.out (by kernel_rfl)) (by decide) (fun K hK=>?_);refine value_ (w1:=?_) (v:=?_) (by rfl) rfl ?_ ?_;rotate_left 2
    ·go_simp;constructor
     ·rfl
     ·rfl
    refine hK.out _ _ ⟨(bkC (bkA I.out _) 0).trans rfl,(bkC (bkA I.out _) 1).trans rfl,(bkC (bkA I.out _) 2).trans rfl,(bkC (bkA o.out _) 0).trans rfl,(bkC (bkA o.out _) 1).trans rfl,(bkC (bkA o.out _) 2).trans rfl,(World.cell?_alloc_lt _ _ _ (World.block_lt_of_cell? _ _ (((HB.out.cell (World.block_lt_of_cell? w _ al)).trans al)))).trans (((HB.out.cell (World.block_lt_of_cell? w _ al)).trans al))⟩ (fun hHeld=>?_);clear hK K;refine norm_ (a':=?_) ?_ ?_;rotate_left
    ·show Act.put _ (some 28) _=_
     simp only[Act.put,qA,qB,qC,i64_w,i32_w];rfl
    refine one_ (i:=10) (N:=some 29) #[true,true,true,true,true,true,true,true,true,true,true,false,false] rfl rfl (one_of aq.out (by kernel_rfl)) (by decide) (fun K hK=>?_);refine Kd.S_append_step (Kd.slice 3 (Kd.int .i64)) (w0:=w) w.heap.size (by rfl) (.tmp 20) (.tmp 28) 56 55 (.slice none 0 0) 24 rfl Try.underlying56 info55 rfl (by decide) (by omega) av ai bb [.slice b8 bb.length b9] (fun k_=>some k_≠(.slice aE ao.length aG:Value).ownBlock) (fun k_=>some k_=(.slice b8 bb.length b9:Value).ownBlock) rfl rfl ?aP (fun k_ dL=>((Kd.R_mono (ok':=fun k_=>((fun k_=>some k_≠(.slice aE ao.length aG:Value).ownBlock)) k_∧some k_≠(av:Value).ownBlock) (Kd.R_apart' (a8.out) (Kd.S_typed HO_222002.out) (by decide)) (fun k_ hk=>⟨hk.1,hk.2⟩))).1 k_ dL.symm) ?aF ?aO ?aB ?aS ?aL ?_;(case aP=>exact Kd.M_row (Kd.R_mono (Kd.R_tight rfl (Kd.R_mono (ok':=fun k_=>((fun k_=>some k_≠(.slice aE ao.length aG:Value).ownBlock)) k_∧some k_≠(av:Value).ownBlock) (Kd.R_apart' (a8.out) (Kd.S_typed HO_222002.out) (by decide)) (fun k_ hk=>⟨hk.1,hk.2⟩))) (fun _ h_=>h_)));(case aB=>exact(wZ HB));(case aF=>exact(fun k_ hk=>Kd.fresh' (Kd.R_lt (rS HO_222001)) k_ hk));(case aO=>exact(by(repeat apply Kd.SS);exact Kd.S_mono HO_222002.out (fun k_ hk=>⟨hk.1,fun e_=>hk.2 e_⟩)));(case aS=>exact(below_size (wZ HB)));(case aL=>have:=ck.out;omega);intro dX ee ho hb hg aU
    rw[←cl.out]at ho;replace HO_222001:=Asd.mk (Kd.R_over' (rS HO_222001) (Kd.S_typed (sS HO_222002)) (by decide) hg);replace o:=bN o hg (Kd.S_ne HO_222002.out o.out (by decide));replace J:=bN J hg (Kd.S_ne HO_222002.out J.out (by decide));replace I:=bN I hg (Kd.S_ne HO_222002.out I.out (by decide));replace HB:=Asd.mk (hb);have b4:=Asd.mk (ho);clear HO_222002 a8 ho hb hg aU
    obtain⟨cR,cS,cb⟩:=Kd.S_slice b4.out;(first|subst cb|(injection cb with f1_ f2_ f3_;have aV:=f1_.symm;have aW:=f3_.symm;clear f1_ f2_ f3_;subst aV;subst aW));refine hK.out _ _ ⟨(bkC I.out 0).trans rfl,(bkC I.out 1).trans rfl,(bkC I.out 2).trans rfl,(bkC o.out 0).trans rfl,(bkC o.out 1).trans rfl,(bkC o.out 2).trans rfl,((HB.out.cell (World.block_lt_of_cell? w _ al)).trans al)⟩ (fun hHeld=>?_);clear hK K;refine norm_ (a':=?_) ?_ ?_;rotate_left
    ·show Act.put _ (some 29) _=_
     simp only[Act.put,qA,qB,qC,i64_w,i32_w];rfl
    refine pure_ (i:=11) (N:=some 30) (v:=?_) (a':=?_) #[true,true,true,true,true,true,true,true,true,true,true,true,false] rfl rfl (any_of aq.out (by kernel_rfl)) (fun _ _ _ h=>h) (Or.inl ⟨by rfl,?_⟩) ?_ ?_;rotate_left
    ·intro w';go_simp;with_reducible rfl
    rotate_left
    ·simp only[Act.put,qA,qB,qC,i64_w,i32_w];rfl
    refine last_ (i:=12) (N:=none) #[true,true,true,true,true,true,true,true,true,true,true,true,true] rfl rfl (one_of aq.out (by kernel_rfl)) (by decide) (fun K hK=>?_);have dY:=bC I 2;have dM:=bkF I.out 2;have cT:=aa.out;have cU:=ag.out;have cV:=ad.out;have cW:=ah.out;refine skip_ (w1:=?_) (by rfl) rfl ?_ ?_;rotate_left
    ·go_simp;rfl
    refine hK.out _ _ ?_;clear hK K;refine done_ (done_of aq.out (by kernel_rfl)) ?_;try go_wp2
    go_roundg k1
    case measure=>have:=cE.out;omega
    case rel=>exact⟨(wrap64 (au+1)),(bV),(.slice cR bV.length cS),(by first|rfl|(simp;done)|(simp[*];done)),H',⟨by have:=cE.out;omega⟩,⟨rT HO_222001⟩,⟨sT b4⟩,⟨kS o⟩,⟨kS J⟩,⟨kP I⟩,⟨wZ HB⟩⟩
   ·have cg:=decide_eq_false bO;clear bO;obtain⟨rfl,rfl,rfl⟩:=s3 H;have dN:=aN.out;have dO:=aQ.out;have dP:=aa.out;have dQ:=ad.out;obtain⟨cX,cY,c0,c1,da,db⟩:=b3 o;have dR:=ah.out;have dS:=ag.out;obtain⟨dc,dd,de,df,dg,dh⟩:=b3 I;obtain⟨di,dj,dk,dm,dn,dp⟩:=b3 J;obtain⟨dq,dr,dt⟩:=Kd.S_slice HO_222002.out;subst dt;go_wp2;refine bodyPost_ret (results_cell_row rfl _ _ ay 58 #[.int .i64 af,.slice aE ao.length aG,.slice dq ai.length dr] (0,0) _ rfl (kP J) Try.underlying58 rfl (by kernel_rfl)) rfl ?_;exact⟨_,_,by first|rfl|(simp[*,errW_none,errW_some]<;>rfl),rT HO_222001,sT HO_222002,wZ HB⟩

/-! ### spec_SetOk: function 132 -/
def spec_SetOk.f (a0:Int) (a1:Int):Option (Bool):=(spec_l1In.f a0 1 3).bind fun t232=>(if t232=true then((spec_l1All.f a0).bind fun t233=>((spec_l1In.f a1 0 t233).bind fun t234=>(some t234)))else(some false))
set_option maxHeartbeats 8000000 in
set_option maxRecDepth 100000 in
theorem spec_SetOk.calls (a0:Int) (a1:Int) (r:Bool) (w:World) (h:spec_SetOk.f a0 a1=some r):
  Calls Try.prog 132 #[.int .i64 a0,.int .i64 a1] w fun e w'=>e= .returned (.bool r)∧Drawn0 w w':=by
 have H:((spec_l1In.f a0 1 3).bind fun t232=>(if t232=true then((spec_l1All.f a0).bind fun t233=>((spec_l1In.f a1 0 t233).bind fun t234=>(some t234)))else(some false)))=some r:=h;clear h;obtain⟨t232,A3,H⟩:=bE H;try dsimp only at H
 by_cases c4:t232=true
 ·subst c4;rw[if_pos rfl]at H;obtain⟨t233,A5,H⟩:=bE H;try dsimp only at H
  obtain⟨t234,A6,H⟩:=bE H;try dsimp only at H
  obtain rfl:=Option.some.inj H;go_enter Try.func132,Try.ntmps132;go_wp2_with (first|((with_reducible refine gate_callee (f:=72) rfl ?_);refine gB (some 6) Try.func72 #[.int .i64 a0,.int .i64 1,.int .i64 3] rfl ?_;(with_reducible refine(spec_l1In.calls a0 1 3 true _ A3.out).mono ?_);rintro e w' ⟨rfl,⟨nd,rfl⟩⟩;refine⟨_,rfl,?_⟩)|(go_at_call 140;(with_reducible refine(spec_l1All.calls a0 t233 _ A5.out).mono ?_);rintro e w' ⟨rfl,⟨nd,rfl⟩⟩)|(go_at_call 72;(with_reducible refine(spec_l1In.calls a1 0 t233 t234 _ A6.out).mono ?_);rintro e w' ⟨rfl,⟨nd,rfl⟩⟩));go_ret;exact⟨by first|rfl|(simp;done)|(simp[*];done),by repeat(first|exact Drawn0.refl _|apply Drawn0.step)⟩
 ·replace c4:=Bool.eq_false_iff.mpr c4;subst c4;rw[if_neg (show¬(false=true) by decide)]at H;obtain rfl:=Option.some.inj H;go_enter Try.func132,Try.ntmps132;go_wp2_with (first|((with_reducible refine gate_callee (f:=72) rfl ?_);refine gB (some 6) Try.func72 #[.int .i64 a0,.int .i64 1,.int .i64 3] rfl ?_;(with_reducible refine(spec_l1In.calls a0 1 3 false _ A3.out).mono ?_);rintro e w' ⟨rfl,⟨nd,rfl⟩⟩;refine⟨_,rfl,?_⟩));go_ret;exact⟨by first|rfl|(simp;done)|(simp[*];done),by repeat(first|exact Drawn0.refl _|apply Drawn0.step)⟩

end Go.Proofs.Ytihgpkohglcijaa.P
