-- Written by a program of this session (wip/hook.py), which runs the kit's printer; Lean checks it.
import Derived.Test.YtihgpkohglcijaaPx0
import Derived.Test.YtihgpkohglcijaaPx2
import Derived.Test.YtihgpkohglcijaaPx15
import Derived.Test.YtihgpkohglcijaaPx16
namespace Go.Proofs.Ytihgpkohglcijaa.P
open Go.RowKit Go.Proofs.YtihgpkohglcijaaW.PrintWords Go.Proofs.YtihgpkohglcijaaW.PrintLast Go.Proofs.YtihgpkohglcijaaW.PrintMore
attribute [local go_sem] max2_int min2_int max_two min_two max_three min_three max_four min_four   -- for this text's walks alone
set_option linter.unusedVariables false
set_option linter.unusedSimpArgs false

abbrev Mk17_0:Array Bool:= #[false,false,false,false,false,false,false,false,false]
abbrev Mk17_1:Array Bool:= #[true,false,false,false,false,false,false,false,false]
abbrev Mk17_2:Array Bool:= #[true,false,false,true,false,false,false,false,false]
abbrev Mk17_3:Array Bool:= #[true,true,false,true,false,false,false,false,false]
abbrev Mk17_4:Array Bool:= #[true,true,true,true,true,false,false,false,false]
abbrev Mk17_5:Array Bool:= #[true,true,true,true,true,false,false,true,false]
abbrev Mk17_6:Array Bool:= #[true,true,true,true,true,true,false,false,false]
abbrev Mk17_7:Array Bool:= #[true,true,true,true,true,true,false,true,false]
abbrev Mk17_8:Array Bool:= #[true,true,true,true,true,true,true,false,false]
abbrev Mk17_9:Array Bool:= #[true,true,true,true,true,true,true,true,false]
abbrev Mk17_10:Array Bool:= #[true,true,true,true,true,true,true,true,true]
/-! ### impl_holdsIn: function 112 (by hand) -/
def impl_holdsIn.f (k:Nat) (a0:Int) (a1:ByteArray):Option (Int×Bool):=(impl_sentenceReader_sentence.f k a0 a1 0).bind fun c=>if c.2.1=true then(if c.2.2.2.2=(a1.size:Int)then some (c.1,true)else some (-1,false))else some (-1,false)
theorem impl_holdsIn.mono:∀a0 a1 k,LeO (impl_holdsIn.f k a0 a1) (impl_holdsIn.f (k+1) a0 a1):=by
 intro a0 a1 k;unfold impl_holdsIn.f;exact LeO.bind (impl_sentenceReader_sentence.mono _ _ _ _) (fun _=>LeO.refl _)
set_option maxHeartbeats 4000000 in
set_option maxRecDepth 100000 in
theorem impl_holdsIn.calls (k:Nat) (a0:Int) (a1:ByteArray) (r1:Int) (r2:Bool) (w:World) (h:impl_holdsIn.f k a0 a1=some (r1,r2)):
  Calls Try.prog 112 #[.int .i64 a0,.string a1] w fun e w'=>e= .returned (.tuple #[.int .i64 r1,.bool r2])∧Below w.heap.size w w':=by
 have bF:=Asd.mk (Below.refl w.heap.size w);unfold impl_holdsIn.f at h;have dW:=Option.bind_eq_some_iff.mp h;clear h;obtain⟨⟨c1,c2,c3,c4,c5⟩,hc,h⟩:=dW;have HC:=Asd.mk (fun W g hI hB=>impl_sentenceReader_sentence.calls k g a0 a1 0 c1 c2 c3 c4 c5 w W hI hB hc);have HH:=Asd.mk h;clear h hc;have hu:=Try.underlying130;go_enter Try.func112,Try.ntmps112;go_wp2_with (first|((with_reducible refine gate_dst (N:=12) rfl ?_);refine bxA 12 #[.int .i64 a0,.string a1,.int .i64 0] 130 ?_;intro gb hg w1 av hb;have cC:=bW bF hb;have cD:=Asd.mk (av);have cE:=bG bF hg;clear bF;have bF:=cC;have BK:=cD;have GW:=cE;clear cC cD cE;clear hb av hg)|fail);refine(HC.out _ gb ⟨kS BK,GW.out⟩ (wZ bF)).mono ?_;rintro e w3 ⟨rfl,cF,cG,dX⟩;have eV:=cellS130_2 cF.1;have bn:=Asd.mk cG;clear cF cG dX bF BK GW HC;obtain⟨h⟩:=HH;cases c2 with
 |false=>
  simp(config:={decide:=true}) only[if_true,if_false]at h;obtain⟨rfl,rfl⟩: -1=r1∧false=r2:=by simpa using h
  clear h;go_wp2;go_ret2;exact⟨rfl,bn.out⟩
 |true=>
  simp(config:={decide:=true}) only[if_true]at h;by_cases he:c5=(a1.size:Int)
  ·rw[if_pos he]at h;obtain⟨rfl,rfl⟩:c1=r1∧true=r2:=by simpa using h
   have dY:(c5 !=(a1.size:Int))=false:=by simpa using he
   clear h;go_wp2;go_ret2;exact⟨rfl,bn.out⟩
  ·rw[if_neg he]at h;obtain⟨rfl,rfl⟩: -1=r1∧false=r2:=by simpa using h
   have dY:(c5 !=(a1.size:Int))=true:=by simpa using he
   have eW:(c5==(a1.size:Int))=false:=by simpa using he
   clear h;go_wp2;go_ret2;exact⟨rfl,bn.out⟩

/-! ### impl_HoldsIn: function 66 -/
def impl_HoldsIn.f (k:Nat) (a0:Int) (a1:ByteArray):Option (Int×Bool):=(impl_areThings.f a0).bind fun bg=>(if bg=true then(if(a1.size:Int)>120 then(some ((-1),false))else((impl_holdsIn.f k a0 a1).bind fun aN=>(some (aN.1,aN.2))))else(some ((-1),false)))
theorem impl_HoldsIn.mono:∀a0 a1 k,LeO (impl_HoldsIn.f k a0 a1) (impl_HoldsIn.f (k+1) a0 a1):=by
 intro a0 a1 k;unfold impl_HoldsIn.f
 repeat' first
   |(with_reducible first|exact impl_holdsIn.mono _ _ _|exact LeO.refl _|exact LeO.none _|refine LeO.ite ?_ ?_|refine LeO.bind ?_ (fun _=>?_))
   |refine LeO.ite ?_ ?_
   |refine LeO.bind ?_ (fun _=>?_)
set_option maxHeartbeats 8000000 in
set_option maxRecDepth 100000 in
theorem impl_HoldsIn.calls (k:Nat) (a0:Int) (a1:ByteArray) (r1:Int) (r2:Bool) (w:World) (h:impl_HoldsIn.f k a0 a1=some (r1,r2)):
  Calls Try.prog 66 #[.int .i64 a0,.string a1] w fun e w'=>e= .returned (.tuple #[.int .i64 r1,.bool r2])∧Below w.heap.size w w':=by
 have HB:=Asd.mk (Below.refl w.heap.size w);have H:((impl_areThings.f a0).bind fun bg=>(if bg=true then(if(a1.size:Int)>120 then(some ((-1),false))else((impl_holdsIn.f k a0 a1).bind fun aN=>(some (aN.1,aN.2))))else(some ((-1),false))))=some (r1,r2):=h;clear h;obtain⟨bg,A3,H⟩:=bE H;try dsimp only at H
 by_cases c4:bg=true
 ·subst c4;rw[if_pos rfl]at H;rcases iT H with⟨c5,H⟩|⟨c5,H⟩
  ·have ck:=decide_eq_true c5;have cH:decide (120<a1.size)=true:=decide_eq_true (by omega);clear c5;obtain⟨rfl,rfl⟩:=s2 H;go_enter Try.func66,Try.ntmps66;go_wp2_with (first|((with_reducible refine gate_callee (f:=111) rfl ?_);refine gB (some 7) Try.func111 #[.int .i64 a0] rfl ?_;(with_reducible refine(impl_areThings.calls a0 true _ A3.out).mono ?_);rintro e w' ⟨rfl,⟨nd,rfl⟩⟩;refine⟨_,rfl,?_⟩));go_ret2;exact⟨by first|rfl|(simp[*,errW_none,errW_some]<;>rfl),wZ HB⟩
  ·have ck:=decide_eq_false c5;have cH:decide (120<a1.size)=false:=decide_eq_false (by omega);clear c5;obtain⟨⟨cI,cJ⟩,A6,H⟩:=bE H;try dsimp only at H
   obtain⟨rfl,rfl⟩:=s2 H;go_enter Try.func66,Try.ntmps66;go_wp2_with (first|((with_reducible refine gate_callee (f:=111) rfl ?_);refine gB (some 7) Try.func111 #[.int .i64 a0] rfl ?_;(with_reducible refine(impl_areThings.calls a0 true _ A3.out).mono ?_);rintro e w' ⟨rfl,⟨nd,rfl⟩⟩;refine⟨_,rfl,?_⟩)|((with_reducible refine gate_callee (f:=112) rfl ?_);refine gB (some 16) Try.func112 #[.int .i64 a0,.string a1] rfl ?_;(with_reducible refine(impl_holdsIn.calls k a0 a1 cI cJ _ A6.out).mono ?_);rintro e w7 ⟨rfl,hb⟩;refine⟨_,rfl,?_⟩;replace HB:=bW HB hb;clear hb));go_ret2;exact⟨by first|rfl|(simp[*,errW_none,errW_some]<;>rfl),wZ HB⟩
 ·replace c4:=Bool.eq_false_iff.mpr c4;subst c4;rw[if_neg (show¬(false=true) by decide)]at H;obtain⟨rfl,rfl⟩:=s2 H;go_enter Try.func66,Try.ntmps66;go_wp2_with (first|((with_reducible refine gate_callee (f:=111) rfl ?_);refine gB (some 7) Try.func111 #[.int .i64 a0] rfl ?_;(with_reducible refine(impl_areThings.calls a0 false _ A3.out).mono ?_);rintro e w' ⟨rfl,⟨nd,rfl⟩⟩;refine⟨_,rfl,?_⟩));go_ret2;exact⟨by first|rfl|(simp[*,errW_none,errW_some]<;>rfl),wZ HB⟩

/-! ### impl_copyMind: function 116 -/
def impl_copyMind.l0:Nat→List (List Int)→Int→Int→Int→List Int→List (List Int)→Option (Int×List Int×(List (List Int)))
 |0,_,_,_,_,_,_=>none
 |k+1,x14,x15,x16,x500000,x500001,x500002=>if x16<x15 then(if 0≤x16 then(if x16<(x14.length:Int)then((some (([]:List Int):List Int)).bind fun aQ=>(if aQ.length+(rd_L1 x14 x16).length<17592186044416 then(if x500002.length<5864062014805 then(impl_copyMind.l0 k x14 x15 (wrap64 (x16+1)) x500000 x500001 (x500002++ [(aQ++(rd_L1 x14 x16))]))else(none))else(none)))else(none))else(none))else(some (x500000,x500001,x500002))
def impl_copyMind.f (k:Nat) (an:Int) (ak:List Int) (ae:List (List Int)):Option (Int×List Int×(List (List Int))):=(some (([]:List Int):List Int)).bind fun az=>(if az.length+ak.length<17592186044416 then(impl_copyMind.l0 k ae (ae.length:Int) 0 an (az++ak) ([]:List (List Int)))else(none))
theorem impl_copyMind.mono_l:∀k,(∀y0 y1 y2 y3 y4 y5,LeO (impl_copyMind.l0 k y0 y1 y2 y3 y4 y5) (impl_copyMind.l0 (k+1) y0 y1 y2 y3 y4 y5))
 |0=>fun _ _ _ _ _ _ r h=>by simp[impl_copyMind.l0]at h
 |k+1=>by
  have bo:=impl_copyMind.mono_l k
  ·intro y0 y1 y2 y3 y4 y5;unfold impl_copyMind.l0;repeat' first
   |(with_reducible first|exact bo _ _ _ _ _ _|exact LeO.refl _|exact LeO.none _|refine LeO.ite ?_ ?_|refine LeO.bind ?_ (fun _=>?_))
   |refine LeO.ite ?_ ?_
   |refine LeO.bind ?_ (fun _=>?_)
theorem impl_copyMind.mono:∀a0 a1 a2 k,LeO (impl_copyMind.f k a0 a1 a2) (impl_copyMind.f (k+1) a0 a1 a2):=by
 intro a0 a1 a2 k;have bo:=impl_copyMind.mono_l k;unfold impl_copyMind.f
 repeat' first
   |(with_reducible first|exact bo _ _ _ _ _ _|exact LeO.refl _|exact LeO.none _|refine LeO.ite ?_ ?_|refine LeO.bind ?_ (fun _=>?_))
   |refine LeO.ite ?_ ?_
   |refine LeO.bind ?_ (fun _=>?_)
def impl_copyMind.T1:Bool×List (List Nat×List Nat):=(true,[([],[]),([0],[0]),([],[]),([],[]),([3],[3]),([2,4],[2,4]),([1,5],[1,5]),([],[]),([7,6,5,0,1,2,3,4,5,6,7],[6,7])])
def impl_copyMind.B1:List Nat:=[0,1,0,0,8,28,63,0,255]
theorem impl_copyMind.tab1:rtab .any (opsOf Try.f116 1)=impl_copyMind.T1:=by kernel_rfl
theorem impl_copyMind.bits1:waitsOk impl_copyMind.T1.2 impl_copyMind.B1=true:=by kernel_rfl
def impl_copyMind.T5:Bool×List (List Nat×List Nat):=(true,[([],[]),([0],[0]),([],[]),([],[]),([2,3],[2,3]),([4],[4]),([1,5,4],[1,5]),([0,1,2,3,4,5,6],[]),([7,6,6,0,1,2,3,4,5,6],[6,7])])
def impl_copyMind.B5:List Nat:=[0,1,0,0,12,28,63,127,255]
theorem impl_copyMind.tab5:rtab .any (opsOf Try.f116 5)=impl_copyMind.T5:=by kernel_rfl
theorem impl_copyMind.bits5:waitsOk impl_copyMind.T5.2 impl_copyMind.B5=true:=by kernel_rfl
set_option maxHeartbeats 8000000 in
set_option maxRecDepth 100000 in
theorem impl_copyMind.calls (k:Nat) (an:Int) (aE:Option Addr) (aG:Nat) (ak:List Int) (aH:Option Addr) (aI:Nat) (ae:List (List Int)) (r1:Int) (r2:List Int) (r3:List (List Int)) (w:World) (bJ:Kd.C (Kd.int .i64) w aE ak.length ak) (bO:ak.length≤aG) (bT:Kd.C (Kd.slice 3 (Kd.int .i64)) w aH ae.length ae) (bV:ae.length≤aI) (h:impl_copyMind.f k an ak ae=some (r1,r2,r3)):
  Calls Try.prog 116 #[.agg #[.int .i64 an,.slice aE ak.length aG,.slice aH ae.length aI]] w fun e w'=>∃cr cK:Value,e= .returned (.agg #[.int .i64 r1,cr,cK])∧Kd.R (Kd.int .i64) 3 w' w.heap.size (fun _=>True) cr r2∧Kd.S (Kd.slice 3 (Kd.int .i64)) 55 w' w.heap.size (fun k_=>some k_≠(cr:Value).ownBlock) cK r3∧Below w.heap.size w w':=by
 have eM:=Try.underlying58;have bp:=Asd.mk bJ;have dZ:=Asd.mk bO;clear bJ bO;have ct:=Asd.mk bT;have ea:=Asd.mk bV;clear bT bV;have HB:=Asd.mk (Below.refl w.heap.size w);have H:((some (([]:List Int):List Int)).bind fun az=>(if az.length+ak.length<17592186044416 then(impl_copyMind.l0 k ae (ae.length:Int) 0 an (az++ak) ([]:List (List Int)))else(none)))=some (r1,r2,r3):=h;clear h;obtain⟨az,bq⟩:∃y_:List Int,y_=(([]:List Int)):=⟨_,rfl⟩;replace H:(if az.length+ak.length<17592186044416 then(impl_copyMind.l0 k ae (ae.length:Int) 0 an (az++ak) ([]:List (List Int)))else(none))=some (r1,r2,r3):=by first|(rw[bq];exact H)|exact H
 have bd:=Asd.mk bq;clear bq;obtain⟨c2,H⟩:=iN H;have bZ:=Asd.mk c2;clear c2;obtain⟨aq,br⟩:∃y_:List Int,y_=(az++ak):=⟨_,rfl⟩;replace H:(impl_copyMind.l0 k ae (ae.length:Int) 0 an aq ([]:List (List Int)))=some (r1,r2,r3):=by first|(rw[br];exact H)|exact H
 have bs:=Asd.mk br;clear br;have H':=Asd.mk H;clear H;go_enter Try.func116,Try.ntmps116;try go_wp2_with (first|((with_reducible refine gate_dst (N:=1) rfl ?_);refine bxA 1 #[.int .i64 an,.slice aE ak.length aG,.slice aH ae.length aI] 58 ?_;intro ao hg w3 av hb;have o:=Asd.mk (av);have eb:=bG HB hg;have ec:=bG HB hg;replace HB:=bW HB hb;clear hb av hg)|((with_reducible refine gate_dst (N:=2) rfl ?_);refine bxA 2 #[.int .i64 0,.slice none 0 0,.slice none 0 0] 58 ?_;intro aA hg w4 av hb;have J:=Asd.mk (av);have ed:=bG HB hg;have ee:=bG HB hg;replace HB:=bW HB hb;have aT:=bL o hg;have aU:=bM o hg;replace o:=bU o hb;clear hb av hg))
 replace o:=Asd.mk (bkD o.out);replace J:=Asd.mk (bkD J.out);replace HB:=Asd.mk (bwD HB.out);refine start_ (n:=9) (S:=fun w'=>w'.cell? ⟨ao,0,none⟩=some (.int .i64 an)∧w'.cell? ⟨ao,1,none⟩=some (.slice aE ak.length aG)∧w'.cell? ⟨ao,2,none⟩=some (.slice aH ae.length aI)) (ds:=[]) Mk17_0 (by kernel_rfl) rfl rfl ⟨(bkC o.out 0).trans rfl,(bkC o.out 1).trans rfl,(bkC o.out 2).trans rfl⟩ (fun hHeld=>?_);refine with_tabW impl_copyMind.tab1 impl_copyMind.bits1 (fun aw ch=>?_);generalize w4.drew=w5 at o J HB hHeld⊢;refine pure_ (i:=0) (N:=some 6) (v:=?_) (a':=?_) Mk17_1 rfl rfl (any_of aw.out (by kernel_rfl)) (fun _ _ _ h=>h) (Or.inl ⟨by rfl,?_⟩) ?_ ?_;rotate_left
 ·intro w';go_simp;with_reducible rfl
 rotate_left
 ·simp only[Act.put,qA,qB,qC,i64_w,i32_w];rfl
 refine pure_ (i:=3) (N:=some 9) (v:=?_) (a':=?_) Mk17_2 rfl rfl (any_of aw.out (by kernel_rfl)) (fun _ _ _ h=>h) (Or.inl ⟨by rfl,?_⟩) ?_ ?_;rotate_left
 ·intro w';go_simp;with_reducible rfl
 rotate_left
 ·simp only[Act.put,qA,qB,qC,i64_w,i32_w];rfl
 refine take_ (i:=1) (N:=some 7) (v:=?_) (a':=?_) Mk17_3 rfl rfl (take_ofW aw.out ch.out (by kernel_rfl)) (fun _ _ _ h=>h) (Or.inl ⟨by rfl,?_⟩) hHeld ?_ ?_;rotate_left
 ·rintro w' ⟨s0,s1,s2⟩;go_simp;with_reducible rfl
 rotate_left
 ·simp only[Act.put,qA,qB,qC,i64_w,i32_w];rfl
 refine take_ (i:=4) (N:=some 10) (v:=?_) (a':=?_) #[true,true,false,true,true,false,false,false,false] rfl rfl (take_ofW aw.out ch.out (by kernel_rfl)) (fun _ _ _ h=>h) (Or.inl ⟨by rfl,?_⟩) hHeld ?_ ?_;rotate_left
 ·rintro w' ⟨s0,s1,s2⟩;go_simp;with_reducible rfl
 rotate_left
 ·simp only[Act.put,qA,qB,qC,i64_w,i32_w];rfl
 refine join_ (σ:=Value×Value×Nat) 1 Mk17_9 (fun s_=>[(8,s_.1),(11,s_.2.1),(3,.pointer (some ⟨s_.2.2,0,none⟩)),(12,.agg #[.int .i64 an,s_.2.1,.slice none 0 0])]) (fun s_ w'=>(w'.cell? ⟨ao,0,none⟩=some (.int .i64 an)∧w'.cell? ⟨ao,1,none⟩=some (.slice aE ak.length aG)∧w'.cell? ⟨ao,2,none⟩=some (.slice aH ae.length aI))∧(Kd.R (Kd.int .i64) 3 w' w.heap.size (fun _=>True) s_.2.1 aq)∧(w'.heap[ao]?=some (.cells #[.int .i64 an,.slice aE ak.length aG,.slice aH ae.length aI] 58 (0,0)))∧(w'.heap[aA]?=some (.cells #[.int .i64 0,.slice none 0 0,.slice none 0 0] 58 (0,0)))∧(w'.heap[s_.2.2]?=some (.cells #[.int .i64 0,.slice none 0 0,.slice none 0 0] 58 (0,0)))∧(w.heap.size≤s_.2.2)∧(w.heap.size≤s_.2.2)∧(ao≠s_.2.2)∧(s_.2.2≠ao)∧(aA≠s_.2.2)∧(s_.2.2≠aA)∧(Below w.heap.size w w')) ?_ ?_;rotate_left
 ·intro hCont;refine two_ (i:=2) (j:=7) (Ni:=some 8) (Nj:=some 3) Mk17_4 #[true,true,false,true,true,false,false,true,false] rfl rfl rfl rfl (two_of aw.out (by kernel_rfl)) (by decide) (by decide) (fun K hK=>?_) (fun K hK=>?_)
  ·skip;refine Kd.R_lit_step (Kd.int .i64) _ 3 ?hg (N:=8) ?hd (xs:=([]:List Int)) (inner:=[]) (ok:=fun _=>True) (okp:=fun _=>True) ?hr ?hp (fun _ hk=>hk) trivial (Below.refl _ _) (Nat.le_refl _) (by simp) ?_;(case hd=>rfl);(case hg=>rfl);(case hr=>first|(go_simp;done)|(go_simp;rfl));(case hp=>exact(Reps.none _ _));intro aM w6 b0 hb b1 aV;clear b1 aV;(first|rw[←bd.out]at b0|(simp only[Int.reduceToNat]at b0;rw[←bd.out]at b0));have al:=Asd.mk (Kd.R_lower b0 (below_size (wZ HB)));replace o:=bU o hb;replace J:=bU J hb;replace HB:=bW HB hb;clear hb b0;refine hK.out _ _ ⟨(bkC o.out 0).trans rfl,(bkC o.out 1).trans rfl,(bkC o.out 2).trans rfl⟩ (fun hHeld=>?_);clear hK K;refine norm_ (a':=?_) ?_ ?_;rotate_left
   ·show Act.put _ (some 8) _=_
    simp only[Act.put,qA,qB,qC,i64_w,i32_w];rfl
   refine two_ (i:=5) (j:=7) (Ni:=some 11) (Nj:=some 3) Mk17_6 Mk17_5 rfl rfl rfl rfl (two_of aw.out (by kernel_rfl)) (by decide) (by decide) (fun K hK=>?_) (fun K hK=>?_)
   ·skip;refine Kd.R_append_rows_step (Kd.int .i64) (w0:=w) w.heap.size (by rfl) (.tmp 8) (.tmp 10) 55 3 (.int .i64 0) 8 rfl Try.underlying55 info3 rfl (by decide) (by omega) aM az ak _ _ _ (fun _=>True) (fun _=>False) rfl rfl ?aO ?aR (fun _ _ h=>h) (fun _ h=>h.elim) ?aF ?aB ?aS ?aL ?_;(case aR=>repeat(first|exact(Kd.C_below bp.out HB.out)|(with_reducible refine Kd.C_alloc ?_ _)|(with_reducible refine Kd.C_drewN ?_ _)|(with_reducible refine Kd.C_drew ?_)));(case aB=>exact(wZ HB));(case aF=>exact(fun _ _=>trivial));(case aO=>exact(rS al));(case aS=>exact(below_size (wZ HB)));(case aL=>have:=bZ.out;omega);intro bA w8 ho hb hg aW
    rw[←bs.out]at ho;replace o:=bN o hg (Kd.R_ne al.out o.out (by decide));replace J:=bN J hg (Kd.R_ne al.out J.out (by decide));replace HB:=Asd.mk (hb);have au:=Asd.mk (ho);clear al ho hb hg aW
    obtain⟨ef,eg,cL⟩:=Kd.R_slice au.out;(first|subst cL|(injection cL with f1_ f2_ f3_;have aY:=f1_.symm;have aZ:=f3_.symm;clear f1_ f2_ f3_;subst aY;subst aZ));refine hK.out _ _ ⟨(bkC o.out 0).trans rfl,(bkC o.out 1).trans rfl,(bkC o.out 2).trans rfl⟩ (fun hHeld=>?_);clear hK K;refine norm_ (a':=?_) ?_ ?_;rotate_left
    ·show Act.put _ (some 11) _=_
     simp only[Act.put,qA,qB,qC,i64_w,i32_w];rfl
    refine pure_ (i:=6) (N:=some 12) (v:=?_) (a':=?_) Mk17_8 rfl rfl (any_of aw.out (by kernel_rfl)) (fun _ _ _ h=>h) (Or.inl ⟨by rfl,?_⟩) ?_ ?_;rotate_left
    ·intro w';go_simp;with_reducible rfl
    rotate_left
    ·simp only[Act.put,qA,qB,qC,i64_w,i32_w];rfl
    refine one_ (i:=7) (N:=some 3) Mk17_9 rfl rfl (one_of aw.out (by kernel_rfl)) (by decide) (fun K hK=>?_);refine box_step ?hg (N:=3) ?hd (cs:= #[.int .i64 0,.slice none 0 0,.slice none 0 0]) (t:=58) ?hr ?_;(case hd=>rfl);(case hg=>rfl);(case hr=>first|(go_simp;done)|(go_simp;rfl));intro ab hg w10 av hb;replace au:=bR au hb;have I:=Asd.mk (av);have aJ:=bG HB hg;have aK:=bG HB hg;replace HB:=bW HB hb;have aa:=bL o hg;have af:=bM o hg;replace o:=bU o hb;have ag:=bL J hg;have ah:=bM J hg;replace J:=bU J hb;clear hb av hg;refine hK.out _ _ ⟨(bkC o.out 0).trans rfl,(bkC o.out 1).trans rfl,(bkC o.out 2).trans rfl⟩ (fun hHeld=>?_);clear hK K;refine norm_ (a':=?_) ?_ ?_;rotate_left
    ·show Act.put _ (some 3) _=_
     simp only[Act.put,qA,qB,qC,i64_w,i32_w];rfl
    exact norm_ (by simp only[putAll,Act.put,qA,qB,qC]) (hCont (aM,.slice ef aq.length eg,ab) _ ⟨hHeld,(rS au),(kS o),(kS J),(kS I),aJ.out,aK.out,aa.out,af.out,ag.out,ah.out,(wZ HB)⟩)
   ·skip;refine box_step ?hg (N:=3) ?hd (cs:= #[.int .i64 0,.slice none 0 0,.slice none 0 0]) (t:=58) ?hr ?_;(case hd=>rfl);(case hg=>rfl);(case hr=>first|(go_simp;done)|(go_simp;rfl));intro ab hg w8 av hb;replace al:=bR al hb;have I:=Asd.mk (av);have aJ:=bG HB hg;have aK:=bG HB hg;replace HB:=bW HB hb;have aa:=bL o hg;have af:=bM o hg;replace o:=bU o hb;have ag:=bL J hg;have ah:=bM J hg;replace J:=bU J hb;clear hb av hg;refine hK.out _ _ ⟨(bkC o.out 0).trans rfl,(bkC o.out 1).trans rfl,(bkC o.out 2).trans rfl⟩ (fun hHeld=>?_);clear hK K;refine norm_ (a':=?_) ?_ ?_;rotate_left
    ·show Act.put _ (some 3) _=_
     simp only[Act.put,qA,qB,qC,i64_w,i32_w];rfl
    refine one_ (i:=5) (N:=some 11) Mk17_7 rfl rfl (one_of aw.out (by kernel_rfl)) (by decide) (fun K hK=>?_);refine Kd.R_append_rows_step (Kd.int .i64) (w0:=w) w.heap.size (by rfl) (.tmp 8) (.tmp 10) 55 3 (.int .i64 0) 8 rfl Try.underlying55 info3 rfl (by decide) (by omega) aM az ak _ _ _ (fun _=>True) (fun _=>False) rfl rfl ?aO ?aR (fun _ _ h=>h) (fun _ h=>h.elim) ?aF ?aB ?aS ?aL ?_;(case aR=>repeat(first|exact(Kd.C_below bp.out HB.out)|(with_reducible refine Kd.C_alloc ?_ _)|(with_reducible refine Kd.C_drewN ?_ _)|(with_reducible refine Kd.C_drew ?_)));(case aB=>exact(wZ HB));(case aF=>exact(fun _ _=>trivial));(case aO=>exact(rS al));(case aS=>exact(below_size (wZ HB)));(case aL=>have:=bZ.out;omega);intro bA w9 ho hb hg aW
    rw[←bs.out]at ho;replace o:=bN o hg (Kd.R_ne al.out o.out (by decide));replace J:=bN J hg (Kd.R_ne al.out J.out (by decide));replace I:=bN I hg (Kd.R_ne al.out I.out (by decide));replace HB:=Asd.mk (hb);have au:=Asd.mk (ho);clear al ho hb hg aW
    obtain⟨b4,b5,bh⟩:=Kd.R_slice au.out;(first|subst bh|(injection bh with f1_ f2_ f3_;have aY:=f1_.symm;have aZ:=f3_.symm;clear f1_ f2_ f3_;subst aY;subst aZ));refine hK.out _ _ ⟨(bkC o.out 0).trans rfl,(bkC o.out 1).trans rfl,(bkC o.out 2).trans rfl⟩ (fun hHeld=>?_);clear hK K;refine norm_ (a':=?_) ?_ ?_;rotate_left
    ·show Act.put _ (some 11) _=_
     simp only[Act.put,qA,qB,qC,i64_w,i32_w];rfl
    refine pure_ (i:=6) (N:=some 12) (v:=?_) (a':=?_) Mk17_9 rfl rfl (any_of aw.out (by kernel_rfl)) (fun _ _ _ h=>h) (Or.inl ⟨by rfl,?_⟩) ?_ ?_;rotate_left
    ·intro w';go_simp;with_reducible rfl
    rotate_left
    ·simp only[Act.put,qA,qB,qC,i64_w,i32_w];rfl
    exact norm_ (by simp only[putAll,Act.put,qA,qB,qC]) (hCont (aM,.slice b4 aq.length b5,ab) _ ⟨hHeld,(rS au),(kS o),(kS J),(kS I),aJ.out,aK.out,aa.out,af.out,ag.out,ah.out,(wZ HB)⟩)
  ·skip;refine box_step ?hg (N:=3) ?hd (cs:= #[.int .i64 0,.slice none 0 0,.slice none 0 0]) (t:=58) ?hr ?_;(case hd=>rfl);(case hg=>rfl);(case hr=>first|(go_simp;done)|(go_simp;rfl));intro ab hg w6 av hb;have I:=Asd.mk (av);have aJ:=bG HB hg;have aK:=bG HB hg;replace HB:=bW HB hb;have aa:=bL o hg;have af:=bM o hg;replace o:=bU o hb;have ag:=bL J hg;have ah:=bM J hg;replace J:=bU J hb;clear hb av hg;refine hK.out _ _ ⟨(bkC o.out 0).trans rfl,(bkC o.out 1).trans rfl,(bkC o.out 2).trans rfl⟩ (fun hHeld=>?_);clear hK K;refine norm_ (a':=?_) ?_ ?_;rotate_left
   ·show Act.put _ (some 3) _=_
    simp only[Act.put,qA,qB,qC,i64_w,i32_w];rfl
   refine one_ (i:=2) (N:=some 8) Mk17_5 rfl rfl (one_of aw.out (by kernel_rfl)) (by decide) (fun K hK=>?_);refine Kd.R_lit_step (Kd.int .i64) _ 3 ?hg (N:=8) ?hd (xs:=([]:List Int)) (inner:=[]) (ok:=fun _=>True) (okp:=fun _=>True) ?hr ?hp (fun _ hk=>hk) trivial (Below.refl _ _) (Nat.le_refl _) (by simp) ?_;(case hd=>rfl);(case hg=>rfl);(case hr=>first|(go_simp;done)|(go_simp;rfl));(case hp=>exact(Reps.none _ _));intro aM w7 b6 hb b1 aV;clear b1 aV;(first|rw[←bd.out]at b6|(simp only[Int.reduceToNat]at b6;rw[←bd.out]at b6));have al:=Asd.mk (Kd.R_lower b6 (below_size (wZ HB)));replace o:=bU o hb;replace J:=bU J hb;replace I:=bU I hb;replace HB:=bW HB hb;clear hb b6;refine hK.out _ _ ⟨(bkC o.out 0).trans rfl,(bkC o.out 1).trans rfl,(bkC o.out 2).trans rfl⟩ (fun hHeld=>?_);clear hK K;refine norm_ (a':=?_) ?_ ?_;rotate_left
   ·show Act.put _ (some 8) _=_
    simp only[Act.put,qA,qB,qC,i64_w,i32_w];rfl
   refine one_ (i:=5) (N:=some 11) Mk17_7 rfl rfl (one_of aw.out (by kernel_rfl)) (by decide) (fun K hK=>?_);refine Kd.R_append_rows_step (Kd.int .i64) (w0:=w) w.heap.size (by rfl) (.tmp 8) (.tmp 10) 55 3 (.int .i64 0) 8 rfl Try.underlying55 info3 rfl (by decide) (by omega) aM az ak _ _ _ (fun _=>True) (fun _=>False) rfl rfl ?aO ?aR (fun _ _ h=>h) (fun _ h=>h.elim) ?aF ?aB ?aS ?aL ?_;(case aR=>repeat(first|exact(Kd.C_below bp.out HB.out)|(with_reducible refine Kd.C_alloc ?_ _)|(with_reducible refine Kd.C_drewN ?_ _)|(with_reducible refine Kd.C_drew ?_)));(case aB=>exact(wZ HB));(case aF=>exact(fun _ _=>trivial));(case aO=>exact(rS al));(case aS=>exact(below_size (wZ HB)));(case aL=>have:=bZ.out;omega);intro bA w9 ho hb hg aW
   rw[←bs.out]at ho;replace o:=bN o hg (Kd.R_ne al.out o.out (by decide));replace J:=bN J hg (Kd.R_ne al.out J.out (by decide));replace I:=bN I hg (Kd.R_ne al.out I.out (by decide));replace HB:=Asd.mk (hb);have au:=Asd.mk (ho);clear al ho hb hg aW
   obtain⟨b4,b5,bh⟩:=Kd.R_slice au.out;(first|subst bh|(injection bh with f1_ f2_ f3_;have aY:=f1_.symm;have aZ:=f3_.symm;clear f1_ f2_ f3_;subst aY;subst aZ));refine hK.out _ _ ⟨(bkC o.out 0).trans rfl,(bkC o.out 1).trans rfl,(bkC o.out 2).trans rfl⟩ (fun hHeld=>?_);clear hK K;refine norm_ (a':=?_) ?_ ?_;rotate_left
   ·show Act.put _ (some 11) _=_
    simp only[Act.put,qA,qB,qC,i64_w,i32_w];rfl
   refine pure_ (i:=6) (N:=some 12) (v:=?_) (a':=?_) Mk17_9 rfl rfl (any_of aw.out (by kernel_rfl)) (fun _ _ _ h=>h) (Or.inl ⟨by rfl,?_⟩) ?_ ?_;rotate_left
   ·intro w';go_simp;with_reducible rfl
   rotate_left
   ·simp only[Act.put,qA,qB,qC,i64_w,i32_w];rfl
   exact norm_ (by simp only[putAll,Act.put,qA,qB,qC]) (hCont (aM,.slice b4 aq.length b5,ab) _ ⟨hHeld,(rS au),(kS o),(kS J),(kS I),aJ.out,aK.out,aa.out,af.out,ag.out,ah.out,(wZ HB)⟩)
 rintro⟨aM,bA,ab⟩ w11 ⟨hS_,h0_,h1_,h2_,h3_,h4_,h5_,h6_,h7_,h8_,h9_,h10_⟩;have au:Asd (Kd.R (Kd.int .i64) 3 w11 w.heap.size (fun _=>True) bA aq):=⟨h0_⟩;replace o:Asd (w11.heap[ao]?=some (.cells #[.int .i64 an,.slice aE ak.length aG,.slice aH ae.length aI] 58 (0,0))):=⟨h1_⟩;replace J:Asd (w11.heap[aA]?=some (.cells #[.int .i64 0,.slice none 0 0,.slice none 0 0] 58 (0,0))):=⟨h2_⟩;have I:Asd (w11.heap[ab]?=some (.cells #[.int .i64 0,.slice none 0 0,.slice none 0 0] 58 (0,0))):=⟨h3_⟩;have aJ:Asd (w.heap.size≤ab):=⟨h4_⟩;have aK:Asd (w.heap.size≤ab):=⟨h5_⟩;have aa:Asd (ao≠ab):=⟨h6_⟩;have af:Asd (ab≠ao):=⟨h7_⟩;have ag:Asd (aA≠ab):=⟨h8_⟩;have ah:Asd (ab≠aA):=⟨h9_⟩;replace HB:Asd (Below w.heap.size w w11):=⟨h10_⟩;clear h0_ h1_ h2_ h3_ h4_ h5_ h6_ h7_ h8_ h9_ h10_;have hHeld:w11.cell? ⟨ao,0,none⟩=some (.int .i64 an)∧w11.cell? ⟨ao,1,none⟩=some (.slice aE ak.length aG)∧w11.cell? ⟨ao,2,none⟩=some (.slice aH ae.length aI):=hS_;obtain⟨aC,aD,cl⟩:=Kd.R_slice au.out;(first|subst cl|(injection cl with f1_ f2_ f3_;have aY:=f1_.symm;have aZ:=f3_.symm;clear f1_ f2_ f3_;subst aY;subst aZ));refine norm_ (a':=?_) ?_ ?_;rotate_left
 ·simp only[putAll,Act.put,qA,qB,qC];rfl
 refine one_ (i:=8) (N:=none) Mk17_10 rfl rfl (one_of aw.out (by kernel_rfl)) (by decide) (fun K hK=>?_);have eN:=bC I 0;have eh:=bkF I.out 0;have cM:=aa.out;have cN:=ag.out;have cO:=af.out;have cP:=ah.out;have eO:=bC I 1;have ei:=bkF I.out 1;have cQ:=aa.out;have cR:=ag.out;have cS:=af.out;have cT:=ah.out;have eP:=bC I 2;have ej:=bkF I.out 2;have cU:=aa.out;have cV:=ag.out;have cW:=af.out;have cX:=ah.out;refine skip_ (w1:=?_) (by rfl) rfl ?_ ?_;rotate_left
 ·go_simp;rfl
 refine hK.out _ _ ⟨((cell_far (p:=⟨ab,_,none⟩) aa.out _).trans (((cell_far (p:=⟨ab,_,none⟩) aa.out _).trans (((cell_far (p:=⟨ab,_,none⟩) aa.out _).trans (hHeld.1)))))),((cell_far (p:=⟨ab,_,none⟩) aa.out _).trans (((cell_far (p:=⟨ab,_,none⟩) aa.out _).trans (((cell_far (p:=⟨ab,_,none⟩) aa.out _).trans (hHeld.2.1)))))),((cell_far (p:=⟨ab,_,none⟩) aa.out _).trans (((cell_far (p:=⟨ab,_,none⟩) aa.out _).trans (((cell_far (p:=⟨ab,_,none⟩) aa.out _).trans (hHeld.2.2))))))⟩ (fun hHeld=>?_);clear hK K;refine done_ (done_of aw.out (by kernel_rfl)) ?_;have ek:=aT.out;have el:=aU.out;have en:=aa.out;have eo:=af.out;obtain⟨cY,da,db,dc,dd,de⟩:=b3 o;try go_wp2
 go_loopg [16] k (fun kq ep w'=>∃(ar:Int) (ai:List (List Int)) (ax:Value),ep= .int .i64 ar∧Asd (impl_copyMind.l0 kq ae (ae.length:Int) ar an aq ai=some (r1,r2,r3))∧Asd (kq≤k)∧Asd (Kd.R (Kd.int .i64) 3 w' w.heap.size (fun _=>True) (.slice aC aq.length aD) aq)∧Asd (Kd.S (Kd.slice 3 (Kd.int .i64)) 55 w' w.heap.size (fun k_=>some k_≠((.slice aC aq.length aD):Value).ownBlock) ax ai)∧Asd (w'.heap[ao]?=some (.cells #[.int .i64 an,(.slice aE ak.length aG),(.slice aH ae.length aI)] 58 (0,0)))∧Asd (w'.heap[aA]?=some (.cells #[.int .i64 0,(.slice none 0 0),(.slice none 0 0)] 58 (0,0)))∧Asd (w'.heap[ab]?=some (.cells #[.int .i64 an,(.slice aC aq.length aD),ax] 58 (0,0)))∧Asd (Below w.heap.size w w'))
 case atStart=>exact⟨(0),(([]:List (List Int))),(.slice none 0 0),(by first|rfl|(simp;done)|(simp[*];done)),H',⟨Nat.le_refl _⟩,⟨rT au⟩,⟨by first|exact Kd.S_nil _ _ _ _ _|exact Kd.N_nil _ _ _ _ _|exact Kd.V_nil _ _ _ _ _|exact Kd.Q_nil _ _ _ _ _|exact Kd.R_nil _ _ _ _ _⟩,⟨kS o⟩,⟨kS J⟩,⟨kP I⟩,⟨wZ HB⟩⟩
 case round=>
  clear H';obtain⟨ar,ai,ax,rfl,HA,bu,HO_500001,HO_500002,o,J,I,HB⟩:=hrel;cases gk with
  |zero=>exact absurd HA.out (by simp[impl_copyMind.l0])
  |succ k1=>
   have H:=HA.out;clear HA;simp only[impl_copyMind.l0]at H;rcases iT H with⟨b7,H⟩|⟨b7,H⟩
   ·have cu:=decide_eq_true b7;clear b7;obtain⟨df,H⟩:=iN H;have er:=decide_eq_true df;clear df;obtain⟨dg,H⟩:=iN H;have et:=decide_eq_true dg;clear dg;obtain⟨aQ,bw⟩:∃y_:List Int,y_=(([]:List Int)):=⟨_,rfl⟩;replace H:(if aQ.length+(rd_L1 ae ar).length<17592186044416 then(if ai.length<5864062014805 then(impl_copyMind.l0 k1 ae (ae.length:Int) (wrap64 (ar+1)) an aq (ai++ [(aQ++(rd_L1 ae ar))]))else(none))else(none))=some (r1,r2,r3):=by first|(rw[bw];exact H)|exact H
    have b8:=Asd.mk bw;clear bw;obtain⟨dh,H⟩:=iN H;have cv:=Asd.mk dh;clear dh;obtain⟨bj,bx⟩:∃y_:List Int,y_=(aQ++(rd_L1 ae ar)):=⟨_,rfl⟩;replace H:(if ai.length<5864062014805 then(impl_copyMind.l0 k1 ae (ae.length:Int) (wrap64 (ar+1)) an aq (ai++ [bj]))else(none))=some (r1,r2,r3):=by first|(rw[bx];exact H)|exact H
    have cw:=Asd.mk bx;clear bx;obtain⟨di,H⟩:=iN H;have cy:=Asd.mk di;clear di;obtain⟨b9,bz⟩:∃y_:List (List Int),y_=(ai++ [bj]):=⟨_,rfl⟩;replace H:(impl_copyMind.l0 k1 ae (ae.length:Int) (wrap64 (ar+1)) an aq b9)=some (r1,r2,r3):=by first|(rw[bz];exact H)|exact H
    have cz:=Asd.mk bz;clear bz;have H':=Asd.mk H;clear H;have ca:0≤(ar:Int):=odt;have cb:ar<(ae.length:Int):=odt;obtain⟨eu,dU,dV,dj,a6,bk,bl⟩:=at_L1 ct.out ar ca cb;cases dj;replace a6:=(HB.out.cell (World.block_lt_of_cell? w _ a6)).trans a6;have cc:=Asd.mk bl;have dk:=Asd.mk bk;clear bl bk;replace ca:=eq_true ca;replace cb:=eq_true cb;try go_wp2
    replace HO_500001:=Asd.mk (Kd.R_drew HO_500001.out);replace HO_500002:=Asd.mk (Kd.S_drew HO_500002.out);replace o:=Asd.mk (bkD o.out);replace J:=Asd.mk (bkD J.out);replace I:=Asd.mk (bkD I.out);replace HB:=Asd.mk (bwD HB.out);refine start_ (n:=9) (S:=fun w'=>w'.cell? ⟨ab,0,none⟩=some (.int .i64 an)∧w'.cell? ⟨ab,1,none⟩=some (.slice aC aq.length aD)∧w'.cell? ⟨ab,2,none⟩=some (ax)) (ds:=[8]) Mk17_0 (by kernel_rfl) rfl rfl ⟨(bkC I.out 0).trans rfl,(bkC I.out 1).trans rfl,(bkC I.out 2).trans rfl⟩ (fun hHeld=>?_);refine with_tabW impl_copyMind.tab5 impl_copyMind.bits5 (fun aw ch=>?_);generalize wr.drew=eX at HO_500001 HO_500002 o J I HB hHeld⊢;refine pure_ (i:=0) (N:=some 20) (v:=?_) (a':=?_) Mk17_1 rfl rfl (any_of aw.out (by kernel_rfl)) (fun _ _ _ h=>h) (Or.inl ⟨by rfl,?_⟩) ?_ ?_;rotate_left
    ·intro w';go_simp;with_reducible rfl
    rotate_left
    ·simp only[Act.put,qA,qB,qC,i64_w,i32_w];rfl
    refine pure_ (i:=3) (N:=some 23) (v:=?_) (a':=?_) Mk17_2 rfl rfl (any_of aw.out (by kernel_rfl)) (fun _ _ _ h=>h) (Or.inl ⟨by rfl,?_⟩) ?_ ?_;rotate_left
    ·intro w';go_simp;with_reducible rfl
    rotate_left
    ·simp only[Act.put,qA,qB,qC,i64_w,i32_w];rfl
    refine take_ (i:=1) (N:=some 21) (v:=?_) (a':=?_) Mk17_3 rfl rfl (take_ofW aw.out ch.out (by kernel_rfl)) (fun _ _ _ h=>h) (Or.inl ⟨by rfl,?_⟩) hHeld ?_ ?_;rotate_left
    ·rintro w' ⟨s0,s1,s2⟩;go_simp;with_reducible rfl
    rotate_left
    ·simp only[Act.put,qA,qB,qC,i64_w,i32_w];rfl
    refine one_ (i:=2) (N:=some 22) #[true,true,true,true,false,false,false,false,false] rfl rfl (one_of aw.out (by kernel_rfl)) (by decide) (fun K hK=>?_);refine Kd.R_lit_step (Kd.int .i64) _ 3 ?hg (N:=22) ?hd (xs:=([]:List Int)) (inner:=[]) (ok:=fun _=>True) (okp:=fun _=>True) ?hr ?hp (fun _ hk=>hk) trivial (Below.refl _ _) (Nat.le_refl _) (by simp) ?_;(case hd=>rfl);(case hg=>rfl);(case hr=>first|(go_simp;done)|(go_simp;rfl));(case hp=>exact(Reps.none _ _));intro dm eY a7 hb b1 aV;clear b1 aV;(first|rw[←b8.out]at a7|(simp only[Int.reduceToNat]at a7;rw[←b8.out]at a7));replace HO_500002:=Asd.mk (Kd.S_elder' (sS HO_500002) (Kd.R_base a7) hb);have a8:=Asd.mk (Kd.R_lower (Kd.R_new' a7 (Kd.R_lt (rS HO_500001))) (below_size (wZ HB)));replace HO_500001:=Asd.mk (Kd.R_elder' (rS HO_500001) (Kd.R_base a7) hb);replace o:=bU o hb;replace J:=bU J hb;replace I:=bU I hb;replace HB:=bW HB hb;clear hb a7;refine hK.out _ _ ⟨(bkC I.out 0).trans rfl,(bkC I.out 1).trans rfl,(bkC I.out 2).trans rfl⟩ (fun hHeld=>?_);clear hK K;refine norm_ (a':=?_) ?_ ?_;rotate_left
    ·show Act.put _ (some 22) _=_
     simp only[Act.put,qA,qB,qC,i64_w,i32_w];rfl
    refine one_ (i:=4) (N:=some 24) Mk17_4 rfl rfl (one_of aw.out (by kernel_rfl)) (by decide) (fun K hK=>?_);refine Kd.R_append_rows_step (Kd.int .i64) (w0:=w) w.heap.size (by rfl) (.tmp 22) (.tmp 23) 55 3 (.int .i64 0) 8 rfl Try.underlying55 info3 rfl (by decide) (by omega) dm aQ (rd_L1 ae ar) _ _ _ (fun k_=>some k_≠(.slice aC aq.length aD:Value).ownBlock) (fun _=>False) rfl rfl ?aO ?aR (fun _ _ h=>h) (fun _ h=>h.elim) ?aF ?aB ?aS ?aL ?_;(case aR=>repeat(first|exact(Kd.C_below cc.out HB.out)|(with_reducible refine Kd.C_alloc ?_ _)|(with_reducible refine Kd.C_drewN ?_ _)|(with_reducible refine Kd.C_drew ?_)));(case aB=>exact(wZ HB));(case aF=>exact(fun k_ hk=>Kd.fresh' (Kd.R_lt (rS HO_500001)) k_ hk));(case aO=>exact(by(repeat apply Kd.RS);exact Kd.R_mono a8.out (fun _ hk=>hk.2)));(case aS=>exact(below_size (wZ HB)));(case aL=>have:=cv.out;omega);intro eQ eZ ho hb hg aW
    rw[←cw.out]at ho;replace HO_500001:=Asd.mk (Kd.R_after (ok:=(fun _=>True)) (rS HO_500001) hg aW);replace HO_500002:=Asd.mk (Kd.S_after (ok:=(fun k_=>some k_≠(.slice aC aq.length aD:Value).ownBlock)) (sS HO_500002) hg aW);replace o:=bN o hg (Kd.R_ne a8.out o.out (by decide));replace J:=bN J hg (Kd.R_ne a8.out J.out (by decide));replace I:=bN I hg (Kd.R_ne a8.out I.out (by decide));replace HB:=Asd.mk (hb);have bf:=Asd.mk (ho);clear a8 ho hb hg aW
    obtain⟨cm,cn,cp⟩:=Kd.R_slice bf.out;(first|subst cp|(injection cp with f1_ f2_ f3_;have aY:=f1_.symm;have aZ:=f3_.symm;clear f1_ f2_ f3_;subst aY;subst aZ));refine hK.out _ _ ⟨(bkC I.out 0).trans rfl,(bkC I.out 1).trans rfl,(bkC I.out 2).trans rfl⟩ (fun hHeld=>?_);clear hK K;refine norm_ (a':=?_) ?_ ?_;rotate_left
    ·show Act.put _ (some 24) _=_
     simp only[Act.put,qA,qB,qC,i64_w,i32_w];rfl
    refine one_ (i:=5) (N:=some 25) Mk17_6 rfl rfl (one_of aw.out (by kernel_rfl)) (by decide) (fun K hK=>?_);refine value_ (w1:=?_) (v:=?_) (by rfl) rfl ?_ ?_;rotate_left 2
    ·go_simp;constructor
     ·rfl
     ·rfl
    refine hK.out _ _ ⟨(bkC (bkA I.out _) 0).trans rfl,(bkC (bkA I.out _) 1).trans rfl,(bkC (bkA I.out _) 2).trans rfl⟩ (fun hHeld=>?_);clear hK K;refine norm_ (a':=?_) ?_ ?_;rotate_left
    ·show Act.put _ (some 25) _=_
     simp only[Act.put,qA,qB,qC,i64_w,i32_w];rfl
    refine one_ (i:=6) (N:=some 26) Mk17_8 rfl rfl (one_of aw.out (by kernel_rfl)) (by decide) (fun K hK=>?_);refine Kd.S_append_step (Kd.slice 3 (Kd.int .i64)) (w0:=w) w.heap.size (by rfl) (.tmp 21) (.tmp 25) 56 55 (.slice none 0 0) 24 rfl Try.underlying56 info55 rfl (by decide) (by omega) ax ai bj [.slice cm bj.length cn] (fun k_=>some k_≠(.slice aC aq.length aD:Value).ownBlock) (fun k_=>some k_=(.slice cm bj.length cn:Value).ownBlock) rfl rfl ?aP (fun k_ ev=>((Kd.R_mono (ok':=fun k_=>((fun k_=>some k_≠(.slice aC aq.length aD:Value).ownBlock)) k_∧some k_≠(ax:Value).ownBlock) (Kd.R_apart' (bf.out) (Kd.S_typed HO_500002.out) (by decide)) (fun k_ hk=>⟨hk.1,hk.2⟩))).1 k_ ev.symm) ?aF ?aO ?aB ?aS ?aL ?_;(case aP=>exact Kd.M_row (Kd.R_mono (Kd.R_tight rfl (Kd.R_mono (ok':=fun k_=>((fun k_=>some k_≠(.slice aC aq.length aD:Value).ownBlock)) k_∧some k_≠(ax:Value).ownBlock) (Kd.R_apart' (bf.out) (Kd.S_typed HO_500002.out) (by decide)) (fun k_ hk=>⟨hk.1,hk.2⟩))) (fun _ h_=>h_)));(case aB=>exact(wZ HB));(case aF=>exact(fun k_ hk=>Kd.fresh' (Kd.R_lt (rS HO_500001)) k_ hk));(case aO=>exact(by(repeat apply Kd.SS);exact Kd.S_mono HO_500002.out (fun k_ hk=>⟨hk.1,fun e_=>hk.2 e_⟩)));(case aS=>exact(below_size (wZ HB)));(case aL=>have:=cy.out;omega);intro eR e0 ho hb hg aW
    rw[←cz.out]at ho;replace HO_500001:=Asd.mk (Kd.R_over' (rS HO_500001) (Kd.S_typed (sS HO_500002)) (by decide) hg);replace o:=bN o hg (Kd.S_ne HO_500002.out o.out (by decide));replace J:=bN J hg (Kd.S_ne HO_500002.out J.out (by decide));replace I:=bN I hg (Kd.S_ne HO_500002.out I.out (by decide));replace HB:=Asd.mk (hb);have cd:=Asd.mk (ho);clear HO_500002 bf ho hb hg aW
    obtain⟨dn,dp,cq⟩:=Kd.S_slice cd.out;(first|subst cq|(injection cq with f1_ f2_ f3_;have aY:=f1_.symm;have aZ:=f3_.symm;clear f1_ f2_ f3_;subst aY;subst aZ));refine hK.out _ _ ⟨(bkC I.out 0).trans rfl,(bkC I.out 1).trans rfl,(bkC I.out 2).trans rfl⟩ (fun hHeld=>?_);clear hK K;refine norm_ (a':=?_) ?_ ?_;rotate_left
    ·show Act.put _ (some 26) _=_
     simp only[Act.put,qA,qB,qC,i64_w,i32_w];rfl
    refine pure_ (i:=7) (N:=some 27) (v:=?_) (a':=?_) Mk17_9 rfl rfl (any_of aw.out (by kernel_rfl)) (fun _ _ _ h=>h) (Or.inl ⟨by rfl,?_⟩) ?_ ?_;rotate_left
    ·intro w';go_simp;with_reducible rfl
    rotate_left
    ·simp only[Act.put,qA,qB,qC,i64_w,i32_w];rfl
    refine last_ (i:=8) (N:=none) Mk17_10 rfl rfl (one_of aw.out (by kernel_rfl)) (by decide) (fun K hK=>?_);have eS:=bC I 2;have ew:=bkF I.out 2;have dq:=aa.out;have dr:=ag.out;have dt:=af.out;have du:=ah.out;refine skip_ (w1:=?_) (by rfl) rfl ?_ ?_;rotate_left
    ·go_simp;rfl
    refine hK.out _ _ ?_;clear hK K;refine done_ (done_of aw.out (by kernel_rfl)) ?_;try go_wp2
    go_roundg k1
    case measure=>have:=bu.out;omega
    case rel=>exact⟨(wrap64 (ar+1)),(b9),(.slice dn b9.length dp),(by first|rfl|(simp;done)|(simp[*];done)),H',⟨by have:=bu.out;omega⟩,⟨rT HO_500001⟩,⟨sT cd⟩,⟨kS o⟩,⟨kS J⟩,⟨kP I⟩,⟨wZ HB⟩⟩
   ·have cu:=decide_eq_false b7;clear b7;obtain⟨rfl,rfl,rfl⟩:=s3 H;have ey:=af.out;have ez:=aa.out;have eA:=ah.out;have eB:=ag.out;obtain⟨dv,dw,dx,dy,dz,dA⟩:=b3 I;have eC:=aU.out;have eD:=aT.out;obtain⟨dB,dC,dD,dE,dF,dG⟩:=b3 J;obtain⟨dH,dI,dJ⟩:=Kd.S_slice HO_500002.out;subst dJ;go_wp2;refine bodyPost_ret (results_cell_row rfl _ _ aA 58 #[.int .i64 an,.slice aC aq.length aD,.slice dH ai.length dI] (0,0) _ rfl (kP J) Try.underlying58 rfl (by kernel_rfl)) rfl ?_;exact⟨_,_,by first|rfl|(simp[*,errW_none,errW_some]<;>rfl),rT HO_500001,sT HO_500002,wZ HB⟩

/-! ### impl_surpriseOf: function 166 -/
def impl_surpriseOf.l0:Nat→Int→Int→List Int→Int→Int→Option (Int)
 |0,_,_,_,_,_=>none
 |k+1,x1,x5,x8,x9,x10=>if x10<x9 then(if 0≤x10 then(if x10<(x8.length:Int)then(if(Go.bits .and .i64 (shr .i64 x1 x10) 1)=1 then(impl_surpriseOf.l0 k x1 (mn x5 (rd x8 x10)) x8 x9 (wrap64 (x10+1)))else(impl_surpriseOf.l0 k x1 x5 x8 x9 (wrap64 (x10+1))))else(none))else(none))else(some x5)
def impl_surpriseOf.f (k:Nat) (l0:List Int) (a1:Int):Option (Int):=impl_surpriseOf.l0 k a1 10 l0 (l0.length:Int) 0
theorem impl_surpriseOf.mono_l:∀k,(∀y0 y1 y2 y3 y4,LeO (impl_surpriseOf.l0 k y0 y1 y2 y3 y4) (impl_surpriseOf.l0 (k+1) y0 y1 y2 y3 y4))
 |0=>fun _ _ _ _ _ r h=>by simp[impl_surpriseOf.l0]at h
 |k+1=>by
  have bo:=impl_surpriseOf.mono_l k
  ·intro y0 y1 y2 y3 y4;unfold impl_surpriseOf.l0;repeat' first
   |(with_reducible first|exact bo _ _ _ _ _|exact LeO.refl _|exact LeO.none _|refine LeO.ite ?_ ?_|refine LeO.bind ?_ (fun _=>?_))
   |refine LeO.ite ?_ ?_
   |refine LeO.bind ?_ (fun _=>?_)
theorem impl_surpriseOf.mono:∀a0 a1 k,LeO (impl_surpriseOf.f k a0 a1) (impl_surpriseOf.f (k+1) a0 a1):=by
 intro a0 a1 k;have bo:=impl_surpriseOf.mono_l k;unfold impl_surpriseOf.f
 repeat' first
   |(with_reducible first|exact bo _ _ _ _ _|exact LeO.refl _|exact LeO.none _|refine LeO.ite ?_ ?_|refine LeO.bind ?_ (fun _=>?_))
   |refine LeO.ite ?_ ?_
   |refine LeO.bind ?_ (fun _=>?_)
set_option maxHeartbeats 8000000 in
set_option maxRecDepth 100000 in
theorem impl_surpriseOf.calls (k:Nat) (A0:Option Addr) (c0:Nat) (l0:List Int) (a1:Int) (r:Int) (w:World) (dK:Kd.C (Kd.int .i64) w A0 l0.length l0) (dL:l0.length≤c0) (h:impl_surpriseOf.f k l0 a1=some r):
  Calls Try.prog 166 #[.slice A0 l0.length c0,.int .i64 a1] w fun e w'=>e= .returned (.int .i64 r)∧Below w.heap.size w w':=by
 have dM:=Asd.mk dK;have e1:=Asd.mk dL;clear dK dL;have HB:=Asd.mk (Below.refl w.heap.size w);have H:(impl_surpriseOf.l0 k a1 10 l0 (l0.length:Int) 0)=some r:=h;clear h;have H':=Asd.mk H;clear H;go_enter Try.func166,Try.ntmps166;go_wp2;go_loopg [5,10] k (fun kq v5 v10 w'=>∃(ba:Int) (aj:Int),v5= .int .i64 ba∧v10= .int .i64 aj∧Asd (impl_surpriseOf.l0 kq a1 ba l0 (l0.length:Int) aj=some r)∧Asd (kq≤k)∧Asd (Below w.heap.size w w'))
 case atStart=>exact⟨(10),(0),(by first|rfl|(simp;done)|(simp[*];done)),(by first|rfl|(simp;done)|(simp[*];done)),H',⟨Nat.le_refl _⟩,⟨wZ HB⟩⟩
 case round=>
  clear H';obtain⟨ba,aj,rfl,rfl,HA,bu,HB⟩:=hrel;cases gk with
  |zero=>exact absurd HA.out (by simp[impl_surpriseOf.l0])
  |succ k1=>
   have H:=HA.out;clear HA;simp only[impl_surpriseOf.l0]at H;rcases iT H with⟨c3,H⟩|⟨c3,H⟩
   ·have dN:=decide_eq_true c3;clear c3;obtain⟨c4,H⟩:=iN H;have eT:=decide_eq_true c4;clear c4;obtain⟨c5,H⟩:=iN H;have ck:=decide_eq_true c5;clear c5;have eU:=eq_true (odt:0≤aj);obtain⟨bH,bB⟩:∃j_:Int,(shr .i64 a1 aj)=j_:=⟨_,rfl⟩;first|rw[bB]at H|simp only[bB]at H
    have eE:(a1/2^min aj.toNat 64)=bH:=bB;have eF:aj≤64→(a1/2^aj.toNat)=bH:=shr_small bB;rcases iT H with⟨c8,H⟩|⟨c8,H⟩
    ·have dO:((Go.bits .and .i64 (bH) 1)==1)=true:=beq_iff_eq.mpr c8;have dP:((Go.bits .and .i64 (bH) 1) !=1)=false:=bne_eq_false_iff_eq.mpr c8;clear c8;obtain⟨dQ,bD⟩:∃j_:Int,(mn ba (rd l0 aj))=j_:=⟨_,rfl⟩;first|rw[bD]at H|simp only[bD]at H
     have eG:(if(rd l0 aj)<ba then(rd l0 aj)else ba)=dQ:=bD;have H':=Asd.mk H;clear H;have bb:0≤(aj:Int):=odt;have bc:aj<(l0.length:Int):=odt;obtain⟨cA,cf,ay⟩:=Kd.at_int dM.out aj bb bc;cases cf;replace ay:=(HB.out.cell (World.block_lt_of_cell? w _ ay)).trans ay;replace bb:=eq_true bb;replace bc:=eq_true bc;go_wp2;go_roundg k1
     case measure=>have:=bu.out;omega
     case rel=>exact⟨(dQ),(wrap64 (aj+1)),(by first|rfl|(simp;done)|(simp only[←bD]<;>(first|rfl|simp))|(simp[*];done)),(by first|rfl|(simp;done)|(simp[*];done)),H',⟨by have:=bu.out;omega⟩,⟨wZ HB⟩⟩
    ·have dO:((Go.bits .and .i64 (bH) 1)==1)=false:=beq_eq_false_iff_ne.mpr c8;have dP:((Go.bits .and .i64 (bH) 1) !=1)=true:=bne_iff_ne.mpr c8;have H':=Asd.mk H;clear H;have bb:0≤(aj:Int):=odt;have bc:aj<(l0.length:Int):=odt;obtain⟨cA,cf,ay⟩:=Kd.at_int dM.out aj bb bc;cases cf;replace ay:=(HB.out.cell (World.block_lt_of_cell? w _ ay)).trans ay;replace bb:=eq_true bb;replace bc:=eq_true bc;go_wp2;go_roundg k1
     case measure=>have:=bu.out;omega
     case rel=>exact⟨(ba),(wrap64 (aj+1)),(by first|rfl|(simp;done)|(simp[*];done)),(by first|rfl|(simp;done)|(simp[*];done)),H',⟨by have:=bu.out;omega⟩,⟨wZ HB⟩⟩
   ·have dN:=decide_eq_false c3;clear c3;obtain rfl:=Option.some.inj H;go_wp2;go_ret;exact⟨by first|rfl|(simp[*,errW_none,errW_some]<;>rfl),wZ HB⟩

/-! ### impl_revisedBy: function 148 (by hand) -/
def impl_revisedBy.p (l1:List Int) (least x:Int):Option Bool:=if 0≤x then(if x<(l1.length:Int)then some (decide (rd l1 x=least))else none)else none
def impl_revisedBy.f (k:Nat) (a0:Int) (l1:List Int) (a2:Int):Option Int:=(impl_surpriseOf.f k l1 a2).bind fun s=>(impl_setThat.f (impl_revisedBy.p l1 s) a0).bind fun t=>some (Go.bits .and .i64 a2 t)
theorem impl_revisedBy.mono:∀a0 a1 a2 k,LeO (impl_revisedBy.f k a0 a1 a2) (impl_revisedBy.f (k+1) a0 a1 a2):=by
 intro a0 a1 a2 k;unfold impl_revisedBy.f;exact LeO.bind (impl_surpriseOf.mono _ _ _) (fun b=>LeO.refl _)
set_option maxHeartbeats 2000000 in
theorem impl_revisedBy.gives (w:World) (B C:Nat) (A1:Option Addr) (c1:Nat) (l1:List Int) (s:Int) (cg:Kd.C (Kd.int .i64) w A1 l1.length l1) (hB:B<w.heap.size) (hC:C<w.heap.size)
  (hd:w.cell? ⟨B,0,none⟩=some (.slice A1 l1.length c1)) (he:w.cell? ⟨C,0,none⟩=some (.int .i64 s)):
  Hof.GivesI 167 #[.pointer (some ⟨B,0,none⟩),.pointer (some ⟨C,0,none⟩)] (impl_revisedBy.p l1 s) w:=fun W x b hb hp=>by
 have hd':=(hb.cell (p:=⟨B,0,none⟩) hB).trans hd;have he':=(hb.cell (p:=⟨C,0,none⟩) hC).trans he;have dR:=Asd.mk (Below.refl W.heap.size W);have HR:=Asd.mk (Kd.C_below cg hb);clear hd he hb cg hB hC;unfold impl_revisedBy.p at hp;by_cases h0:0≤x
 ·rw[if_pos h0]at hp;by_cases h1:x<(l1.length:Int)
  ·rw[if_pos h1]at hp;obtain rfl:=Option.some.inj hp;obtain⟨ad,e,hx⟩:=Kd.at_int HR.out x h0 h1;cases e;clear hp;have p0:=eq_true h0;have p1:=eq_true h1;have e2:decide (0≤x)=true:=decide_eq_true h0;have e3:decide (x<(l1.length:Int))=true:=decide_eq_true h1;clear h0 h1;by_cases hg:rd l1 x=s
   ·have eH:(rd l1 x==s)=true:=beq_iff_eq.mpr hg;have cB:decide (rd l1 x=s)=true:=decide_eq_true hg;clear hg;go_enter Try.func167,Try.ntmps167;go_wp2;repeat(go_quiet (fail);try go_wp2)
    go_ret;exact⟨by rw[cB];rfl,wZ dR⟩
   ·have eH:(rd l1 x==s)=false:=beq_eq_false_iff_ne.mpr hg;have cB:decide (rd l1 x=s)=false:=decide_eq_false hg;clear hg;go_enter Try.func167,Try.ntmps167;go_wp2;repeat(go_quiet (fail);try go_wp2)
    go_ret;exact⟨by rw[cB];rfl,wZ dR⟩
  ·rw[if_neg h1]at hp;cases hp
 ·rw[if_neg h0]at hp;cases hp
set_option maxHeartbeats 4000000 in
theorem impl_revisedBy.calls (k:Nat) (a0:Int) (A1:Option Addr) (c1:Nat) (l1:List Int) (a2:Int) (r:Int) (w:World) (cg:Kd.C (Kd.int .i64) w A1 l1.length l1) (dS:l1.length≤c1) (h:impl_revisedBy.f k a0 l1 a2=some r):
  Calls Try.prog 148 #[.int .i64 a0,.slice A1 l1.length c1,.int .i64 a2] w fun e w'=>e= .returned (.int .i64 r)∧Below w.heap.size w w':=by
 have HR:=Asd.mk cg;have eI:=Asd.mk dS;have HB:=Asd.mk (Below.refl w.heap.size w);unfold impl_revisedBy.f at h;clear cg dS;obtain⟨s,hs,h⟩:=Option.bind_eq_some_iff.mp h;obtain⟨t,ht,h⟩:=Option.bind_eq_some_iff.mp h;obtain rfl:=Option.some.inj h;have HS:=Asd.mk (fun W hR=>impl_surpriseOf.calls k A1 c1 l1 a2 s W hR eI.out hs);have HT:=Asd.mk (fun C W hg=>impl_setThat.calls 167 #[.pointer (some ⟨w.heap.size,0,none⟩),.pointer (some ⟨C,0,none⟩)] (Hof.enters Try.func167 (by kernel_rfl) rfl) (impl_revisedBy.p l1 s) a0 t W hg ht);clear h hs ht;have HW:=Asd.mk (bwA HB.out (.cells #[.slice A1 l1.length c1] 55));go_enter Try.func148,Try.ntmps148;go_wp2_with fail;refine(HS.out _ (Kd.C_below HR.out HW.out)).mono ?_;rintro e w2 ⟨rfl,cj⟩;have eJ:w2.cell? ⟨w.heap.size,0,none⟩=some (.slice A1 l1.length c1):=(cj.cell (p:=⟨w.heap.size,0,none⟩) (by simp)).trans (by simp);have dT:Asd (w.heap.size<w2.heap.size):=⟨Nat.lt_of_lt_of_le (by simp) cj.size⟩;have eK:=Asd.mk (below_then HW.out HW.out.size cj);clear cj;have bn:=fun(u:Value)=>Asd.mk (bwA eK.out (.cells #[u] 3))
 go_wp2_with fail;refine(HT.out w2.heap.size _ (impl_revisedBy.gives _ w.heap.size w2.heap.size A1 c1 l1 s (Kd.C_below HR.out (bn _).out) (by have:=dT.out;simp;omega) (by simp) ?cx (by simp))).mono ?_
 case cx=>have:=dT.out;exact(World.cell?_alloc_past _ _ _ this).trans eJ
 rintro e w3 ⟨rfl,eL⟩;go_wp2;go_ret;exact⟨rfl,below_then (bn _).out (bn _).out.size eL⟩

end Go.Proofs.Ytihgpkohglcijaa.P
