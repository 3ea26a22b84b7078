-- Written by a program of this session (wip/hook.py), which runs the kit's printer; Lean checks it.
import Derived.Test.YtihgpkohglcijaaPx0
import Derived.Test.YtihgpkohglcijaaPx3
import Derived.Test.YtihgpkohglcijaaPx4
namespace Go.Proofs.Ytihgpkohglcijaa.P
open Go.RowKit Go.Proofs.YtihgpkohglcijaaW.PrintWords Go.Proofs.YtihgpkohglcijaaW.PrintLast Go.Proofs.YtihgpkohglcijaaW.PrintMore
attribute [local go_sem] max2_int min2_int max_two min_two max_three min_three max_four min_four   -- for this text's walks alone
set_option linter.unusedVariables false
set_option linter.unusedSimpArgs false

abbrev Mk6_0:Array Bool:= #[true,true,true,true,true,false,false,true,false]
abbrev Mk6_1:Array Bool:= #[true,true,true,true,true,true,false,true,false]
abbrev Mk6_2:Array Bool:= #[true,true,true,true,true,true,true,true,false]
/-! ### spec_l10Copy: function 107 -/
def spec_l10Copy.l0:Nat→Int→Int→List Int→List (List Int)→Int→List Int→List (List Int)→Option (Int×List Int×(List (List Int)))
 |0,_,_,_,_,_,_,_=>none
 |k+1,x4,x199000,x199001,x199002,x207000,x207001,x207002=>if x4<(x199002.length:Int)then((some (([]:List Int):List Int)).bind fun aM=>(if 0≤x4 then(if aM.length+(rd_L1 x199002 x4).length<17592186044416 then(if x207002.length<5864062014805 then(spec_l10Copy.l0 k (wrap64 (x4+1)) x199000 x199001 x199002 x207000 x207001 (x207002++ [(aM++(rd_L1 x199002 x4))]))else(none))else(none))else(none)))else(some (x207000,x207001,x207002))
def spec_l10Copy.f (k:Nat) (ag:Int) (ae:List Int) (af:List (List Int)):Option (Int×List Int×(List (List Int))):=(some (([]:List Int):List Int)).bind fun ax=>(if ax.length+ae.length<17592186044416 then(spec_l10Copy.l0 k 0 ag ae af ag (ax++ae) ([]:List (List Int)))else(none))
theorem spec_l10Copy.mono_l:∀k,(∀y0 y1 y2 y3 y4 y5 y6,LeO (spec_l10Copy.l0 k y0 y1 y2 y3 y4 y5 y6) (spec_l10Copy.l0 (k+1) y0 y1 y2 y3 y4 y5 y6))
 |0=>fun _ _ _ _ _ _ _ r h=>by simp[spec_l10Copy.l0]at h
 |k+1=>by
  have ca:=spec_l10Copy.mono_l k
  ·intro y0 y1 y2 y3 y4 y5 y6;unfold spec_l10Copy.l0;repeat' first
   |(with_reducible first|exact ca _ _ _ _ _ _ _|exact LeO.refl _|exact LeO.none _|refine LeO.ite ?_ ?_|refine LeO.bind ?_ (fun _=>?_))
   |refine LeO.ite ?_ ?_
   |refine LeO.bind ?_ (fun _=>?_)
theorem spec_l10Copy.mono:∀a0 a1 a2 k,LeO (spec_l10Copy.f k a0 a1 a2) (spec_l10Copy.f (k+1) a0 a1 a2):=by
 intro a0 a1 a2 k;have ca:=spec_l10Copy.mono_l k;unfold spec_l10Copy.f
 repeat' first
   |(with_reducible first|exact ca _ _ _ _ _ _ _|exact LeO.refl _|exact LeO.none _|refine LeO.ite ?_ ?_|refine LeO.bind ?_ (fun _=>?_))
   |refine LeO.ite ?_ ?_
   |refine LeO.bind ?_ (fun _=>?_)
def spec_l10Copy.T1:Bool×List (List Nat×List Nat):=(true,[([],[]),([0],[0]),([],[]),([],[]),([3],[3]),([2,4],[2,4]),([1,5],[1,5]),([],[]),([7,6,5,0,1,2,3,4,5,6,7],[6,7])])
def spec_l10Copy.B1:List Nat:=[0,1,0,0,8,28,63,0,255]
theorem spec_l10Copy.tab1:rtab .any (opsOf Try.f107 1)=spec_l10Copy.T1:=by kernel_rfl
theorem spec_l10Copy.bits1:waitsOk spec_l10Copy.T1.2 spec_l10Copy.B1=true:=by kernel_rfl
def spec_l10Copy.T5:Bool×List (List Nat×List Nat):=(true,[([],[]),([0],[0]),([],[]),([],[]),([3],[3]),([],[]),([4,5],[4,5]),([6],[6]),([2,7],[2,7]),([8],[8]),([1,9,8],[1,9]),([0,1,2,3,4,5,6,7,8,9,10],[]),([11,10,10,0,1,2,3,4,5,6,7,8,9,10],[10,11])])
def spec_l10Copy.B5:List Nat:=[0,1,0,0,8,0,56,120,252,508,1023,2047,4095]
theorem spec_l10Copy.tab5:rtab .any (opsOf Try.f107 5)=spec_l10Copy.T5:=by kernel_rfl
theorem spec_l10Copy.bits5:waitsOk spec_l10Copy.T5.2 spec_l10Copy.B5=true:=by kernel_rfl
set_option maxHeartbeats 8000000 in
set_option maxRecDepth 100000 in
theorem spec_l10Copy.calls (k:Nat) (ag:Int) (aC:Option Addr) (aD:Nat) (ae:List Int) (aI:Option Addr) (aE:Nat) (af:List (List Int)) (r1:Int) (r2:List Int) (r3:List (List Int)) (w:World) (br:Kd.C (Kd.int .i64) w aC ae.length ae) (bs:ae.length≤aD) (bu:Kd.C (Kd.slice 3 (Kd.int .i64)) w aI af.length af) (bw:af.length≤aE) (h:spec_l10Copy.f k ag ae af=some (r1,r2,r3)):
  Calls Try.prog 107 #[.agg #[.int .i64 ag,.slice aC ae.length aD,.slice aI af.length aE]] w fun e w'=>∃cb ck:Value,e= .returned (.agg #[.int .i64 r1,cb,ck])∧Kd.R (Kd.int .i64) 3 w' w.heap.size (fun _=>True) cb r2∧Kd.S (Kd.slice 3 (Kd.int .i64)) 55 w' w.heap.size (fun k_=>some k_≠(cb:Value).ownBlock) ck r3∧Below w.heap.size w w':=by
 have dN:=Try.underlying58;have bl:=Asd.mk br;have dn:=Asd.mk bs;clear br bs;have cc:=Asd.mk bu;have dp:=Asd.mk bw;clear bu bw;have HB:=Asd.mk (Below.refl w.heap.size w);have H:((some (([]:List Int):List Int)).bind fun ax=>(if ax.length+ae.length<17592186044416 then(spec_l10Copy.l0 k 0 ag ae af ag (ax++ae) ([]:List (List Int)))else(none)))=some (r1,r2,r3):=h;clear h;obtain⟨ax,aN⟩:∃y_:List Int,y_=(([]:List Int)):=⟨_,rfl⟩;replace H:(if ax.length+ae.length<17592186044416 then(spec_l10Copy.l0 k 0 ag ae af ag (ax++ae) ([]:List (List Int)))else(none))=some (r1,r2,r3):=by first|(rw[aN];with_reducible exact H)|(have ay:=(Option.bind_some _ _).symm.trans H;rw[aN];with_reducible exact ay)|(have ay:=(Option.bind_some _ _).symm.trans H;with_reducible exact ay)|with_reducible exact H|(rw[aN];exact H)|exact H
 have bc:=Asd.mk aN;clear aN;by_cases c2:ax.length+ae.length<17592186044416;rotate_left;(rw[if_neg c2]at H;exact absurd H (by simp));rw[if_pos c2]at H;have bx:=Asd.mk c2;clear c2;obtain⟨aq,aQ⟩:∃y_:List Int,y_=(ax++ae):=⟨_,rfl⟩;replace H:(spec_l10Copy.l0 k 0 ag ae af ag aq ([]:List (List Int)))=some (r1,r2,r3):=by first|(rw[aQ];with_reducible exact H)|(have ay:=(Option.bind_some _ _).symm.trans H;rw[aQ];with_reducible exact ay)|(have ay:=(Option.bind_some _ _).symm.trans H;with_reducible exact ay)|with_reducible exact H|(rw[aQ];exact H)|exact H
 have bn:=Asd.mk aQ;clear aQ;have H':=Asd.mk H;clear H;go_enter Try.func107,Try.ntmps107;try go_wp2_with (first|((with_reducible refine gate_dst (N:=1) rfl ?_);refine bxE ?hg (N:=1) ?hd (cs:= #[.int .i64 ag,.slice aC ae.length aD,.slice aI af.length aE]) (t:=58) ?hr ?_;(case hd=>rfl);(case hg=>rfl);(case hr=>first|(go_simp;done)|(go_simp;rfl));intro ak hg w3 aw hb;have o:=Asd.mk (aw);have dq:=bG HB hg;have dr:=bG HB hg;replace HB:=bW HB hb;clear hb aw hg)|((with_reducible refine gate_dst (N:=2) rfl ?_);refine bxE ?hg (N:=2) ?hd (cs:= #[.int .i64 0,.slice none 0 0,.slice none 0 0]) (t:=58) ?hr ?_;(case hd=>rfl);(case hg=>rfl);(case hr=>first|(go_simp;done)|(go_simp;rfl));intro az hg w4 aw hb;have J:=Asd.mk (aw);have dt:=bG HB hg;have du:=bG HB hg;replace HB:=bW HB hb;have aT:=bL o hg;have aU:=bM o hg;replace o:=bU o hb;clear hb aw hg))
 replace o:=Asd.mk (bkD o.out);replace J:=Asd.mk (bkD J.out);replace HB:=Asd.mk (bwD HB.out);refine start_ (n:=9) (S:=fun w'=>w'.cell? ⟨ak,0,none⟩=some (.int .i64 ag)∧w'.cell? ⟨ak,1,none⟩=some (.slice aC ae.length aD)∧w'.cell? ⟨ak,2,none⟩=some (.slice aI af.length aE)) (ds:=[]) #[false,false,false,false,false,false,false,false,false] (by kernel_rfl) rfl rfl ⟨(bkC o.out 0).trans rfl,(bkC o.out 1).trans rfl,(bkC o.out 2).trans rfl⟩ (fun hHeld=>?_);refine with_tabW spec_l10Copy.tab1 spec_l10Copy.bits1 (fun ar bp=>?_);generalize w4.drew=w5 at o J HB hHeld⊢;refine pure_ (i:=0) (N:=some 5) (v:=?_) (a':=?_) #[true,false,false,false,false,false,false,false,false] rfl rfl (any_of ar.out (by kernel_rfl)) (fun _ _ _ h=>h) (Or.inl ⟨by rfl,?_⟩) ?_ ?_;rotate_left
 ·intro w';go_simp;with_reducible rfl
 rotate_left
 ·simp only[Act.put,qA,qB,qC,i64_w,i32_w];rfl
 refine pure_ (i:=3) (N:=some 8) (v:=?_) (a':=?_) #[true,false,false,true,false,false,false,false,false] rfl rfl (any_of ar.out (by kernel_rfl)) (fun _ _ _ h=>h) (Or.inl ⟨by rfl,?_⟩) ?_ ?_;rotate_left
 ·intro w';go_simp;with_reducible rfl
 rotate_left
 ·simp only[Act.put,qA,qB,qC,i64_w,i32_w];rfl
 refine take_ (i:=1) (N:=some 6) (v:=?_) (a':=?_) #[true,true,false,true,false,false,false,false,false] rfl rfl (take_ofW ar.out bp.out (by kernel_rfl)) (fun _ _ _ h=>h) (Or.inl ⟨by rfl,?_⟩) hHeld ?_ ?_;rotate_left
 ·rintro w' ⟨s0,s1,s2⟩;go_simp;with_reducible rfl
 rotate_left
 ·simp only[Act.put,qA,qB,qC,i64_w,i32_w];rfl
 refine take_ (i:=4) (N:=some 9) (v:=?_) (a':=?_) #[true,true,false,true,true,false,false,false,false] rfl rfl (take_ofW ar.out bp.out (by kernel_rfl)) (fun _ _ _ h=>h) (Or.inl ⟨by rfl,?_⟩) hHeld ?_ ?_;rotate_left
 ·rintro w' ⟨s0,s1,s2⟩;go_simp;with_reducible rfl
 rotate_left
 ·simp only[Act.put,qA,qB,qC,i64_w,i32_w];rfl
 refine join_ (σ:=Value×Value×Nat) 1 Mk6_2 (fun s_=>[(7,s_.1),(10,s_.2.1),(3,.pointer (some ⟨s_.2.2,0,none⟩)),(11,.agg #[.int .i64 ag,s_.2.1,.slice none 0 0])]) (fun s_ w'=>(w'.cell? ⟨ak,0,none⟩=some (.int .i64 ag)∧w'.cell? ⟨ak,1,none⟩=some (.slice aC ae.length aD)∧w'.cell? ⟨ak,2,none⟩=some (.slice aI af.length aE))∧(Kd.R (Kd.int .i64) 3 w' w.heap.size (fun _=>True) s_.2.1 aq)∧(w'.heap[ak]?=some (.cells #[.int .i64 ag,.slice aC ae.length aD,.slice aI af.length aE] 58 (0,0)))∧(w'.heap[az]?=some (.cells #[.int .i64 0,.slice none 0 0,.slice none 0 0] 58 (0,0)))∧(w'.heap[s_.2.2]?=some (.cells #[.int .i64 0,.slice none 0 0,.slice none 0 0] 58 (0,0)))∧(w.heap.size≤s_.2.2)∧(w.heap.size≤s_.2.2)∧(ak≠s_.2.2)∧(s_.2.2≠ak)∧(az≠s_.2.2)∧(s_.2.2≠az)∧(Below w.heap.size w w')) ?_ ?_;rotate_left
 ·intro hCont;refine two_ (i:=2) (j:=7) (Ni:=some 7) (Nj:=some 3) #[true,true,true,true,true,false,false,false,false] #[true,true,false,true,true,false,false,true,false] rfl rfl rfl rfl (two_of ar.out (by kernel_rfl)) (by decide) (by decide) (fun K hK=>?_) (fun K hK=>?_)
  ·skip;refine Kd.R_lit_step (Kd.int .i64) _ 3 ?hg (N:=7) ?hd (xs:=([]:List Int)) (inner:=[]) (ok:=fun _=>True) (okp:=fun _=>True) ?hr ?hp (fun _ hk=>hk) trivial (Below.refl _ _) (Nat.le_refl _) (by simp) ?_;(case hd=>rfl);(case hg=>rfl);(case hr=>first|(go_simp;done)|(go_simp;rfl));(case hp=>exact(Reps.none _ _));intro v201 w6 bz hb bA aV;clear bA aV;(first|rw[←bc.out]at bz|(simp only[Int.reduceToNat]at bz;rw[←bc.out]at bz));have an:=Asd.mk (Kd.R_lower bz (below_size (wZ HB)));replace o:=bU o hb;replace J:=bU J hb;replace HB:=bW HB hb;clear hb bz;refine hK.out _ _ ⟨(bkC o.out 0).trans rfl,(bkC o.out 1).trans rfl,(bkC o.out 2).trans rfl⟩ (fun hHeld=>?_);clear hK K;refine norm_ (a':=?_) ?_ ?_;rotate_left
   ·show Act.put _ (some 7) _=_
    simp only[Act.put,qA,qB,qC,i64_w,i32_w];rfl
   refine two_ (i:=5) (j:=7) (Ni:=some 10) (Nj:=some 3) #[true,true,true,true,true,true,false,false,false] Mk6_0 rfl rfl rfl rfl (two_of ar.out (by kernel_rfl)) (by decide) (by decide) (fun K hK=>?_) (fun K hK=>?_)
   ·skip;refine Kd.R_append_rows_step (Kd.int .i64) (w0:=w) w.heap.size (by rfl) (.tmp 7) (.tmp 9) 55 3 (.int .i64 0) 8 rfl Try.underlying55 info3 rfl (by decide) (by omega) v201 ax ae _ _ _ (fun _=>True) (fun _=>False) rfl rfl ?aO ?aR (fun _ _ h=>h) (fun _ h=>h.elim) ?aF ?aB ?aS ?aL ?_;(case aR=>repeat(first|exact(Kd.C_below bl.out HB.out)|(with_reducible refine Kd.C_alloc ?_ _)|(with_reducible refine Kd.C_drewN ?_ _)|(with_reducible refine Kd.C_drew ?_)));(case aB=>exact(wZ HB));(case aF=>exact(fun _ _=>trivial));(case aO=>exact(rS an));(case aS=>exact(below_size (wZ HB)));(case aL=>have:=bx.out;omega);intro bo w8 ho hb hg aW
    rw[←bn.out]at ho;replace o:=bN o hg (Kd.R_ne an.out o.out (by decide));replace J:=bN J hg (Kd.R_ne an.out J.out (by decide));replace HB:=Asd.mk (hb);have au:=Asd.mk (ho);clear an ho hb hg aW
    obtain⟨dv,dw,cl⟩:=Kd.R_slice au.out;(first|subst cl|(injection cl with f1_ f2_ f3_;have aY:=f1_.symm;have aZ:=f3_.symm;clear f1_ f2_ f3_;subst aY;subst aZ));refine hK.out _ _ ⟨(bkC o.out 0).trans rfl,(bkC o.out 1).trans rfl,(bkC o.out 2).trans rfl⟩ (fun hHeld=>?_);clear hK K;refine norm_ (a':=?_) ?_ ?_;rotate_left
    ·show Act.put _ (some 10) _=_
     simp only[Act.put,qA,qB,qC,i64_w,i32_w];rfl
    refine pure_ (i:=6) (N:=some 11) (v:=?_) (a':=?_) #[true,true,true,true,true,true,true,false,false] rfl rfl (any_of ar.out (by kernel_rfl)) (fun _ _ _ h=>h) (Or.inl ⟨by rfl,?_⟩) ?_ ?_;rotate_left
    ·intro w';go_simp;with_reducible rfl
    rotate_left
    ·simp only[Act.put,qA,qB,qC,i64_w,i32_w];rfl
    refine one_ (i:=7) (N:=some 3) Mk6_2 rfl rfl (one_of ar.out (by kernel_rfl)) (by decide) (fun K hK=>?_);refine box_step ?hg (N:=3) ?hd (cs:= #[.int .i64 0,.slice none 0 0,.slice none 0 0]) (t:=58) ?hr ?_;(case hd=>rfl);(case hg=>rfl);(case hr=>first|(go_simp;done)|(go_simp;rfl));intro ab hg w10 aw hb;replace au:=bR au hb;have I:=Asd.mk (aw);have aJ:=bG HB hg;have aK:=bG HB hg;replace HB:=bW HB hb;have aa:=bL o hg;have ad:=bM o hg;replace o:=bU o hb;have ah:=bL J hg;have ai:=bM J hg;replace J:=bU J hb;clear hb aw hg;refine hK.out _ _ ⟨(bkC o.out 0).trans rfl,(bkC o.out 1).trans rfl,(bkC o.out 2).trans rfl⟩ (fun hHeld=>?_);clear hK K;refine norm_ (a':=?_) ?_ ?_;rotate_left
    ·show Act.put _ (some 3) _=_
     simp only[Act.put,qA,qB,qC,i64_w,i32_w];rfl
    exact norm_ (by simp only[putAll,Act.put,qA,qB,qC]) (hCont (v201,.slice dv aq.length dw,ab) _ ⟨hHeld,(rS au),(kS o),(kS J),(kS I),aJ.out,aK.out,aa.out,ad.out,ah.out,ai.out,(wZ HB)⟩)
   ·skip;refine box_step ?hg (N:=3) ?hd (cs:= #[.int .i64 0,.slice none 0 0,.slice none 0 0]) (t:=58) ?hr ?_;(case hd=>rfl);(case hg=>rfl);(case hr=>first|(go_simp;done)|(go_simp;rfl));intro ab hg w8 aw hb;replace an:=bR an hb;have I:=Asd.mk (aw);have aJ:=bG HB hg;have aK:=bG HB hg;replace HB:=bW HB hb;have aa:=bL o hg;have ad:=bM o hg;replace o:=bU o hb;have ah:=bL J hg;have ai:=bM J hg;replace J:=bU J hb;clear hb aw hg;refine hK.out _ _ ⟨(bkC o.out 0).trans rfl,(bkC o.out 1).trans rfl,(bkC o.out 2).trans rfl⟩ (fun hHeld=>?_);clear hK K;refine norm_ (a':=?_) ?_ ?_;rotate_left
    ·show Act.put _ (some 3) _=_
     simp only[Act.put,qA,qB,qC,i64_w,i32_w];rfl
    refine one_ (i:=5) (N:=some 10) Mk6_1 rfl rfl (one_of ar.out (by kernel_rfl)) (by decide) (fun K hK=>?_);refine Kd.R_append_rows_step (Kd.int .i64) (w0:=w) w.heap.size (by rfl) (.tmp 7) (.tmp 9) 55 3 (.int .i64 0) 8 rfl Try.underlying55 info3 rfl (by decide) (by omega) v201 ax ae _ _ _ (fun _=>True) (fun _=>False) rfl rfl ?aO ?aR (fun _ _ h=>h) (fun _ h=>h.elim) ?aF ?aB ?aS ?aL ?_;(case aR=>repeat(first|exact(Kd.C_below bl.out HB.out)|(with_reducible refine Kd.C_alloc ?_ _)|(with_reducible refine Kd.C_drewN ?_ _)|(with_reducible refine Kd.C_drew ?_)));(case aB=>exact(wZ HB));(case aF=>exact(fun _ _=>trivial));(case aO=>exact(rS an));(case aS=>exact(below_size (wZ HB)));(case aL=>have:=bx.out;omega);intro bo w9 ho hb hg aW
    rw[←bn.out]at ho;replace o:=bN o hg (Kd.R_ne an.out o.out (by decide));replace J:=bN J hg (Kd.R_ne an.out J.out (by decide));replace I:=bN I hg (Kd.R_ne an.out I.out (by decide));replace HB:=Asd.mk (hb);have au:=Asd.mk (ho);clear an ho hb hg aW
    obtain⟨bB,bD,bf⟩:=Kd.R_slice au.out;(first|subst bf|(injection bf with f1_ f2_ f3_;have aY:=f1_.symm;have aZ:=f3_.symm;clear f1_ f2_ f3_;subst aY;subst aZ));refine hK.out _ _ ⟨(bkC o.out 0).trans rfl,(bkC o.out 1).trans rfl,(bkC o.out 2).trans rfl⟩ (fun hHeld=>?_);clear hK K;refine norm_ (a':=?_) ?_ ?_;rotate_left
    ·show Act.put _ (some 10) _=_
     simp only[Act.put,qA,qB,qC,i64_w,i32_w];rfl
    refine pure_ (i:=6) (N:=some 11) (v:=?_) (a':=?_) Mk6_2 rfl rfl (any_of ar.out (by kernel_rfl)) (fun _ _ _ h=>h) (Or.inl ⟨by rfl,?_⟩) ?_ ?_;rotate_left
    ·intro w';go_simp;with_reducible rfl
    rotate_left
    ·simp only[Act.put,qA,qB,qC,i64_w,i32_w];rfl
    exact norm_ (by simp only[putAll,Act.put,qA,qB,qC]) (hCont (v201,.slice bB aq.length bD,ab) _ ⟨hHeld,(rS au),(kS o),(kS J),(kS I),aJ.out,aK.out,aa.out,ad.out,ah.out,ai.out,(wZ HB)⟩)
  ·skip;refine box_step ?hg (N:=3) ?hd (cs:= #[.int .i64 0,.slice none 0 0,.slice none 0 0]) (t:=58) ?hr ?_;(case hd=>rfl);(case hg=>rfl);(case hr=>first|(go_simp;done)|(go_simp;rfl));intro ab hg w6 aw hb;have I:=Asd.mk (aw);have aJ:=bG HB hg;have aK:=bG HB hg;replace HB:=bW HB hb;have aa:=bL o hg;have ad:=bM o hg;replace o:=bU o hb;have ah:=bL J hg;have ai:=bM J hg;replace J:=bU J hb;clear hb aw hg;refine hK.out _ _ ⟨(bkC o.out 0).trans rfl,(bkC o.out 1).trans rfl,(bkC o.out 2).trans rfl⟩ (fun hHeld=>?_);clear hK K;refine norm_ (a':=?_) ?_ ?_;rotate_left
   ·show Act.put _ (some 3) _=_
    simp only[Act.put,qA,qB,qC,i64_w,i32_w];rfl
   refine one_ (i:=2) (N:=some 7) Mk6_0 rfl rfl (one_of ar.out (by kernel_rfl)) (by decide) (fun K hK=>?_);refine Kd.R_lit_step (Kd.int .i64) _ 3 ?hg (N:=7) ?hd (xs:=([]:List Int)) (inner:=[]) (ok:=fun _=>True) (okp:=fun _=>True) ?hr ?hp (fun _ hk=>hk) trivial (Below.refl _ _) (Nat.le_refl _) (by simp) ?_;(case hd=>rfl);(case hg=>rfl);(case hr=>first|(go_simp;done)|(go_simp;rfl));(case hp=>exact(Reps.none _ _));intro v201 w7 bF hb bA aV;clear bA aV;(first|rw[←bc.out]at bF|(simp only[Int.reduceToNat]at bF;rw[←bc.out]at bF));have an:=Asd.mk (Kd.R_lower bF (below_size (wZ HB)));replace o:=bU o hb;replace J:=bU J hb;replace I:=bU I hb;replace HB:=bW HB hb;clear hb bF;refine hK.out _ _ ⟨(bkC o.out 0).trans rfl,(bkC o.out 1).trans rfl,(bkC o.out 2).trans rfl⟩ (fun hHeld=>?_);clear hK K;refine norm_ (a':=?_) ?_ ?_;rotate_left
   ·show Act.put _ (some 7) _=_
    simp only[Act.put,qA,qB,qC,i64_w,i32_w];rfl
   refine one_ (i:=5) (N:=some 10) Mk6_1 rfl rfl (one_of ar.out (by kernel_rfl)) (by decide) (fun K hK=>?_);refine Kd.R_append_rows_step (Kd.int .i64) (w0:=w) w.heap.size (by rfl) (.tmp 7) (.tmp 9) 55 3 (.int .i64 0) 8 rfl Try.underlying55 info3 rfl (by decide) (by omega) v201 ax ae _ _ _ (fun _=>True) (fun _=>False) rfl rfl ?aO ?aR (fun _ _ h=>h) (fun _ h=>h.elim) ?aF ?aB ?aS ?aL ?_;(case aR=>repeat(first|exact(Kd.C_below bl.out HB.out)|(with_reducible refine Kd.C_alloc ?_ _)|(with_reducible refine Kd.C_drewN ?_ _)|(with_reducible refine Kd.C_drew ?_)));(case aB=>exact(wZ HB));(case aF=>exact(fun _ _=>trivial));(case aO=>exact(rS an));(case aS=>exact(below_size (wZ HB)));(case aL=>have:=bx.out;omega);intro bo w9 ho hb hg aW
   rw[←bn.out]at ho;replace o:=bN o hg (Kd.R_ne an.out o.out (by decide));replace J:=bN J hg (Kd.R_ne an.out J.out (by decide));replace I:=bN I hg (Kd.R_ne an.out I.out (by decide));replace HB:=Asd.mk (hb);have au:=Asd.mk (ho);clear an ho hb hg aW
   obtain⟨bB,bD,bf⟩:=Kd.R_slice au.out;(first|subst bf|(injection bf with f1_ f2_ f3_;have aY:=f1_.symm;have aZ:=f3_.symm;clear f1_ f2_ f3_;subst aY;subst aZ));refine hK.out _ _ ⟨(bkC o.out 0).trans rfl,(bkC o.out 1).trans rfl,(bkC o.out 2).trans rfl⟩ (fun hHeld=>?_);clear hK K;refine norm_ (a':=?_) ?_ ?_;rotate_left
   ·show Act.put _ (some 10) _=_
    simp only[Act.put,qA,qB,qC,i64_w,i32_w];rfl
   refine pure_ (i:=6) (N:=some 11) (v:=?_) (a':=?_) Mk6_2 rfl rfl (any_of ar.out (by kernel_rfl)) (fun _ _ _ h=>h) (Or.inl ⟨by rfl,?_⟩) ?_ ?_;rotate_left
   ·intro w';go_simp;with_reducible rfl
   rotate_left
   ·simp only[Act.put,qA,qB,qC,i64_w,i32_w];rfl
   exact norm_ (by simp only[putAll,Act.put,qA,qB,qC]) (hCont (v201,.slice bB aq.length bD,ab) _ ⟨hHeld,(rS au),(kS o),(kS J),(kS I),aJ.out,aK.out,aa.out,ad.out,ah.out,ai.out,(wZ HB)⟩)
 rintro⟨v201,bo,ab⟩ w11 ⟨hS_,h0_,h1_,h2_,h3_,h4_,h5_,h6_,h7_,h8_,h9_,h10_⟩;have au:Asd (Kd.R (Kd.int .i64) 3 w11 w.heap.size (fun _=>True) bo aq):=⟨h0_⟩;replace o:Asd (w11.heap[ak]?=some (.cells #[.int .i64 ag,.slice aC ae.length aD,.slice aI af.length aE] 58 (0,0))):=⟨h1_⟩;replace J:Asd (w11.heap[az]?=some (.cells #[.int .i64 0,.slice none 0 0,.slice none 0 0] 58 (0,0))):=⟨h2_⟩;have I:Asd (w11.heap[ab]?=some (.cells #[.int .i64 0,.slice none 0 0,.slice none 0 0] 58 (0,0))):=⟨h3_⟩;have aJ:Asd (w.heap.size≤ab):=⟨h4_⟩;have aK:Asd (w.heap.size≤ab):=⟨h5_⟩;have aa:Asd (ak≠ab):=⟨h6_⟩;have ad:Asd (ab≠ak):=⟨h7_⟩;have ah:Asd (az≠ab):=⟨h8_⟩;have ai:Asd (ab≠az):=⟨h9_⟩;replace HB:Asd (Below w.heap.size w w11):=⟨h10_⟩;clear h0_ h1_ h2_ h3_ h4_ h5_ h6_ h7_ h8_ h9_ h10_;have hHeld:w11.cell? ⟨ak,0,none⟩=some (.int .i64 ag)∧w11.cell? ⟨ak,1,none⟩=some (.slice aC ae.length aD)∧w11.cell? ⟨ak,2,none⟩=some (.slice aI af.length aE):=hS_;obtain⟨aG,aH,b5⟩:=Kd.R_slice au.out;(first|subst b5|(injection b5 with f1_ f2_ f3_;have aY:=f1_.symm;have aZ:=f3_.symm;clear f1_ f2_ f3_;subst aY;subst aZ));refine norm_ (a':=?_) ?_ ?_;rotate_left
 ·simp only[putAll,Act.put,qA,qB,qC];rfl
 refine one_ (i:=8) (N:=none) #[true,true,true,true,true,true,true,true,true] rfl rfl (one_of ar.out (by kernel_rfl)) (by decide) (fun K hK=>?_);have dO:=bC I 0;have dx:=bkF I.out 0;have cm:=aa.out;have cn:=ah.out;have cp:=ad.out;have cq:=ai.out;have dP:=bC I 1;have dy:=bkF I.out 1;have cr:=aa.out;have ct:=ah.out;have cu:=ad.out;have cv:=ai.out;have dQ:=bC I 2;have dz:=bkF I.out 2;have cw:=aa.out;have cx:=ah.out;have cy:=ad.out;have cz:=ai.out;refine skip_ (w1:=?_) (by rfl) rfl ?_ ?_;rotate_left
 ·go_simp;rfl
 refine hK.out _ _ ⟨((cell_far (p:=⟨ab,_,none⟩) aa.out _).trans (((cell_far (p:=⟨ab,_,none⟩) aa.out _).trans (((cell_far (p:=⟨ab,_,none⟩) aa.out _).trans (hHeld.1)))))),((cell_far (p:=⟨ab,_,none⟩) aa.out _).trans (((cell_far (p:=⟨ab,_,none⟩) aa.out _).trans (((cell_far (p:=⟨ab,_,none⟩) aa.out _).trans (hHeld.2.1)))))),((cell_far (p:=⟨ab,_,none⟩) aa.out _).trans (((cell_far (p:=⟨ab,_,none⟩) aa.out _).trans (((cell_far (p:=⟨ab,_,none⟩) aa.out _).trans (hHeld.2.2))))))⟩ (fun hHeld=>?_);clear hK K;refine done_ (done_of ar.out (by kernel_rfl)) ?_;try go_wp2
 go_loopg [4] k (fun kq v4 w'=>∃(ao:Int) (aj:List (List Int)) (av:Value),v4= .int .i64 ao∧Asd (spec_l10Copy.l0 kq ao ag ae af ag aq aj=some (r1,r2,r3))∧Asd (kq≤k)∧Asd (Kd.R (Kd.int .i64) 3 w' w.heap.size (fun _=>True) (.slice aG aq.length aH) aq)∧Asd (Kd.S (Kd.slice 3 (Kd.int .i64)) 55 w' w.heap.size (fun k_=>some k_≠((.slice aG aq.length aH):Value).ownBlock) av aj)∧Asd (w'.heap[ak]?=some (.cells #[.int .i64 ag,(.slice aC ae.length aD),(.slice aI af.length aE)] 58 (0,0)))∧Asd (w'.heap[az]?=some (.cells #[.int .i64 0,(.slice none 0 0),(.slice none 0 0)] 58 (0,0)))∧Asd (w'.heap[ab]?=some (.cells #[.int .i64 ag,(.slice aG aq.length aH),av] 58 (0,0)))∧Asd (Below w.heap.size w w'))
 case atStart=>exact⟨(0),(([]:List (List Int))),(.slice none 0 0),(by first|rfl|(simp;done)|(simp[*];done)),H',⟨Nat.le_refl _⟩,⟨rT au⟩,⟨by first|exact Kd.S_nil _ _ _ _ _|exact Kd.N_nil _ _ _ _ _|exact Kd.V_nil _ _ _ _ _|exact Kd.Q_nil _ _ _ _ _|exact Kd.R_nil _ _ _ _ _⟩,⟨kS o⟩,⟨kS J⟩,⟨kP I⟩,⟨wZ HB⟩⟩
 case round=>
  clear H';obtain⟨ao,aj,av,rfl,HA,cA,HO_207001,HO_207002,o,J,I,HB⟩:=hrel;cases gk with
  |zero=>exact absurd HA.out (by simp[spec_l10Copy.l0])
  |succ k1=>
   have H:=HA.out;clear HA;simp only[spec_l10Copy.l0]at H;by_cases bq:ao<(af.length:Int)
   ·rw[if_pos bq]at H;have cd:decide (ao<(af.length:Int))=true:=decide_eq_true bq;clear bq;obtain⟨aM,a6⟩:∃y_:List Int,y_=(([]:List Int)):=⟨_,rfl⟩;replace H:(if 0≤ao then(if aM.length+(rd_L1 af ao).length<17592186044416 then(if aj.length<5864062014805 then(spec_l10Copy.l0 k1 (wrap64 (ao+1)) ag ae af ag aq (aj++ [(aM++(rd_L1 af ao))]))else(none))else(none))else(none))=some (r1,r2,r3):=by first|(rw[a6];with_reducible exact H)|(have ay:=(Option.bind_some _ _).symm.trans H;rw[a6];with_reducible exact ay)|(have ay:=(Option.bind_some _ _).symm.trans H;with_reducible exact ay)|with_reducible exact H|(rw[a6];exact H)|exact H
    have bH:=Asd.mk a6;clear a6;by_cases bV:0≤ao;rotate_left;(rw[if_neg bV]at H;exact absurd H (by simp));rw[if_pos bV]at H;have dA:decide (0≤ao)=true:=decide_eq_true bV;clear bV;by_cases bZ:aM.length+(rd_L1 af ao).length<17592186044416;rotate_left;(rw[if_neg bZ]at H;exact absurd H (by simp));rw[if_pos bZ]at H;have cf:=Asd.mk bZ;clear bZ;obtain⟨bg,a7⟩:∃y_:List Int,y_=(aM++(rd_L1 af ao)):=⟨_,rfl⟩;replace H:(if aj.length<5864062014805 then(spec_l10Copy.l0 k1 (wrap64 (ao+1)) ag ae af ag aq (aj++ [bg]))else(none))=some (r1,r2,r3):=by first|(rw[a7];with_reducible exact H)|(have ay:=(Option.bind_some _ _).symm.trans H;rw[a7];with_reducible exact ay)|(have ay:=(Option.bind_some _ _).symm.trans H;with_reducible exact ay)|with_reducible exact H|(rw[a7];exact H)|exact H
    have cg:=Asd.mk a7;clear a7;by_cases b0:aj.length<5864062014805;rotate_left;(rw[if_neg b0]at H;exact absurd H (by simp));rw[if_pos b0]at H;have ch:=Asd.mk b0;clear b0;obtain⟨bI,a8⟩:∃y_:List (List Int),y_=(aj++ [bg]):=⟨_,rfl⟩;replace H:(spec_l10Copy.l0 k1 (wrap64 (ao+1)) ag ae af ag aq bI)=some (r1,r2,r3):=by first|(rw[a8];with_reducible exact H)|(have ay:=(Option.bind_some _ _).symm.trans H;rw[a8];with_reducible exact ay)|(have ay:=(Option.bind_some _ _).symm.trans H;with_reducible exact ay)|with_reducible exact H|(rw[a8];exact H)|exact H
    have cj:=Asd.mk a8;clear a8;have H':=Asd.mk H;clear H;have dB:=aT.out;have dC:=aU.out;have dD:=aa.out;have dE:=ad.out;obtain⟨cB,cC,cD,cE,cF,cG⟩:=b3 o;try go_wp2
    replace HO_207001:=Asd.mk (Kd.R_drew HO_207001.out);replace HO_207002:=Asd.mk (Kd.S_drew HO_207002.out);replace o:=Asd.mk (bkD o.out);replace J:=Asd.mk (bkD J.out);replace I:=Asd.mk (bkD I.out);replace HB:=Asd.mk (bwD HB.out);have bJ:0≤(ao:Int):=odt;have bO:ao<(af.length:Int):=odt;obtain⟨bQ,b1,b4,cH,aA,bh,bj⟩:=at_L1 cc.out ao bJ bO;have al:=aA;cases cH;replace aA:=(HB.out.cell (World.block_lt_of_cell? w _ aA)).trans aA;have bk:=Asd.mk bj;have cI:=Asd.mk bh;clear bj bh;replace bJ:=eq_true bJ;replace bO:=eq_true bO;refine start_ (n:=13) (S:=fun w'=>w'.cell? ⟨ab,0,none⟩=some (.int .i64 ag)∧w'.cell? ⟨ab,1,none⟩=some (.slice aG aq.length aH)∧w'.cell? ⟨ab,2,none⟩=some (av)∧w'.cell? ⟨ak,0,none⟩=some (.int .i64 ag)∧w'.cell? ⟨ak,1,none⟩=some (.slice aC ae.length aD)∧w'.cell? ⟨ak,2,none⟩=some (.slice (some bQ) af.length aE)∧w'.cell? (bQ.add (ao).toNat)=some (.slice b1 (rd_L1 af ao).length b4)) (ds:=[12]) #[false,false,false,false,false,false,false,false,false,false,false,false,false] (by kernel_rfl) rfl rfl ⟨(bkC I.out 0).trans rfl,(bkC I.out 1).trans rfl,(bkC I.out 2).trans rfl,(bkC o.out 0).trans rfl,(bkC o.out 1).trans rfl,(bkC o.out 2).trans rfl,((HB.out.cell (World.block_lt_of_cell? w _ al)).trans al)⟩ (fun hHeld=>?_);refine with_tabW spec_l10Copy.tab5 spec_l10Copy.bits5 (fun ar bp=>?_);generalize wr.drew=dT at HO_207001 HO_207002 o J I HB bk aA hHeld⊢;refine pure_ (i:=0) (N:=some 19) (v:=?_) (a':=?_) #[true,false,false,false,false,false,false,false,false,false,false,false,false] rfl rfl (any_of ar.out (by kernel_rfl)) (fun _ _ _ h=>h) (Or.inl ⟨by rfl,?_⟩) ?_ ?_;rotate_left
    ·intro w';go_simp;with_reducible rfl
    rotate_left
    ·simp only[Act.put,qA,qB,qC,i64_w,i32_w];rfl
    refine pure_ (i:=3) (N:=some 22) (v:=?_) (a':=?_) #[true,false,false,true,false,false,false,false,false,false,false,false,false] rfl rfl (any_of ar.out (by kernel_rfl)) (fun _ _ _ h=>h) (Or.inl ⟨by rfl,?_⟩) ?_ ?_;rotate_left
    ·intro w';go_simp;with_reducible rfl
    rotate_left
    ·simp only[Act.put,qA,qB,qC,i64_w,i32_w];rfl
    refine pure_ (i:=5) (N:=some 24) (v:=?_) (a':=?_) #[true,false,false,true,false,true,false,false,false,false,false,false,false] rfl rfl (any_of ar.out (by kernel_rfl)) (fun _ _ _ h=>h) (Or.inl ⟨by rfl,?_⟩) ?_ ?_;rotate_left
    ·intro w';go_simp;with_reducible rfl
    rotate_left
    ·simp only[Act.put,qA,qB,qC,i64_w,i32_w];rfl
    refine take_ (i:=1) (N:=some 20) (v:=?_) (a':=?_) #[true,true,false,true,false,true,false,false,false,false,false,false,false] rfl rfl (take_ofW ar.out bp.out (by kernel_rfl)) (fun _ _ _ h=>h) (Or.inl ⟨by rfl,?_⟩) hHeld ?_ ?_;rotate_left
    ·rintro w' ⟨s0,s1,s2,s3,s4,s5,s6⟩;go_simp;with_reducible rfl
    rotate_left
    ·simp only[Act.put,qA,qB,qC,i64_w,i32_w];rfl
    refine take_ (i:=4) (N:=some 23) (v:=?_) (a':=?_) #[true,true,false,true,true,true,false,false,false,false,false,false,false] rfl rfl (take_ofW ar.out bp.out (by kernel_rfl)) (fun _ _ _ h=>h) (Or.inl ⟨by rfl,?_⟩) hHeld ?_ ?_;rotate_left
    ·rintro w' ⟨s0,s1,s2,s3,s4,s5,s6⟩;go_simp;with_reducible rfl
    rotate_left
    ·simp only[Act.put,qA,qB,qC,i64_w,i32_w];rfl
    refine pure_ (i:=6) (N:=some 25) (v:=?_) (a':=?_) #[true,true,false,true,true,true,true,false,false,false,false,false,false] rfl rfl (any_of ar.out (by kernel_rfl)) (fun _ _ _ h=>h) (Or.inl ⟨by rfl,?_⟩) ?_ ?_;rotate_left
    ·intro w';go_simp;with_reducible rfl
    rotate_left
    ·simp only[Act.put,qA,qB,qC,i64_w,i32_w];rfl
    refine take_ (i:=7) (N:=some 26) (v:=?_) (a':=?_) #[true,true,false,true,true,true,true,true,false,false,false,false,false] rfl rfl (take_ofW ar.out bp.out (by kernel_rfl)) (fun _ _ _ h=>h) (Or.inl ⟨by rfl,?_⟩) hHeld ?_ ?_;rotate_left
    ·rintro w' ⟨s0,s1,s2,s3,s4,s5,s6⟩;go_simp;with_reducible rfl
    rotate_left
    ·simp only[Act.put,qA,qB,qC,i64_w,i32_w];rfl
    refine one_ (i:=2) (N:=some 21) #[true,true,true,true,true,true,true,true,false,false,false,false,false] rfl rfl (one_of ar.out (by kernel_rfl)) (by decide) (fun K hK=>?_);refine Kd.R_lit_step (Kd.int .i64) _ 3 ?hg (N:=21) ?hd (xs:=([]:List Int)) (inner:=[]) (ok:=fun _=>True) (okp:=fun _=>True) ?hr ?hp (fun _ hk=>hk) trivial (Below.refl _ _) (Nat.le_refl _) (by simp) ?_;(case hd=>rfl);(case hg=>rfl);(case hr=>first|(go_simp;done)|(go_simp;rfl));(case hp=>exact(Reps.none _ _));intro v208 dU ba hb bA aV;clear bA aV;(first|rw[←bH.out]at ba|(simp only[Int.reduceToNat]at ba;rw[←bH.out]at ba));replace HO_207002:=Asd.mk (Kd.S_elder' (sS HO_207002) (Kd.R_base ba) hb);have bb:=Asd.mk (Kd.R_lower (Kd.R_new' ba (Kd.R_lt (rS HO_207001))) (below_size (wZ HB)));replace HO_207001:=Asd.mk (Kd.R_elder' (rS HO_207001) (Kd.R_base ba) hb);replace o:=bU o hb;replace J:=bU J hb;replace I:=bU I hb;replace HB:=bW HB hb;clear hb ba;refine hK.out _ _ ⟨(bkC I.out 0).trans rfl,(bkC I.out 1).trans rfl,(bkC I.out 2).trans rfl,(bkC o.out 0).trans rfl,(bkC o.out 1).trans rfl,(bkC o.out 2).trans rfl,((HB.out.cell (World.block_lt_of_cell? w _ al)).trans al)⟩ (fun hHeld=>?_);clear hK K;refine norm_ (a':=?_) ?_ ?_;rotate_left
    ·show Act.put _ (some 21) _=_
     simp only[Act.put,qA,qB,qC,i64_w,i32_w];rfl
    refine one_ (i:=8) (N:=some 27) #[true,true,true,true,true,true,true,true,true,false,false,false,false] rfl rfl (one_of ar.out (by kernel_rfl)) (by decide) (fun K hK=>?_);refine Kd.R_append_rows_step (Kd.int .i64) (w0:=w) w.heap.size (by rfl) (.tmp 21) (.tmp 26) 55 3 (.int .i64 0) 8 rfl Try.underlying55 info3 rfl (by decide) (by omega) v208 aM (rd_L1 af ao) _ _ _ (fun k_=>some k_≠(.slice aG aq.length aH:Value).ownBlock) (fun _=>False) rfl rfl ?aO ?aR (fun _ _ h=>h) (fun _ h=>h.elim) ?aF ?aB ?aS ?aL ?_;(case aR=>repeat(first|exact(Kd.C_below bk.out HB.out)|(with_reducible refine Kd.C_alloc ?_ _)|(with_reducible refine Kd.C_drewN ?_ _)|(with_reducible refine Kd.C_drew ?_)));(case aB=>exact(wZ HB));(case aF=>exact(fun k_ hk=>Kd.fresh' (Kd.R_lt (rS HO_207001)) k_ hk));(case aO=>exact(by(repeat apply Kd.RS);exact Kd.R_mono bb.out (fun _ hk=>hk.2)));(case aS=>exact(below_size (wZ HB)));(case aL=>have:=cf.out;omega);intro v212 dV ho hb hg aW
    rw[←cg.out]at ho;replace HO_207001:=Asd.mk (Kd.R_after (ok:=(fun _=>True)) (rS HO_207001) hg aW);replace HO_207002:=Asd.mk (Kd.S_after (ok:=(fun k_=>some k_≠(.slice aG aq.length aH:Value).ownBlock)) (sS HO_207002) hg aW);replace o:=bN o hg (Kd.R_ne bb.out o.out (by decide));replace J:=bN J hg (Kd.R_ne bb.out J.out (by decide));replace I:=bN I hg (Kd.R_ne bb.out I.out (by decide));replace HB:=Asd.mk (hb);have bd:=Asd.mk (ho);clear bb ho hb hg aW
    obtain⟨b6,b7,b8⟩:=Kd.R_slice bd.out;(first|subst b8|(injection b8 with f1_ f2_ f3_;have aY:=f1_.symm;have aZ:=f3_.symm;clear f1_ f2_ f3_;subst aY;subst aZ));refine hK.out _ _ ⟨(bkC I.out 0).trans rfl,(bkC I.out 1).trans rfl,(bkC I.out 2).trans rfl,(bkC o.out 0).trans rfl,(bkC o.out 1).trans rfl,(bkC o.out 2).trans rfl,((HB.out.cell (World.block_lt_of_cell? w _ al)).trans al)⟩ (fun hHeld=>?_);clear hK K;refine norm_ (a':=?_) ?_ ?_;rotate_left
    ·show Act.put _ (some 27) _=_
     simp only[Act.put,qA,qB,qC,i64_w,i32_w];rfl
    refine one_ (i:=9) (N:=some 28) #[true,true,true,true,true,true,true,true,true,true,false,false,false] rfl rfl (one_of ar.out (by kernel_rfl)) (by decide) (fun K hK=>?_);refine value_ (w1:=?_) (v:=?_) (by rfl) rfl ?_ ?_;rotate_left 2
    ·go_simp;constructor
     ·rfl
     ·rfl
    refine hK.out _ _ ⟨(bkC (bkA I.out _) 0).trans rfl,(bkC (bkA I.out _) 1).trans rfl,(bkC (bkA I.out _) 2).trans rfl,(bkC (bkA o.out _) 0).trans rfl,(bkC (bkA o.out _) 1).trans rfl,(bkC (bkA o.out _) 2).trans rfl,(World.cell?_alloc_lt _ _ _ (World.block_lt_of_cell? _ _ (((HB.out.cell (World.block_lt_of_cell? w _ al)).trans al)))).trans (((HB.out.cell (World.block_lt_of_cell? w _ al)).trans al))⟩ (fun hHeld=>?_);clear hK K;refine norm_ (a':=?_) ?_ ?_;rotate_left
    ·show Act.put _ (some 28) _=_
     simp only[Act.put,qA,qB,qC,i64_w,i32_w];rfl
    refine one_ (i:=10) (N:=some 29) #[true,true,true,true,true,true,true,true,true,true,true,false,false] rfl rfl (one_of ar.out (by kernel_rfl)) (by decide) (fun K hK=>?_);refine Kd.S_append_step (Kd.slice 3 (Kd.int .i64)) (w0:=w) w.heap.size (by rfl) (.tmp 20) (.tmp 28) 56 55 (.slice none 0 0) 24 rfl Try.underlying56 info55 rfl (by decide) (by omega) av aj bg [.slice b6 bg.length b7] (fun k_=>some k_≠(.slice aG aq.length aH:Value).ownBlock) (fun k_=>some k_=(.slice b6 bg.length b7:Value).ownBlock) rfl rfl ?aP (fun k_ dF=>((Kd.R_mono (ok':=fun k_=>((fun k_=>some k_≠(.slice aG aq.length aH:Value).ownBlock)) k_∧some k_≠(av:Value).ownBlock) (Kd.R_apart' (bd.out) (Kd.S_typed HO_207002.out) (by decide)) (fun k_ hk=>⟨hk.1,hk.2⟩))).1 k_ dF.symm) ?aF ?aO ?aB ?aS ?aL ?_;(case aP=>exact Kd.M_row (Kd.R_mono (Kd.R_tight rfl (Kd.R_mono (ok':=fun k_=>((fun k_=>some k_≠(.slice aG aq.length aH:Value).ownBlock)) k_∧some k_≠(av:Value).ownBlock) (Kd.R_apart' (bd.out) (Kd.S_typed HO_207002.out) (by decide)) (fun k_ hk=>⟨hk.1,hk.2⟩))) (fun _ h_=>h_)));(case aB=>exact(wZ HB));(case aF=>exact(fun k_ hk=>Kd.fresh' (Kd.R_lt (rS HO_207001)) k_ hk));(case aO=>exact(by(repeat apply Kd.SS);exact Kd.S_mono HO_207002.out (fun k_ hk=>⟨hk.1,fun e_=>hk.2 e_⟩)));(case aS=>exact(below_size (wZ HB)));(case aL=>have:=ch.out;omega);intro dR dW ho hb hg aW
    rw[←cj.out]at ho;replace HO_207001:=Asd.mk (Kd.R_over' (rS HO_207001) (Kd.S_typed (sS HO_207002)) (by decide) hg);replace o:=bN o hg (Kd.S_ne HO_207002.out o.out (by decide));replace J:=bN J hg (Kd.S_ne HO_207002.out J.out (by decide));replace I:=bN I hg (Kd.S_ne HO_207002.out I.out (by decide));replace HB:=Asd.mk (hb);have bT:=Asd.mk (ho);clear HO_207002 bd ho hb hg aW
    obtain⟨cJ,cK,b9⟩:=Kd.S_slice bT.out;(first|subst b9|(injection b9 with f1_ f2_ f3_;have aY:=f1_.symm;have aZ:=f3_.symm;clear f1_ f2_ f3_;subst aY;subst aZ));refine hK.out _ _ ⟨(bkC I.out 0).trans rfl,(bkC I.out 1).trans rfl,(bkC I.out 2).trans rfl,(bkC o.out 0).trans rfl,(bkC o.out 1).trans rfl,(bkC o.out 2).trans rfl,((HB.out.cell (World.block_lt_of_cell? w _ al)).trans al)⟩ (fun hHeld=>?_);clear hK K;refine norm_ (a':=?_) ?_ ?_;rotate_left
    ·show Act.put _ (some 29) _=_
     simp only[Act.put,qA,qB,qC,i64_w,i32_w];rfl
    refine pure_ (i:=11) (N:=some 30) (v:=?_) (a':=?_) #[true,true,true,true,true,true,true,true,true,true,true,true,false] rfl rfl (any_of ar.out (by kernel_rfl)) (fun _ _ _ h=>h) (Or.inl ⟨by rfl,?_⟩) ?_ ?_;rotate_left
    ·intro w';go_simp;with_reducible rfl
    rotate_left
    ·simp only[Act.put,qA,qB,qC,i64_w,i32_w];rfl
    refine last_ (i:=12) (N:=none) #[true,true,true,true,true,true,true,true,true,true,true,true,true] rfl rfl (one_of ar.out (by kernel_rfl)) (by decide) (fun K hK=>?_);have dS:=bC I 2;have dG:=bkF I.out 2;have cL:=aa.out;have cM:=ah.out;have cN:=ad.out;have cO:=ai.out;refine skip_ (w1:=?_) (by rfl) rfl ?_ ?_;rotate_left
    ·go_simp;rfl
    refine hK.out _ _ ?_;clear hK K;refine done_ (done_of ar.out (by kernel_rfl)) ?_;try go_wp2
    go_roundg k1
    case measure=>have:=cA.out;omega
    case rel=>exact⟨(wrap64 (ao+1)),(bI),(.slice cJ bI.length cK),(by first|rfl|(simp;done)|(simp[*];done)),H',⟨by have:=cA.out;omega⟩,⟨rT HO_207001⟩,⟨sT bT⟩,⟨kS o⟩,⟨kS J⟩,⟨kP I⟩,⟨wZ HB⟩⟩
   ·rw[if_neg bq]at H;have cd:decide (ao<(af.length:Int))=false:=decide_eq_false bq;clear bq;simp only[Option.some.injEq,Prod.mk.injEq]at H;obtain⟨rfl,rfl,rfl⟩:=H;have dH:=aT.out;have dI:=aU.out;have dJ:=aa.out;have dK:=ad.out;obtain⟨cP,cQ,cR,cS,cT,cU⟩:=b3 o;have dL:=ai.out;have dM:=ah.out;obtain⟨cV,cW,cX,cY,c0,c1⟩:=b3 I;obtain⟨da,db,dc,dd,de,df⟩:=b3 J;obtain⟨dg,dh,di⟩:=Kd.S_slice HO_207002.out;subst di;go_wp2;refine bodyPost_ret (results_cell_row rfl _ _ az 58 #[.int .i64 ag,.slice aG aq.length aH,.slice dg aj.length dh] (0,0) _ rfl (kP J) Try.underlying58 rfl (by kernel_rfl)) rfl ?_;exact⟨_,_,by first|rfl|(simp[*,errW_none,errW_some]<;>rfl),rT HO_207001,sT HO_207002,wZ HB⟩

/-! ### spec_SetOk: function 132 -/
def spec_SetOk.f (a0:Int) (a1:Int):Option (Bool):=(spec_l1In.f a0 1 3).bind fun t217=>(if t217=true then((spec_l1All.f a0).bind fun t218=>((spec_l1In.f a1 0 t218).bind fun t219=>(some t219)))else(some false))
set_option maxHeartbeats 8000000 in
set_option maxRecDepth 100000 in
theorem spec_SetOk.calls (a0:Int) (a1:Int) (r:Bool) (w:World) (h:spec_SetOk.f a0 a1=some r):
  Calls Try.prog 132 #[.int .i64 a0,.int .i64 a1] w fun e w'=>e= .returned (.bool r)∧Drawn0 w w':=by
 have H:((spec_l1In.f a0 1 3).bind fun t217=>(if t217=true then((spec_l1All.f a0).bind fun t218=>((spec_l1In.f a1 0 t218).bind fun t219=>(some t219)))else(some false)))=some r:=h;clear h;replace H:=Option.bind_eq_some_iff.mp H;obtain⟨t217,dj,H⟩:=H;try dsimp only at H
 have A3:=Asd.mk dj;clear dj;by_cases c4:t217=true
 ·subst c4;rw[if_pos rfl]at H;replace H:=Option.bind_eq_some_iff.mp H;obtain⟨t218,dk,H⟩:=H;try dsimp only at H
  have A5:=Asd.mk dk;clear dk;replace H:=Option.bind_eq_some_iff.mp H;obtain⟨t219,dm,H⟩:=H;try dsimp only at H
  have A6:=Asd.mk dm;clear dm;obtain rfl:=Option.some.inj H;go_enter Try.func132,Try.ntmps132;go_wp2_with (first|((with_reducible refine gate_callee (f:=72) rfl ?_);refine gsM (some 6) rfl rfl Try.func72 (by kernel_rfl) rfl #[.int .i64 a0,.int .i64 1,.int .i64 3] rfl ?_;(with_reducible refine(spec_l1In.calls a0 1 3 true _ A3.out).mono ?_);rintro e w' ⟨rfl,⟨nd,rfl⟩⟩;refine⟨_,rfl,?_⟩)|(go_at_call 140;(with_reducible refine(spec_l1All.calls a0 t218 _ A5.out).mono ?_);rintro e w' ⟨rfl,⟨nd,rfl⟩⟩)|(go_at_call 72;(with_reducible refine(spec_l1In.calls a1 0 t218 t219 _ A6.out).mono ?_);rintro e w' ⟨rfl,⟨nd,rfl⟩⟩));go_ret;exact⟨by first|rfl|(simp;done)|(simp[*];done),by repeat(first|exact Drawn0.refl _|apply Drawn0.step)⟩
 ·replace c4:=Bool.eq_false_iff.mpr c4;subst c4;rw[if_neg (show¬(false=true) by decide)]at H;obtain rfl:=Option.some.inj H;go_enter Try.func132,Try.ntmps132;go_wp2_with (first|((with_reducible refine gate_callee (f:=72) rfl ?_);refine gsM (some 6) rfl rfl Try.func72 (by kernel_rfl) rfl #[.int .i64 a0,.int .i64 1,.int .i64 3] rfl ?_;(with_reducible refine(spec_l1In.calls a0 1 3 false _ A3.out).mono ?_);rintro e w' ⟨rfl,⟨nd,rfl⟩⟩;refine⟨_,rfl,?_⟩));go_ret;exact⟨by first|rfl|(simp;done)|(simp[*];done),by repeat(first|exact Drawn0.refl _|apply Drawn0.step)⟩

end Go.Proofs.Ytihgpkohglcijaa.P
