import Derived.Test.YtihgpkohglcijaaGreatDoorPx0
import Derived.Test.YtihgpkohglcijaaGreatDoorPx1
import Derived.Test.YtihgpkohglcijaaGreatDoorPx15
namespace Go.Proofs.YtihgpkohglcijaaGreatDoor.P
open Go.RowKit Go.Proofs.YtihgpkohglcijaaGreatDoorW.PrintWords Go.Proofs.YtihgpkohglcijaaGreatDoorW.PrintLast Go.Proofs.YtihgpkohglcijaaGreatDoorW.PrintMore
attribute [local go_sem] max2_int min2_int max_two min_two max_three min_three max_four min_four   -- for this text's walks alone
set_option linter.unusedVariables false
set_option linter.unusedSimpArgs false

attribute [local go_sem high] Ca
set_option maxHeartbeats 8000000
set_option maxRecDepth 100000
abbrev FN:Array Bool:= #[true,true,true,true,true,false,false,true,false]
abbrev FO:Array Bool:= #[true,true,true,true,true,true,true,true,false]
def ko.l0:Nat→Int→Int→List Int→List (List Int)→Int→List Int→List (List Int)→Option (Int×List Int×(List (List Int)))
 |0,_,_,_,_,_,_,_=>none
 |k+1,x4,EB,EC,yW,Cf,Cg,Ab=>if x4<(yW.length:Int)then((some (([]:List Int):List Int)).bind fun aW=>(if 0≤x4 then(if aW.length+(qi yW x4).length<17592186044416 then(if Ab.length<5864062014805 then(ko.l0 k (wrap64 (x4+1)) EB EC yW Cf Cg (Ab++ [(aW++(qi yW x4))]))else(none))else(none))else(none)))else(some (Cf,Cg,Ab))
def ko.f (k:Nat) (I:Int) (ae:List Int) (ai:List (List Int)):Option (Int×List Int×(List (List Int))):=(some (([]:List Int):List Int)).bind fun aC=>(if aC.length+ae.length<17592186044416 then(ko.l0 k 0 I ae ai I (aC++ae) ([]:List (List Int)))else(none))
theorem ko.jQ:∀k,(∀y0 y1 y2 y3 y4 y5 y6,qg (ko.l0 k y0 y1 y2 y3 y4 y5 y6) (ko.l0 (k+1) y0 y1 y2 y3 y4 y5 y6))
 |0=>fun _ _ _ _ _ _ _=> .z (by simp only[ko.l0])
 |k+1=>by
  have i0:=ko.jQ k;exact fun _ _ _ _ _ _ _=>by unfold ko.l0;infer_instance
instance ko.mo {k a0 a1 a2}:qg (ko.f k a0 a1 a2) (ko.f (k+1) a0 a1 a2):=by have i0:=ko.jQ k;unfold ko.f;infer_instance
def ko.T1:Bool×List (List Nat×List Nat):=(true,[([],[]),([0],[0]),([],[]),([],[]),([3],[3]),([2,4],[2,4]),([1,5],[1,5]),([],[]),([7,6,5,0,1,2,3,4,5,6,7],[6,7])])
def ko.B1:List Nat:=[0,1,0,0,8,28,63,0,255]
theorem ko.Dw:rtab .any (opsOf Tryz.f45 1)=ko.T1:=by kernel_rfl
theorem ko.AM:waitsOk ko.T1.2 ko.B1=true:=by kernel_rfl
def ko.T5:Bool×List (List Nat×List Nat):=(true,[([],[]),([0],[0]),([],[]),([],[]),([3],[3]),([],[]),([4,5],[4,5]),([6],[6]),([2,7],[2,7]),([8],[8]),([1,9,8],[1,9]),([0,1,2,3,4,5,6,7,8,9,10],[]),([11,10,10,0,1,2,3,4,5,6,7,8,9,10],[10,11])])
def ko.B5:List Nat:=[0,1,0,0,8,0,56,120,252,508,1023,2047,4095]
theorem ko.AO:rtab .any (opsOf Tryz.f45 5)=ko.T5:=by kernel_rfl
theorem ko.yz:waitsOk ko.T5.2 ko.B5=true:=by kernel_rfl
theorem ko.calls (k:Nat) (I:Int) (aG:Option Addr) (aH:Nat) (ae:List Int) (aN:Option Addr) (aI:Nat) (ai:List (List Int)) (r1:Int) (r2:List Int) (r3:List (List Int)) (w:World) (bT:Kd.C (Kd.int .i64) w aG ae.length ae) (bV:ae.length≤aH) (bZ:Kd.C (Kd.slice 3 (Kd.int .i64)) w aN ai.length ai) (b0:ai.length≤aI) (h:ko.f k I ae ai=some (r1,r2,r3)):
  Calls Tryz.prog 45 #[.agg #[.int .i64 I,.slice aG ae.length aH,.slice aN ai.length aI]] w fun e w'=>∃ct cH:Value,e= .returned (.agg #[.int .i64 r1,ct,cH])∧Kd.R (Kd.int .i64) 3 w' w.heap.size (fun _=>True) ct r2∧Kd.S (Kd.slice 3 (Kd.int .i64)) 23 w' w.heap.size (fun k_=>some k_≠(ct:Value).ownBlock) cH r3∧Below w.heap.size w w':=by
 have eZ:=Tryz.underlying26;have bq:=bm bT;have el:=bm bV;clear bT bV;have cu:=bm bZ;have en:=bm b0;clear bZ b0;have HB:=bm (Below.refl w.heap.size w);have H:=h;clear h;unfold ko.f at H;obtain⟨aC,br⟩:∃y_:List Int,y_=(([]:List Int)):=⟨_,rfl⟩;replace H:(if aC.length+ae.length<17592186044416 then(ko.l0 k 0 I ae ai I (aC++ae) ([]:List (List Int)))else(none))=some (r1,r2,r3):=by first|(rw[br];exact H)|exact H
 have bd:=bm br;clear br;obtain⟨c2,H⟩:=iN H;have b1:=bm c2;clear c2;obtain⟨av,bs⟩:∃y_:List Int,y_=(aC++ae):=⟨_,rfl⟩;rw[←bs]at H
 have bu:=bm bs;clear bs;have H':=bm H;clear H;go_enter Tryz.func45,Tryz.ntmps45;try go_wp2_with (first|(refine rz 1 #[.int .i64 I,.slice aG ae.length aH,.slice aN ai.length aI] 26 ?_;intro al hg w3 ax hb;have o:=bm (ax);have eo:=bG HB hg;replace HB:=bW HB hb;clear hb ax hg)|(refine rz 2 #[.int .i64 0,.slice none 0 0,.slice none 0 0] 26 ?_;intro aD hg w4 ax hb;have aa:=bm (ax);have ep:=bG HB hg;replace HB:=bW HB hb;have aY:=bL o hg;have aZ:=bM o hg;replace o:=bU o hb;clear hb ax hg))
 replace o:=bm (sI o.out);replace aa:=bm (sI aa.out);replace HB:=bm (xO HB.out);refine start_ (n:=9) (S:=fun w'=>w'.cell? ⟨al,0,none⟩=some (.int .i64 I)∧w'.cell? ⟨al,1,none⟩=some (.slice aG ae.length aH)∧w'.cell? ⟨al,2,none⟩=some (.slice aN ai.length aI)) (ds:=[]) #[false,false,false,false,false,false,false,false,false] (by kernel_rfl) rfl rfl ⟨(oB o.out 0).trans rfl,(oB o.out 1).trans rfl,(oB o.out 2).trans rfl⟩ (fun hHeld=>?_);refine with_tabW ko.Dw ko.AM (fun aj bf=>?_);generalize w4.drew=w5 at o aa HB hHeld⊢;refine pA 0 5 aj ?_ ?_ ?_ ?_ (pA 3 8 aj ?_ ?_ ?_ ?_ (tA 1 6 aj bf hHeld ?_ ?_ ?_ ?_ (tA 4 9 aj bf hHeld ?_ ?_ ?_ ?_ ?_)))
 all_goals first|(rintro w' ⟨s0,s1,s2⟩;go_simp;with_reducible rfl)|(intro w';go_simp;with_reducible rfl)|(simp only[Act.put,qA,qB,qC,i64_w,i32_w];rfl)|skip
 refine join_ (σ:=Value×Value×Nat) 1 FO (fun s_=>[(7,s_.1),(10,s_.2.1),(3,.pointer (some ⟨s_.2.2,0,none⟩)),(11,.agg #[.int .i64 I,s_.2.1,.slice none 0 0])]) (fun s_ w'=>(w'.cell? ⟨al,0,none⟩=some (.int .i64 I)∧w'.cell? ⟨al,1,none⟩=some (.slice aG ae.length aH)∧w'.cell? ⟨al,2,none⟩=some (.slice aN ai.length aI))∧(Kd.R (Kd.int .i64) 3 w' w.heap.size (fun _=>True) s_.2.1 av)∧(w'.heap[al]?=some (.cells #[.int .i64 I,.slice aG ae.length aH,.slice aN ai.length aI] 26 (0,0)))∧(w'.heap[aD]?=some (.cells #[.int .i64 0,.slice none 0 0,.slice none 0 0] 26 (0,0)))∧(w'.heap[s_.2.2]?=some (.cells #[.int .i64 0,.slice none 0 0,.slice none 0 0] 26 (0,0)))∧(w.heap.size≤s_.2.2)∧(w.heap.size≤s_.2.2)∧(al≠s_.2.2)∧(s_.2.2≠al)∧(aD≠s_.2.2)∧(s_.2.2≠aD)∧(Below w.heap.size w w')) ?_ ?_;rotate_left
 ·intro wJ;refine two_ (i:=2) (j:=7) (Ni:=some 7) (Nj:=some 3) #[true,true,true,true,true,false,false,false,false] #[true,true,false,true,true,false,false,true,false] rfl rfl rfl rfl (two_of aj.out (by kernel_rfl)) (by decide) (by decide) (fun K hK=>?_) (fun K hK=>?_)
  ·skip;refine Kd.R_lit_step (Kd.int .i64) _ 3 ?hg (N:=7) ?hd (xs:=([]:List Int)) (inner:=[]) (ok:=fun _=>True) (okp:=fun _=>True) ?hr ?hp (fun _ hk=>hk) trivial (Below.refl _ _) (Nat.le_refl _) (by simp) ?_;(case hd=>rfl);(case hg=>rfl);(case hr=>first|(go_simp;done)|(go_simp;rfl));(case hp=>exact(Reps.none _ _));intro aV w6 b4 hb bw aM;clear bw aM;(first|rw[←bd.out]at b4|(simp only[Int.reduceToNat]at b4;rw[←bd.out]at b4));have ar:=vX b4 HB;replace o:=bU o hb;replace aa:=bU aa hb;replace HB:=bW HB hb;clear hb b4;refine hK.out _ _ ⟨(oB o.out 0).trans rfl,(oB o.out 1).trans rfl,(oB o.out 2).trans rfl⟩ (fun hHeld=>?_);clear hK K;refine vL 7 ?_
   refine two_ (i:=5) (j:=7) (Ni:=some 10) (Nj:=some 3) #[true,true,true,true,true,true,false,false,false] FN rfl rfl rfl rfl (two_of aj.out (by kernel_rfl)) (by decide) (by decide) (fun K hK=>?_) (fun K hK=>?_)
   ·skip;refine Kd.R_append_rows_step (Kd.int .i64) (w0:=w) w.heap.size (by rfl) (.tmp 7) (.tmp 9) 23 3 (.int .i64 0) 8 rfl Tryz.underlying23 info3 rfl (by decide) (by omega) aV aC ae _ _ _ (fun _=>True) (fun _=>False) rfl rfl ?aO ?aR (fun _ _ h=>h) (fun _ h=>h.elim) ?aF ?aB ?aS ?aL ?_;(case aR=>repeat(first|exact(Kd.C_below bq.out HB.out)|(with_reducible refine Kd.C_alloc ?_ _)|(with_reducible refine Kd.C_drewN ?_ _)|(with_reducible refine Kd.C_drew ?_)));(case aB=>exact(wZ HB));(case aF=>exact(fun _ _=>trivial));(case aO=>exact(rS ar));(case aS=>exact(below_size (wZ HB)));(case aL=>have:=b1.out;omega);intro bO w8 ho hb hg a6
    rw[←bu.out]at ho;replace o:=bN o hg (Kd.R_ne ar.out o.out (by decide));replace aa:=bN aa hg (Kd.R_ne ar.out aa.out (by decide));replace HB:=bm (hb);have aw:=bm (ho);clear ar ho hb hg a6
    obtain⟨er,et,cI⟩:=Kd.R_slice aw.out;(first|subst cI|(injection cI with we xk wg;have a7:=we.symm;have a8:=wg.symm;clear we xk wg;subst a7;subst a8));refine hK.out _ _ ⟨(oB o.out 0).trans rfl,(oB o.out 1).trans rfl,(oB o.out 2).trans rfl⟩ (fun hHeld=>?_);clear hK K;refine vL 10 ?_
    refine pA 6 11 aj ?_ ?_ ?_ ?_ ?_
    all_goals first|(intro w';go_simp;with_reducible rfl)|(simp only[Act.put,qA,qB,qC,i64_w,i32_w];rfl)|skip
    refine oA 7 (some 3) aj (fun K hK=>?_);refine box_step ?hg (N:=3) ?hd (cs:= #[.int .i64 0,.slice none 0 0,.slice none 0 0]) (t:=26) ?hr ?_;(case hd=>rfl);(case hg=>rfl);(case hr=>first|(go_simp;done)|(go_simp;rfl));intro au hg fb ax hb;replace aw:=bR aw hb;have J:=bm (ax);have aQ:=bG HB hg;have aT:=bG HB hg;replace HB:=bW HB hb;have ab:=bL o hg;have ad:=bM o hg;replace o:=bU o hb;have af:=bL aa hg;have ag:=bM aa hg;replace aa:=bU aa hb;clear hb ax hg;refine hK.out _ _ ⟨(oB o.out 0).trans rfl,(oB o.out 1).trans rfl,(oB o.out 2).trans rfl⟩ (fun hHeld=>?_);clear hK K;refine vL 3 ?_
    exact norm_ (by simp only[putAll,Act.put,qA,qB,qC]) (wJ (aV,.slice er av.length et,au) _ ⟨hHeld,(rS aw),(kS o),(kS aa),(kS J),aQ.out,aT.out,ab.out,ad.out,af.out,ag.out,(wZ HB)⟩)
   ·skip;refine box_step ?hg (N:=3) ?hd (cs:= #[.int .i64 0,.slice none 0 0,.slice none 0 0]) (t:=26) ?hr ?_;(case hd=>rfl);(case hg=>rfl);(case hr=>first|(go_simp;done)|(go_simp;rfl));intro au hg w8 ax hb;replace ar:=bR ar hb;have J:=bm (ax);have aQ:=bG HB hg;have aT:=bG HB hg;replace HB:=bW HB hb;have ab:=bL o hg;have ad:=bM o hg;replace o:=bU o hb;have af:=bL aa hg;have ag:=bM aa hg;replace aa:=bU aa hb;clear hb ax hg;refine hK.out _ _ ⟨(oB o.out 0).trans rfl,(oB o.out 1).trans rfl,(oB o.out 2).trans rfl⟩ (fun hHeld=>?_);clear hK K;refine vL 3 ?_
    refine oA 5 (some 10) aj (fun K hK=>?_);refine Kd.R_append_rows_step (Kd.int .i64) (w0:=w) w.heap.size (by rfl) (.tmp 7) (.tmp 9) 23 3 (.int .i64 0) 8 rfl Tryz.underlying23 info3 rfl (by decide) (by omega) aV aC ae _ _ _ (fun _=>True) (fun _=>False) rfl rfl ?aO ?aR (fun _ _ h=>h) (fun _ h=>h.elim) ?aF ?aB ?aS ?aL ?_;(case aR=>repeat(first|exact(Kd.C_below bq.out HB.out)|(with_reducible refine Kd.C_alloc ?_ _)|(with_reducible refine Kd.C_drewN ?_ _)|(with_reducible refine Kd.C_drew ?_)));(case aB=>exact(wZ HB));(case aF=>exact(fun _ _=>trivial));(case aO=>exact(rS ar));(case aS=>exact(below_size (wZ HB)));(case aL=>have:=b1.out;omega);intro bO w9 ho hb hg a6
    rw[←bu.out]at ho;replace o:=bN o hg (Kd.R_ne ar.out o.out (by decide));replace aa:=bN aa hg (Kd.R_ne ar.out aa.out (by decide));replace J:=bN J hg (Kd.R_ne ar.out J.out (by decide));replace HB:=bm (hb);have aw:=bm (ho);clear ar ho hb hg a6
    obtain⟨b5,b6,bh⟩:=Kd.R_slice aw.out;(first|subst bh|(injection bh with we xk wg;have a7:=we.symm;have a8:=wg.symm;clear we xk wg;subst a7;subst a8));refine hK.out _ _ ⟨(oB o.out 0).trans rfl,(oB o.out 1).trans rfl,(oB o.out 2).trans rfl⟩ (fun hHeld=>?_);clear hK K;refine vL 10 ?_
    refine pA 6 11 aj ?_ ?_ ?_ ?_ ?_
    all_goals first|(intro w';go_simp;with_reducible rfl)|(simp only[Act.put,qA,qB,qC,i64_w,i32_w];rfl)|skip
    exact norm_ (by simp only[putAll,Act.put,qA,qB,qC]) (wJ (aV,.slice b5 av.length b6,au) _ ⟨hHeld,(rS aw),(kS o),(kS aa),(kS J),aQ.out,aT.out,ab.out,ad.out,af.out,ag.out,(wZ HB)⟩)
  ·skip;refine box_step ?hg (N:=3) ?hd (cs:= #[.int .i64 0,.slice none 0 0,.slice none 0 0]) (t:=26) ?hr ?_;(case hd=>rfl);(case hg=>rfl);(case hr=>first|(go_simp;done)|(go_simp;rfl));intro au hg w6 ax hb;have J:=bm (ax);have aQ:=bG HB hg;have aT:=bG HB hg;replace HB:=bW HB hb;have ab:=bL o hg;have ad:=bM o hg;replace o:=bU o hb;have af:=bL aa hg;have ag:=bM aa hg;replace aa:=bU aa hb;clear hb ax hg;refine hK.out _ _ ⟨(oB o.out 0).trans rfl,(oB o.out 1).trans rfl,(oB o.out 2).trans rfl⟩ (fun hHeld=>?_);clear hK K;refine vL 3 ?_
   refine oA 2 (some 7) aj (fun K hK=>?_);refine Kd.R_lit_step (Kd.int .i64) _ 3 ?hg (N:=7) ?hd (xs:=([]:List Int)) (inner:=[]) (ok:=fun _=>True) (okp:=fun _=>True) ?hr ?hp (fun _ hk=>hk) trivial (Below.refl _ _) (Nat.le_refl _) (by simp) ?_;(case hd=>rfl);(case hg=>rfl);(case hr=>first|(go_simp;done)|(go_simp;rfl));(case hp=>exact(Reps.none _ _));intro aV w7 b7 hb bw aM;clear bw aM;(first|rw[←bd.out]at b7|(simp only[Int.reduceToNat]at b7;rw[←bd.out]at b7));have ar:=vX b7 HB;replace o:=bU o hb;replace aa:=bU aa hb;replace J:=bU J hb;replace HB:=bW HB hb;clear hb b7;refine hK.out _ _ ⟨(oB o.out 0).trans rfl,(oB o.out 1).trans rfl,(oB o.out 2).trans rfl⟩ (fun hHeld=>?_);clear hK K;refine vL 7 ?_
   refine oA 5 (some 10) aj (fun K hK=>?_);refine Kd.R_append_rows_step (Kd.int .i64) (w0:=w) w.heap.size (by rfl) (.tmp 7) (.tmp 9) 23 3 (.int .i64 0) 8 rfl Tryz.underlying23 info3 rfl (by decide) (by omega) aV aC ae _ _ _ (fun _=>True) (fun _=>False) rfl rfl ?aO ?aR (fun _ _ h=>h) (fun _ h=>h.elim) ?aF ?aB ?aS ?aL ?_;(case aR=>repeat(first|exact(Kd.C_below bq.out HB.out)|(with_reducible refine Kd.C_alloc ?_ _)|(with_reducible refine Kd.C_drewN ?_ _)|(with_reducible refine Kd.C_drew ?_)));(case aB=>exact(wZ HB));(case aF=>exact(fun _ _=>trivial));(case aO=>exact(rS ar));(case aS=>exact(below_size (wZ HB)));(case aL=>have:=b1.out;omega);intro bO w9 ho hb hg a6
   rw[←bu.out]at ho;replace o:=bN o hg (Kd.R_ne ar.out o.out (by decide));replace aa:=bN aa hg (Kd.R_ne ar.out aa.out (by decide));replace J:=bN J hg (Kd.R_ne ar.out J.out (by decide));replace HB:=bm (hb);have aw:=bm (ho);clear ar ho hb hg a6
   obtain⟨b5,b6,bh⟩:=Kd.R_slice aw.out;(first|subst bh|(injection bh with we xk wg;have a7:=we.symm;have a8:=wg.symm;clear we xk wg;subst a7;subst a8));refine hK.out _ _ ⟨(oB o.out 0).trans rfl,(oB o.out 1).trans rfl,(oB o.out 2).trans rfl⟩ (fun hHeld=>?_);clear hK K;refine vL 10 ?_
   refine pA 6 11 aj ?_ ?_ ?_ ?_ ?_
   all_goals first|(intro w';go_simp;with_reducible rfl)|(simp only[Act.put,qA,qB,qC,i64_w,i32_w];rfl)|skip
   exact norm_ (by simp only[putAll,Act.put,qA,qB,qC]) (wJ (aV,.slice b5 av.length b6,au) _ ⟨hHeld,(rS aw),(kS o),(kS aa),(kS J),aQ.out,aT.out,ab.out,ad.out,af.out,ag.out,(wZ HB)⟩)
 rintro⟨aV,bO,au⟩ AP ⟨FM,Fl,Fm,Fo,Fp,Fq,Fs,Ft,Fu,Fv,Fw,AQ⟩;have aw:jX (Kd.R (Kd.int .i64) 3 AP w.heap.size (fun _=>True) bO av):=⟨Fl⟩;replace o:rG AP al #[.int .i64 I,.slice aG ae.length aH,.slice aN ai.length aI] 26:=⟨Fm⟩;replace aa:rG AP aD #[.int .i64 0,.slice none 0 0,.slice none 0 0] 26:=⟨Fo⟩;have J:rG AP au #[.int .i64 0,.slice none 0 0,.slice none 0 0] 26:=⟨Fp⟩;have aQ:jX (w.heap.size≤au):=⟨Fq⟩;have aT:jX (w.heap.size≤au):=⟨Fs⟩;have ab:jX (al≠au):=⟨Ft⟩;have ad:jX (au≠al):=⟨Fu⟩;have af:jX (aD≠au):=⟨Fv⟩;have ag:jX (au≠aD):=⟨Fw⟩;replace HB:jX (Below w.heap.size w AP):=⟨AQ⟩;clear Fl Fm Fo Fp Fq Fs Ft Fu Fv Fw AQ;have hHeld:AP.cell? ⟨al,0,none⟩=some (.int .i64 I)∧AP.cell? ⟨al,1,none⟩=some (.slice aG ae.length aH)∧AP.cell? ⟨al,2,none⟩=some (.slice aN ai.length aI):=FM;obtain⟨aJ,aK,cm⟩:=Kd.R_slice aw.out;(first|subst cm|(injection cm with we xk wg;have a7:=we.symm;have a8:=wg.symm;clear we xk wg;subst a7;subst a8));refine norm_ (a':=?_) ?_ ?_;rotate_left
 ·simp only[putAll,Act.put,qA,qB,qC];rfl
 refine oA 8 (none) aj (fun K hK=>?_);have e0:=bC J 0;have eu:=wv J.out 0;obtain⟨_,_,_,_⟩:=vP ab af ad ag;have e1:=bC J 1;have ev:=wv J.out 1;obtain⟨_,_,_,_⟩:=vP ab af ad ag;have e2:=bC J 2;have ew:=wv J.out 2;obtain⟨_,_,_,_⟩:=vP ab af ad ag;refine skip_ (w1:=?_) (by rfl) rfl ?_ ?_;rotate_left
 ·go_simp;rfl
 refine hK.out _ _ ⟨((qu ab).trans (((qu ab).trans (((qu ab).trans (hHeld.1)))))),((qu ab).trans (((qu ab).trans (((qu ab).trans (hHeld.2.1)))))),((qu ab).trans (((qu ab).trans (((qu ab).trans (hHeld.2.2))))))⟩ (fun hHeld=>?_);clear hK K;refine done_ (done_of aj.out (by kernel_rfl)) ?_;try go_wp2
 go_loopg [4] k (fun kq v4 w'=>∃(ay:Int) (ah:List (List Int)) (az:Value),v4= .int .i64 ay∧jX (ko.l0 kq ay I ae ai I av ah=some (r1,r2,r3))∧jX (kq≤k)∧jX (Kd.R (Kd.int .i64) 3 w' w.heap.size (fun _=>True) (.slice aJ av.length aK) av)∧jX (Kd.S (Kd.slice 3 (Kd.int .i64)) 23 w' w.heap.size (fun k_=>some k_≠((.slice aJ av.length aK):Value).ownBlock) az ah)∧jX (w'.heap[al]?=some (.cells #[.int .i64 I,(.slice aG ae.length aH),(.slice aN ai.length aI)] 26 (0,0)))∧jX (w'.heap[aD]?=some (.cells #[.int .i64 0,(.slice none 0 0),(.slice none 0 0)] 26 (0,0)))∧jX (w'.heap[au]?=some (.cells #[.int .i64 I,(.slice aJ av.length aK),az] 26 (0,0)))∧jX (Below w.heap.size w w'))
 case atStart=>exact⟨(0),(([]:List (List Int))),(.slice none 0 0),(by first|rfl|(simp;done)|(simp[*];done)),H',⟨Nat.le_refl _⟩,⟨rT aw⟩,⟨by first|exact Kd.S_nil _ _ _ _ _|exact Kd.N_nil _ _ _ _ _|exact Kd.V_nil _ _ _ _ _|exact Kd.Q_nil _ _ _ _ _|exact Kd.R_nil _ _ _ _ _⟩,⟨kS o⟩,⟨kS aa⟩,⟨kP J⟩,⟨wZ HB⟩⟩
 case round=>
  clear H';obtain⟨ay,ah,az,rfl,HA,b8,sf,rK,o,aa,J,HB⟩:=hrel;cases gk with
  |zero=>exact absurd HA.out (by simp[ko.l0])
  |succ k1=>
   have H:=HA.out;clear HA;simp only[ko.l0]at H;rcases vG H with⟨cv,H⟩|⟨cv,H⟩
   ·obtain⟨aW,bx⟩:∃y_:List Int,y_=(([]:List Int)):=⟨_,rfl⟩;replace H:(if 0≤ay then(if aW.length+(qi ai ay).length<17592186044416 then(if ah.length<5864062014805 then(ko.l0 k1 (wrap64 (ay+1)) I ae ai I av (ah++ [(aW++(qi ai ay))]))else(none))else(none))else(none))=some (r1,r2,r3):=by first|(rw[bx];exact H)|exact H
    have ca:=bm bx;clear bx;obtain⟨ey,H⟩:=vE H;obtain⟨aU,H⟩:=iN H;have cw:=bm aU;clear aU;obtain⟨bj,bz⟩:∃y_:List Int,y_=(aW++(qi ai ay)):=⟨_,rfl⟩;rw[←bz]at H
    have cx:=bm bz;clear bz;obtain⟨cW,H⟩:=iN H;have cy:=bm cW;clear cW;obtain⟨cb,bA⟩:∃y_:List (List Int),y_=(ah++ [bj]):=⟨_,rfl⟩;rw[←bA]at H
    have cz:=bm bA;clear bA;have H':=bm H;clear H;obtain⟨_,_,_,_⟩:=vP aY aZ ab ad;obtain⟨cX,c0,c1,da,db,dc⟩:=b3 o;try go_wp2
    replace sf:=bm (Kd.R_drew sf.out);replace rK:=bm (Kd.S_drew rK.out);replace o:=bm (sI o.out);replace aa:=bm (sI aa.out);replace J:=bm (sI J.out);replace HB:=bm (xO HB.out);have cc:0≤(ay:Int):=pG;have cd:ay<(ai.length:Int):=pG;obtain⟨cf,cj,ck,dd,aE,bk,bl⟩:=xa cu.out ay cc cd;have an:=aE;cases dd;replace aE:=vA HB aE;have bn:=bm bl;have de:=bm bk;clear bl bk;replace cc:=vD cc;replace cd:=vD cd;refine start_ (n:=13) (S:=fun w'=>w'.cell? ⟨au,0,none⟩=some (.int .i64 I)∧w'.cell? ⟨au,1,none⟩=some (.slice aJ av.length aK)∧w'.cell? ⟨au,2,none⟩=some (az)∧w'.cell? ⟨al,0,none⟩=some (.int .i64 I)∧w'.cell? ⟨al,1,none⟩=some (.slice aG ae.length aH)∧w'.cell? ⟨al,2,none⟩=some (.slice (some cf) ai.length aI)∧w'.cell? (cf.add (ay).toNat)=some (.slice cj (qi ai ay).length ck)) (ds:=[12]) #[false,false,false,false,false,false,false,false,false,false,false,false,false] (by kernel_rfl) rfl rfl ⟨(oB J.out 0).trans rfl,(oB J.out 1).trans rfl,(oB J.out 2).trans rfl,(oB o.out 0).trans rfl,(oB o.out 1).trans rfl,(oB o.out 2).trans rfl,((HB.out.cell (World.block_lt_of_cell? w _ an)).trans an)⟩ (fun hHeld=>?_);refine with_tabW ko.AO ko.yz (fun aj bf=>?_);generalize wr.drew=fc at sf rK o aa J HB bn aE hHeld⊢;refine pA 0 19 aj ?_ ?_ ?_ ?_ (pA 3 22 aj ?_ ?_ ?_ ?_ (pA 5 24 aj ?_ ?_ ?_ ?_ (tA 1 20 aj bf hHeld ?_ ?_ ?_ ?_ (tA 4 23 aj bf hHeld ?_ ?_ ?_ ?_ (pA 6 25 aj ?_ ?_ ?_ ?_ (tA 7 26 aj bf hHeld ?_ ?_ ?_ ?_ ?_))))))
    all_goals first|(rintro w' ⟨s0,s1,s2,s3,s4,s5,s6⟩;go_simp;with_reducible rfl)|(intro w';go_simp;with_reducible rfl)|(simp only[Act.put,qA,qB,qC,i64_w,i32_w];rfl)|skip
    refine oA 2 (some 21) aj (fun K hK=>?_);refine Kd.R_lit_step (Kd.int .i64) _ 3 ?hg (N:=21) ?hd (xs:=([]:List Int)) (inner:=[]) (ok:=fun _=>True) (okp:=fun _=>True) ?hr ?hp (fun _ hk=>hk) trivial (Below.refl _ _) (Nat.le_refl _) (by simp) ?_;(case hd=>rfl);(case hg=>rfl);(case hr=>first|(go_simp;done)|(go_simp;rfl));(case hp=>exact(Reps.none _ _));intro df fe ba hb bw aM;clear bw aM;(first|rw[←ca.out]at ba|(simp only[Int.reduceToNat]at ba;rw[←ca.out]at ba));replace rK:=bm (Kd.S_elder' (sS rK) (Kd.R_base ba) hb);have bb:=bm (Kd.R_lower (Kd.R_new' ba (Kd.R_lt (rS sf))) (below_size (wZ HB)));replace sf:=bm (Kd.R_elder' (rS sf) (Kd.R_base ba) hb);replace o:=bU o hb;replace aa:=bU aa hb;replace J:=bU J hb;replace HB:=bW HB hb;clear hb ba;refine hK.out _ _ ⟨(oB J.out 0).trans rfl,(oB J.out 1).trans rfl,(oB J.out 2).trans rfl,(oB o.out 0).trans rfl,(oB o.out 1).trans rfl,(oB o.out 2).trans rfl,((HB.out.cell (World.block_lt_of_cell? w _ an)).trans an)⟩ (fun hHeld=>?_);clear hK K;refine vL 21 ?_
    refine oA 8 (some 27) aj (fun K hK=>?_);refine Kd.R_append_rows_step (Kd.int .i64) (w0:=w) w.heap.size (by rfl) (.tmp 21) (.tmp 26) 23 3 (.int .i64 0) 8 rfl Tryz.underlying23 info3 rfl (by decide) (by omega) df aW (qi ai ay) _ _ _ (fun k_=>some k_≠(.slice aJ av.length aK:Value).ownBlock) (fun _=>False) rfl rfl ?aO ?aR (fun _ _ h=>h) (fun _ h=>h.elim) ?aF ?aB ?aS ?aL ?_;(case aR=>repeat(first|exact(Kd.C_below bn.out HB.out)|(with_reducible refine Kd.C_alloc ?_ _)|(with_reducible refine Kd.C_drewN ?_ _)|(with_reducible refine Kd.C_drew ?_)));(case aB=>exact(wZ HB));(case aF=>exact(fun k_ hk=>Kd.fresh' (Kd.R_lt (rS sf)) k_ hk));(case aO=>exact(by(repeat apply Kd.RS);exact Kd.R_mono bb.out (fun _ hk=>hk.2)));(case aS=>exact(below_size (wZ HB)));(case aL=>have:=cw.out;omega);intro e3 ff ho hb hg a6
    rw[←cx.out]at ho;replace sf:=bm (Kd.R_after (ok:=(fun _=>True)) (rS sf) hg a6);replace rK:=bm (Kd.S_after (ok:=(fun k_=>some k_≠(.slice aJ av.length aK:Value).ownBlock)) (sS rK) hg a6);replace o:=bN o hg (Kd.R_ne bb.out o.out (by decide));replace aa:=bN aa hg (Kd.R_ne bb.out aa.out (by decide));replace J:=bN J hg (Kd.R_ne bb.out J.out (by decide));replace HB:=bm (hb);have bg:=bm (ho);clear bb ho hb hg a6
    obtain⟨cn,cp,cq⟩:=Kd.R_slice bg.out;(first|subst cq|(injection cq with we xk wg;have a7:=we.symm;have a8:=wg.symm;clear we xk wg;subst a7;subst a8));refine hK.out _ _ ⟨(oB J.out 0).trans rfl,(oB J.out 1).trans rfl,(oB J.out 2).trans rfl,(oB o.out 0).trans rfl,(oB o.out 1).trans rfl,(oB o.out 2).trans rfl,((HB.out.cell (World.block_lt_of_cell? w _ an)).trans an)⟩ (fun hHeld=>?_);clear hK K;refine vL 27 ?_
    refine oA 9 (some 28) aj (fun K hK=>?_);refine value_ (w1:=?_) (v:=?_) (by rfl) rfl ?_ ?_;rotate_left 2
    ·go_simp;constructor
     ·rfl
     ·rfl
    refine hK.out _ _ ⟨(oB (Ez J.out _) 0).trans rfl,(oB (Ez J.out _) 1).trans rfl,(oB (Ez J.out _) 2).trans rfl,(oB (Ez o.out _) 0).trans rfl,(oB (Ez o.out _) 1).trans rfl,(oB (Ez o.out _) 2).trans rfl,(World.cell?_alloc_lt _ _ _ (World.block_lt_of_cell? _ _ (((HB.out.cell (World.block_lt_of_cell? w _ an)).trans an)))).trans (((HB.out.cell (World.block_lt_of_cell? w _ an)).trans an))⟩ (fun hHeld=>?_);clear hK K;refine vL 28 ?_
    refine oA 10 (some 29) aj (fun K hK=>?_);refine Kd.S_append_step (Kd.slice 3 (Kd.int .i64)) (w0:=w) w.heap.size (by rfl) (.tmp 20) (.tmp 28) 24 23 (.slice none 0 0) 24 rfl Tryz.underlying24 info23 rfl (by decide) (by omega) az ah bj [.slice cn bj.length cp] (fun k_=>some k_≠(.slice aJ av.length aK:Value).ownBlock) (fun k_=>some k_=(.slice cn bj.length cp:Value).ownBlock) rfl rfl ?aP (fun k_ eD=>((Kd.R_mono (ok':=fun k_=>((fun k_=>some k_≠(.slice aJ av.length aK:Value).ownBlock)) k_∧some k_≠(az:Value).ownBlock) (Kd.R_apart' (bg.out) (Kd.S_typed rK.out) (by decide)) (fun k_ hk=>⟨hk.1,hk.2⟩))).1 k_ eD.symm) ?aF ?aO ?aB ?aS ?aL ?_;(case aP=>exact Kd.M_row (Kd.R_mono (Kd.R_tight rfl (Kd.R_mono (ok':=fun k_=>((fun k_=>some k_≠(.slice aJ av.length aK:Value).ownBlock)) k_∧some k_≠(az:Value).ownBlock) (Kd.R_apart' (bg.out) (Kd.S_typed rK.out) (by decide)) (fun k_ hk=>⟨hk.1,hk.2⟩))) (fun _ h_=>h_)));(case aB=>exact(wZ HB));(case aF=>exact(fun k_ hk=>Kd.fresh' (Kd.R_lt (rS sf)) k_ hk));(case aO=>exact(by(repeat apply Kd.SS);exact Kd.S_mono rK.out (fun k_ hk=>⟨hk.1,fun e_=>hk.2 e_⟩)));(case aS=>exact(below_size (wZ HB)));(case aL=>have:=cy.out;omega);intro e4 fg ho hb hg a6
    rw[←cz.out]at ho;replace sf:=bm (Kd.R_over' (rS sf) (Kd.S_typed (sS rK)) (by decide) hg);replace o:=bN o hg (Kd.S_ne rK.out o.out (by decide));replace aa:=bN aa hg (Kd.S_ne rK.out aa.out (by decide));replace J:=bN J hg (Kd.S_ne rK.out J.out (by decide));replace HB:=bm (hb);have cg:=bm (ho);clear rK bg ho hb hg a6
    obtain⟨dh,di,cr⟩:=Kd.S_slice cg.out;(first|subst cr|(injection cr with we xk wg;have a7:=we.symm;have a8:=wg.symm;clear we xk wg;subst a7;subst a8));refine hK.out _ _ ⟨(oB J.out 0).trans rfl,(oB J.out 1).trans rfl,(oB J.out 2).trans rfl,(oB o.out 0).trans rfl,(oB o.out 1).trans rfl,(oB o.out 2).trans rfl,((HB.out.cell (World.block_lt_of_cell? w _ an)).trans an)⟩ (fun hHeld=>?_);clear hK K;refine vL 29 ?_
    refine pA 11 30 aj ?_ ?_ ?_ ?_ ?_
    all_goals first|(intro w';go_simp;with_reducible rfl)|(simp only[Act.put,qA,qB,qC,i64_w,i32_w];rfl)|skip
    refine last_ (i:=12) (N:=none) #[true,true,true,true,true,true,true,true,true,true,true,true,true] rfl rfl (one_of aj.out (by kernel_rfl)) (by decide) (fun K hK=>?_);have e5:=bC J 2;have eE:=wv J.out 2;obtain⟨_,_,_,_⟩:=vP ab af ad ag;refine skip_ (w1:=?_) (by rfl) rfl ?_ ?_;rotate_left
    ·go_simp;rfl
    refine hK.out _ _ ?_;clear hK K;refine done_ (done_of aj.out (by kernel_rfl)) ?_;try go_wp2
    go_roundg k1
    case measure=>have:=b8.out;omega
    case rel=>exact⟨(wrap64 (ay+1)),(cb),(.slice dh cb.length di),(by first|rfl|(simp;done)|(simp[*];done)),H',⟨by have:=b8.out;omega⟩,⟨rT sf⟩,⟨sT cg⟩,⟨kS o⟩,⟨kS aa⟩,⟨kP J⟩,⟨wZ HB⟩⟩
   ·obtain⟨rfl,rfl,rfl⟩:=s3 H;obtain⟨_,_,_,_⟩:=vP aY aZ ab ad;obtain⟨dp,dq,dr,dt,du,dv⟩:=b3 o;obtain⟨_,_⟩:=vN ag af;obtain⟨dw,dx,dy,dz,dA,dB⟩:=b3 J;obtain⟨dC,dD,dE,dF,dG,dH⟩:=b3 aa;obtain⟨dI,dJ,dK⟩:=Kd.S_slice rK.out;subst dK;go_wp2;refine bodyPost_ret (results_cell_row rfl _ _ aD 26 #[.int .i64 I,.slice aJ av.length aK,.slice dI ah.length dJ] (0,0) _ rfl (kP aa) Tryz.underlying26 rfl (by kernel_rfl)) rfl ?_;exact⟨_,_,by first|rfl|(simp[*,jS,jT]<;>rfl),rT sf,sT rK,wZ HB⟩
def pF.l0:Nat→ByteArray→Int→Option (Bool)
 |0,_,_=>none
 |k+1,x0,x3=>if x3<(x0.size:Int)then(if 0≤x3 then(if(bt x0 x3)<32 then(some false)else(if(bt x0 x3)>126 then(some false)else(pF.l0 k x0 (wrap64 (x3+1)))))else(none))else(some (decide ((x0.size:Int)>0)))
def pF.f (k:Nat) (a0:ByteArray):Option (Bool):=pF.l0 k a0 0
theorem pF.jQ:∀k,(∀y0 y1,qg (pF.l0 k y0 y1) (pF.l0 (k+1) y0 y1))
 |0=>fun _ _=> .z (by simp only[pF.l0])
 |k+1=>by
  have i0:=pF.jQ k;exact fun _ _=>by unfold pF.l0;infer_instance
instance pF.mo {k a0}:qg (pF.f k a0) (pF.f (k+1) a0):=by have i0:=pF.jQ k;unfold pF.f;infer_instance
theorem pF.calls (k:Nat) (a0:ByteArray) (r:Bool) (w:World) (h:pF.f k a0=some r):
  Calls Tryz.prog 125 #[.string a0] w fun e w'=>e= .returned (.bool r)∧Drawn0 w w':=by
 have H:=h;clear h;unfold pF.f at H;have H':=bm H;clear H;go_enter Tryz.func125,Tryz.ntmps125;go_wp2;go_loopg [3] k (fun kq v3 w'=>∃(aq:Int),v3= .int .i64 aq∧jX (pF.l0 kq a0 aq=some r)∧jX (kq≤k)∧Drawn0 w w')
 case atStart=>exact⟨(0),(by first|rfl|(simp;done)|(simp[*];done)),H',⟨Nat.le_refl _⟩,by repeat(first|exact Drawn0.refl _|apply Drawn0.step)⟩
 case round=>
  clear H';obtain⟨aq,rfl,HA,b8,⟨m1,rfl⟩⟩:=hrel;cases gk with
  |zero=>exact absurd HA.out (by simp[pF.l0])
  |succ k1=>
   have H:=HA.out;clear HA;simp only[pF.l0]at H;rcases vG H with⟨dL,H⟩|⟨dL,H⟩
   ·obtain⟨e6,H⟩:=vE H;rcases vG H with⟨dM,H⟩|⟨dM,H⟩
    ·obtain rfl:=vU H;have p4:0≤(aq:Int):=pG;have q4:aq<(a0.size:Int):=pG;have dN:=bt_at a0 aq;replace p4:=vD p4;replace q4:=vD q4;go_wp2;go_ret;exact vY
    ·rcases vG H with⟨dO,H⟩|⟨dO,H⟩
     ·obtain rfl:=vU H;have p4:0≤(aq:Int):=pG;have q4:aq<(a0.size:Int):=pG;have dN:=bt_at a0 aq;replace p4:=vD p4;replace q4:=vD q4;have p6:0≤(aq:Int):=pG;have q6:aq<(a0.size:Int):=pG;have eL:=bt_at a0 aq;replace p6:=vD p6;replace q6:=vD q6;go_wp2;go_ret;exact vY
     ·have H':=bm H;clear H;have p4:0≤(aq:Int):=pG;have q4:aq<(a0.size:Int):=pG;have dN:=bt_at a0 aq;replace p4:=vD p4;replace q4:=vD q4;have p6:0≤(aq:Int):=pG;have q6:aq<(a0.size:Int):=pG;have eL:=bt_at a0 aq;replace p6:=vD p6;replace q6:=vD q6;go_wp2;go_roundg k1
      case measure=>have:=b8.out;omega
      case rel=>exact⟨(wrap64 (aq+1)),(by first|rfl|(simp;done)|(simp[*];done)),H',⟨by have:=b8.out;omega⟩,by repeat(first|exact Drawn0.refl _|apply Drawn0.step)⟩
   ·obtain rfl:=vU H;go_wp2;go_ret;exact vY
def kT.j0:Nat→Bool→Int→ByteArray→Option (ByteArray)
 |0,_,_,_=>none
 |k+1,x3,xC,Ac=>if x3=true then((some (([(⟨#[102,105,114,115,116]⟩:ByteArray),(⟨#[97,108,108]⟩:ByteArray)]:List ByteArray):List ByteArray)).bind fun aA=>(if 0≤xC then(if xC<(aA.length:Int)then(if(rdOf ByteArray.empty aA xC).size+1≤9223372036854775807 then(if((rdOf ByteArray.empty aA xC)++(⟨#[32]⟩:ByteArray)).size+Ac.size≤9223372036854775807 then(some (((rdOf ByteArray.empty aA xC)++(⟨#[32]⟩:ByteArray))++Ac))else(none))else(none))else(none))else(none)))else(if(xC==2&&(Ac.toList==([]:List UInt8)))=true then(some (⟨#[98,97,99,107]⟩:ByteArray))else(some (⟨#[]⟩:ByteArray)))
def kT.f (k:Nat) (I:Int) (ak:ByteArray):Option (ByteArray):=(qt.f I 0 1).bind fun bo=>(if bo=true then((pF.f k ak).bind fun bc=>(kT.j0 k bc I ak))else(kT.j0 k false I ak))
theorem kT.jQ:∀k,(∀y0 y1 y2,qg (kT.j0 k y0 y1 y2) (kT.j0 (k+1) y0 y1 y2))
 |0=>fun _ _ _=> .z (by simp only[kT.j0])
 |k+1=>by
  have i0:=kT.jQ k;exact fun _ _ _=>by unfold kT.j0;infer_instance
instance kT.mo {k a0 a1}:qg (kT.f k a0 a1) (kT.f (k+1) a0 a1):=by have i0:=kT.jQ k;unfold kT.f;infer_instance
def kT.T2:Bool×List (List Nat×List Nat):=(true,[([],[]),([],[]),([1],[1]),([0,2],[0,2]),([3],[3]),([4],[4]),([],[]),([6],[6]),([5,7],[5,7]),([8,0,1,2,3,4,5,6,7,8],[8])])
def kT.B2:List Nat:=[0,0,2,7,15,31,0,64,255,511]
theorem kT.Jn:rtab .any (opsOf Tryz.f95 2)=kT.T2:=by kernel_rfl
theorem kT.Hr:waitsOk kT.T2.2 kT.B2=true:=by kernel_rfl
theorem kT.calls (k:Nat) (I:Int) (ak:ByteArray) (r:ByteArray) (w:World) (h:kT.f k I ak=some r):
  Calls Tryz.prog 95 #[.agg #[.int .i64 I,.string ak]] w fun e w'=>e= .returned (.string r)∧Below w.heap.size w w':=by
 have e7:=Tryz.underlying58;have HB:=bm (Below.refl w.heap.size w);have H:=h;clear h;unfold kT.f at H;have cA:=bm H;clear H;go_enter Tryz.func95,Tryz.ntmps95;go_upto_region 1 with(first|(refine rz 1 #[.int .i64 I,.string ak] 58 ?_;intro bB hg w3 ax hb;have ao:=bm (ax);have eM:=bG HB hg;replace HB:=bW HB hb;clear hb ax hg))
 (try simp only[Act.put,qA,qB,qC]);go_cut [3] (fun v3 wc=>∃(kq:Nat) (aq:Bool),v3= .bool aq∧jX (kT.j0 kq aq I ak=some r)∧jX (kq≤k)∧rG wc bB #[.int .i64 I,.string ak] 58∧jX (Below w.heap.size w wc))
 case first=>
  have H:=cA.out;clear cA;obtain⟨bo,A4,H⟩:=bE H;try dsimp only at H
  by_cases c5:bo=true
  ·subst c5;rw[if_pos rfl]at H;obtain⟨bc,A6,H⟩:=bE H;try dsimp only at H
   have H':=bm H;clear H;obtain⟨ed,ee,ef,eg⟩:=b2 ao;go_wp2_with (first|(refine gB (some 6) Tryz.func100 #[.int .i64 I,.int .i64 0,.int .i64 1] rfl ?_;(with_reducible refine(qt.calls I 0 1 true _ A4.out).mono ?_);rintro e w' ⟨rfl,⟨nd,rfl⟩⟩;refine⟨_,rfl,?_⟩)|(go_at_call 125;(with_reducible refine(pF.calls k ak bc _ A6.out).mono ?_);rintro e w' ⟨rfl,⟨nd,rfl⟩⟩));go_meet
   case rel=>exact⟨_,(bc),(by first|rfl|(simp;done)|(simp[*];done)),H',⟨by first|omega|exact Nat.le_refl _⟩,⟨kS ao⟩,⟨wZ HB⟩⟩
  ·replace c5:=uZ c5;subst c5;rw[if_neg vM]at H;have H':=bm H;clear H;obtain⟨eh,ei,ej,ek⟩:=b2 ao;go_wp2_with (first|(refine gB (some 6) Tryz.func100 #[.int .i64 I,.int .i64 0,.int .i64 1] rfl ?_;(with_reducible refine(qt.calls I 0 1 false _ A4.out).mono ?_);rintro e w' ⟨rfl,⟨nd,rfl⟩⟩;refine⟨_,rfl,?_⟩));go_meet
   case rel=>exact⟨_,(false),(by first|rfl|(simp;done)|(simp[*];done)),H',⟨by first|omega|exact Nat.le_refl _⟩,⟨kS ao⟩,⟨wZ HB⟩⟩
 case rest=>
  clear cA;obtain⟨kq,aq,rfl,HA,fh,ao,HB⟩:=hcut;cases kq with
  |zero=>exact absurd HA.out (by simp[kT.j0])
  |succ JY=>
   have H:=HA.out;clear HA;simp only[kT.j0]at H;by_cases c9:aq=true
   ·subst c9;rw[if_pos rfl]at H;obtain⟨aA,bD⟩:∃y_:List ByteArray,y_=(([(⟨#[102,105,114,115,116]⟩:ByteArray),(⟨#[97,108,108]⟩:ByteArray)]:List ByteArray)):=⟨_,rfl⟩;rw[←bD]at H
    have bF:=bm bD;clear bD;obtain⟨eN,H⟩:=vE H;obtain⟨eO,H⟩:=vE H;obtain⟨cB,H⟩:=iN H;have eP:=vD cB;have eQ:=vC cB;try have eR:(9223372036854775807<(rdOf ByteArray.empty aA I).size+1)=False:=eq_false (Nat.not_lt.2 cB)
    obtain⟨cl,H⟩:=iN H;have eS:=vD cl;have eT:=vC cl;try have eU:(9223372036854775807<((rdOf ByteArray.empty aA I)++(⟨#[32]⟩:ByteArray)).size+ak.size)=False:=eq_false (Nat.not_lt.2 cl)
    (try have eV:(9223372036854775807<(rdOf ByteArray.empty aA I).size+1+ak.size)=False:=eq_false (by have h_:=cl;(repeat rw[ByteArray.size_append]at h_);exact Nat.not_lt.2 h_));obtain rfl:=vU H;try go_wp2
    have eW:(0≤(I:Int))=True:=vD (pG);have eX:(I<(aA.length:Int))=True:=vD (pG);replace ao:=bm (sI ao.out);replace HB:=bm (xO HB.out);refine start_ (n:=10) (S:=fun w'=>w'.cell? ⟨bB,0,none⟩=some (.int .i64 I)∧w'.cell? ⟨bB,1,none⟩=some (.string ak)) (ds:=[]) #[false,false,false,false,false,false,false,false,false,false] (by kernel_rfl) rfl rfl ⟨(oB ao.out 0).trans rfl,(oB ao.out 1).trans rfl⟩ (fun hHeld=>?_);refine with_tabW kT.Jn kT.Hr (fun aj bf=>?_);generalize wc.drew=fi at ao HB hHeld⊢;refine pA 1 13 aj ?_ ?_ ?_ ?_ (pA 6 18 aj ?_ ?_ ?_ ?_ (tA 2 14 aj bf hHeld ?_ ?_ ?_ ?_ (tA 7 19 aj bf hHeld ?_ ?_ ?_ ?_ ?_)))
    all_goals first|(rintro w' ⟨s0,s1⟩;go_simp;with_reducible rfl)|(intro w';go_simp;with_reducible rfl)|(simp only[Act.put,qA,qB,qC,i64_w,i32_w];rfl)|skip
    refine oA 0 (some 12) aj (fun K hK=>?_);refine Kd.R_lit_step Kd.string _ 9 ?hg (N:=12) ?hd (xs:=([(⟨#[102,105,114,115,116]⟩:ByteArray),(⟨#[97,108,108]⟩:ByteArray)]:List ByteArray)) (inner:=[.string (⟨#[102,105,114,115,116]⟩:ByteArray),.string (⟨#[97,108,108]⟩:ByteArray)]) (ok:=fun _=>True) (okp:=fun _=>True) ?hr ?hp (fun _ hk=>hk) trivial (Below.refl _ _) (Nat.le_refl _) (by simp) ?_;(case hd=>rfl);(case hg=>rfl);(case hr=>first|(go_simp;done)|(go_simp;rfl));(case hp=>exact(Reps.one (show Kd.M Kd.string _ _ _ (⟨#[102,105,114,115,116]⟩:ByteArray) [.string (⟨#[102,105,114,115,116]⟩:ByteArray)] from rfl) (Reps.one (show Kd.M Kd.string _ _ _ (⟨#[97,108,108]⟩:ByteArray) [.string (⟨#[97,108,108]⟩:ByteArray)] from rfl) (Reps.none _ _))));intro e8 fj bp hb bw aM;clear bw aM;(first|rw[←bF.out]at bp|(simp only[Int.reduceToNat]at bp;rw[←bF.out]at bp));have bH:=vX bp HB;replace ao:=bU ao hb;replace HB:=bW HB hb;clear hb bp;obtain⟨e9,fa,dQ⟩:=Kd.R_slice bH.out;subst dQ;obtain⟨cC,dR,_⟩:=Kd.at_string (Kd.R_reads' bH.out).2.2 0 (by decide) (by rw[bF.out];simp);cases dR;refine hK.out _ _ ⟨(oB ao.out 0).trans rfl,(oB ao.out 1).trans rfl⟩ (fun hHeld=>?_);clear hK K;refine vL 12 ?_
    refine pA 3 15 aj ?_ ?_ ?_ ?_ ?_
    all_goals first|(intro w';go_simp;with_reducible rfl)|(simp only[Act.put,qA,qB,qC,i64_w,i32_w];rfl)|skip
    refine oA 4 (some 16) aj (fun K hK=>?_);(have dS:0≤(I:Int):=pG;have dT:I<(aA.length:Int):=pG;obtain⟨cD,dU,ch⟩:=Kd.at_string (Kd.R_reads' bH.out).2.2 I dS dT;obtain rfl:cC=cD:=(by injection dU));refine value_ (w1:=?_) (v:=?_) (by rfl) rfl ?_ ?_;rotate_left 2
    ·go_simp;constructor
     ·rfl
     ·rfl
    clear ch;refine hK.out _ _ ⟨(oB ao.out 0).trans rfl,(oB ao.out 1).trans rfl⟩ (fun hHeld=>?_);clear hK K;refine vL 16 ?_
    refine pA 5 17 aj ?_ ?_ ?_ ?_ (pA 8 20 aj ?_ ?_ ?_ ?_ (pA 9 2 aj ?_ ?_ ?_ ?_ ?_))
    all_goals first|(intro w';go_simp;with_reducible rfl)|(simp only[Act.put,qA,qB,qC,i64_w,i32_w];rfl)|skip
    refine done_ (done_of aj.out (by kernel_rfl)) ?_;try go_wp2
    go_ret;exact vZ HB
   ·replace c9:=uZ c9;subst c9;rw[if_neg vM]at H;rcases iT H with⟨aU,H⟩|⟨aU,H⟩
    ·have bJ:(I==2&&(ak.toList==([]:List UInt8)))=true:=aU;try have cE:(I==2&&ak.toList.isEmpty)=true:=by have h_:=bJ;(repeat rw[Hof.sG]);exact h_
     (try(have cF:decide (I=2&&(ak.toList==([]:List UInt8)))=true:=by simpa using aU));(try(have cG:(I==2&&(ak.toList==([]:List UInt8)))=true:=by simpa using aU));clear aU;obtain rfl:=vU H;obtain⟨dV,dW,dX,dY⟩:=b2 ao;go_wp2;go_ret;exact vZ HB
    ·have bJ:(I==2&&(ak.toList==([]:List UInt8)))=false:=by simpa using aU
     (try have cE:(I==2&&ak.toList.isEmpty)=false:=by have h_:=bJ;(repeat rw[Hof.sG]);exact h_);(try(have cF:decide (I=2&&(ak.toList==([]:List UInt8)))=false:=by simpa using aU));(try(have cG:(I==2&&(ak.toList==([]:List UInt8)))=false:=by simpa using aU));(try(have eY:¬(I=2&&(ak.toList==([]:List UInt8))):=by simpa using aU));clear aU;obtain rfl:=vU H;obtain⟨dZ,ea,eb,ec⟩:=b2 ao;go_wp2;go_ret;exact vZ HB
end Go.Proofs.YtihgpkohglcijaaGreatDoor.P
