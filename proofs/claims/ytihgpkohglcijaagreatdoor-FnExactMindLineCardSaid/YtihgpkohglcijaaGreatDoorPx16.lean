import Derived.Test.YtihgpkohglcijaaGreatDoorPx0
import Derived.Test.YtihgpkohglcijaaGreatDoorPx1
import Derived.Test.YtihgpkohglcijaaGreatDoorPx14
namespace Go.Proofs.YtihgpkohglcijaaGreatDoor.P
open Go.RowKit Go.Proofs.YtihgpkohglcijaaGreatDoorW.PrintWords Go.Proofs.YtihgpkohglcijaaGreatDoorW.PrintLast Go.Proofs.YtihgpkohglcijaaGreatDoorW.PrintMore
attribute [local go_sem] max2_int min2_int max_two min_two max_three min_three max_four min_four   -- for this text's walks alone
set_option linter.unusedVariables false
set_option linter.unusedSimpArgs false

attribute [local go_sem high] eqA58
set_option maxHeartbeats 8000000
set_option maxRecDepth 100000
abbrev Mk16_0:Array Bool:= #[true,true,true,true,true,false,false,true,false]
abbrev Mk16_2:Array Bool:= #[true,true,true,true,true,true,true,true,false]
def spec_l10Copy.l0:Nat→Int→Int→List Int→List (List Int)→Int→List Int→List (List Int)→Option (Int×List Int×(List (List Int)))
 |0,_,_,_,_,_,_,_=>none
 |k+1,x4,x362000,x362001,x362002,x370000,x370001,x370002=>if x4<(x362002.length:Int)then((some (([]:List Int):List Int)).bind fun aW=>(if 0≤x4 then(if aW.length+(rd_L1 x362002 x4).length<17592186044416 then(if x370002.length<5864062014805 then(spec_l10Copy.l0 k (wrap64 (x4+1)) x362000 x362001 x362002 x370000 x370001 (x370002++ [(aW++(rd_L1 x362002 x4))]))else(none))else(none))else(none)))else(some (x370000,x370001,x370002))
def spec_l10Copy.f (k:Nat) (I:Int) (ae:List Int) (ai:List (List Int)):Option (Int×List Int×(List (List Int))):=(some (([]:List Int):List Int)).bind fun aC=>(if aC.length+ae.length<17592186044416 then(spec_l10Copy.l0 k 0 I ae ai I (aC++ae) ([]:List (List Int)))else(none))
theorem spec_l10Copy.mono_l:∀k,(∀y0 y1 y2 y3 y4 y5 y6,MoR (spec_l10Copy.l0 k y0 y1 y2 y3 y4 y5 y6) (spec_l10Copy.l0 (k+1) y0 y1 y2 y3 y4 y5 y6))
 |0=>fun _ _ _ _ _ _ _=> .z (by simp only[spec_l10Copy.l0])
 |k+1=>by
  have i0:=spec_l10Copy.mono_l k;exact fun _ _ _ _ _ _ _=>by unfold spec_l10Copy.l0;infer_instance
instance spec_l10Copy.mo {k a0 a1 a2}:MoR (spec_l10Copy.f k a0 a1 a2) (spec_l10Copy.f (k+1) a0 a1 a2):=by have i0:=spec_l10Copy.mono_l k;unfold spec_l10Copy.f;infer_instance
def spec_l10Copy.T1:Bool×List (List Nat×List Nat):=(true,[([],[]),([0],[0]),([],[]),([],[]),([3],[3]),([2,4],[2,4]),([1,5],[1,5]),([],[]),([7,6,5,0,1,2,3,4,5,6,7],[6,7])])
def spec_l10Copy.B1:List Nat:=[0,1,0,0,8,28,63,0,255]
theorem spec_l10Copy.tab1:rtab .any (opsOf Tryz.f45 1)=spec_l10Copy.T1:=by kernel_rfl
theorem spec_l10Copy.bits1:waitsOk spec_l10Copy.T1.2 spec_l10Copy.B1=true:=by kernel_rfl
def spec_l10Copy.T5:Bool×List (List Nat×List Nat):=(true,[([],[]),([0],[0]),([],[]),([],[]),([3],[3]),([],[]),([4,5],[4,5]),([6],[6]),([2,7],[2,7]),([8],[8]),([1,9,8],[1,9]),([0,1,2,3,4,5,6,7,8,9,10],[]),([11,10,10,0,1,2,3,4,5,6,7,8,9,10],[10,11])])
def spec_l10Copy.B5:List Nat:=[0,1,0,0,8,0,56,120,252,508,1023,2047,4095]
theorem spec_l10Copy.tab5:rtab .any (opsOf Tryz.f45 5)=spec_l10Copy.T5:=by kernel_rfl
theorem spec_l10Copy.bits5:waitsOk spec_l10Copy.T5.2 spec_l10Copy.B5=true:=by kernel_rfl
theorem spec_l10Copy.calls (k:Nat) (I:Int) (aG:Option Addr) (aH:Nat) (ae:List Int) (aN:Option Addr) (aI:Nat) (ai:List (List Int)) (r1:Int) (r2:List Int) (r3:List (List Int)) (w:World) (bT:Kd.C (Kd.int .i64) w aG ae.length ae) (bV:ae.length≤aH) (bZ:Kd.C (Kd.slice 3 (Kd.int .i64)) w aN ai.length ai) (b0:ai.length≤aI) (h:spec_l10Copy.f k I ae ai=some (r1,r2,r3)):
  Calls Tryz.prog 45 #[.agg #[.int .i64 I,.slice aG ae.length aH,.slice aN ai.length aI]] w fun e w'=>∃ct cH:Value,e= .returned (.agg #[.int .i64 r1,ct,cH])∧Kd.R (Kd.int .i64) 3 w' w.heap.size (fun _=>True) ct r2∧Kd.S (Kd.slice 3 (Kd.int .i64)) 23 w' w.heap.size (fun k_=>some k_≠(ct:Value).ownBlock) cH r3∧Below w.heap.size w w':=by
 have eZ:=Tryz.underlying26;have bq:=Asd.mk bT;have el:=Asd.mk bV;clear bT bV;have cu:=Asd.mk bZ;have en:=Asd.mk b0;clear bZ b0;have HB:=Asd.mk (Below.refl w.heap.size w);have H:((some (([]:List Int):List Int)).bind fun aC=>(if aC.length+ae.length<17592186044416 then(spec_l10Copy.l0 k 0 I ae ai I (aC++ae) ([]:List (List Int)))else(none)))=some (r1,r2,r3):=h;clear h;obtain⟨aC,br⟩:∃y_:List Int,y_=(([]:List Int)):=⟨_,rfl⟩;replace H:(if aC.length+ae.length<17592186044416 then(spec_l10Copy.l0 k 0 I ae ai I (aC++ae) ([]:List (List Int)))else(none))=some (r1,r2,r3):=by first|(rw[br];exact H)|exact H
 have bd:=Asd.mk br;clear br;obtain⟨c2,H⟩:=iN H;have b1:=Asd.mk c2;clear c2;obtain⟨av,bs⟩:∃y_:List Int,y_=(aC++ae):=⟨_,rfl⟩;replace H:(spec_l10Copy.l0 k 0 I ae ai I av ([]:List (List Int)))=some (r1,r2,r3):=by first|(rw[bs];exact H)|exact H
 have bu:=Asd.mk bs;clear bs;have H':=Asd.mk H;clear H;go_enter Tryz.func45,Tryz.ntmps45;try go_wp2_with (first|(refine bxA 1 #[.int .i64 I,.slice aG ae.length aH,.slice aN ai.length aI] 26 ?_;intro al hg w3 ax hb;have o:=Asd.mk (ax);have eo:=bG HB hg;replace HB:=bW HB hb;clear hb ax hg)|(refine bxA 2 #[.int .i64 0,.slice none 0 0,.slice none 0 0] 26 ?_;intro aD hg w4 ax hb;have aa:=Asd.mk (ax);have ep:=bG HB hg;replace HB:=bW HB hb;have aY:=bL o hg;have aZ:=bM o hg;replace o:=bU o hb;clear hb ax hg))
 replace o:=Asd.mk (bkD o.out);replace aa:=Asd.mk (bkD aa.out);replace HB:=Asd.mk (bwD HB.out);refine start_ (n:=9) (S:=fun w'=>w'.cell? ⟨al,0,none⟩=some (.int .i64 I)∧w'.cell? ⟨al,1,none⟩=some (.slice aG ae.length aH)∧w'.cell? ⟨al,2,none⟩=some (.slice aN ai.length aI)) (ds:=[]) #[false,false,false,false,false,false,false,false,false] (by kernel_rfl) rfl rfl ⟨(bkC o.out 0).trans rfl,(bkC o.out 1).trans rfl,(bkC o.out 2).trans rfl⟩ (fun hHeld=>?_);refine with_tabW spec_l10Copy.tab1 spec_l10Copy.bits1 (fun aj bf=>?_);generalize w4.drew=w5 at o aa HB hHeld⊢;refine pA 0 5 aj ?_ ?_ ?_ ?_ (pA 3 8 aj ?_ ?_ ?_ ?_ (tA 1 6 aj bf hHeld ?_ ?_ ?_ ?_ (tA 4 9 aj bf hHeld ?_ ?_ ?_ ?_ ?_)))
 all_goals first|(rintro w' ⟨s0,s1,s2⟩;go_simp;with_reducible rfl)|(intro w';go_simp;with_reducible rfl)|(simp only[Act.put,qA,qB,qC,i64_w,i32_w];rfl)|skip
 refine join_ (σ:=Value×Value×Nat) 1 Mk16_2 (fun s_=>[(7,s_.1),(10,s_.2.1),(3,.pointer (some ⟨s_.2.2,0,none⟩)),(11,.agg #[.int .i64 I,s_.2.1,.slice none 0 0])]) (fun s_ w'=>(w'.cell? ⟨al,0,none⟩=some (.int .i64 I)∧w'.cell? ⟨al,1,none⟩=some (.slice aG ae.length aH)∧w'.cell? ⟨al,2,none⟩=some (.slice aN ai.length aI))∧(Kd.R (Kd.int .i64) 3 w' w.heap.size (fun _=>True) s_.2.1 av)∧(w'.heap[al]?=some (.cells #[.int .i64 I,.slice aG ae.length aH,.slice aN ai.length aI] 26 (0,0)))∧(w'.heap[aD]?=some (.cells #[.int .i64 0,.slice none 0 0,.slice none 0 0] 26 (0,0)))∧(w'.heap[s_.2.2]?=some (.cells #[.int .i64 0,.slice none 0 0,.slice none 0 0] 26 (0,0)))∧(w.heap.size≤s_.2.2)∧(w.heap.size≤s_.2.2)∧(al≠s_.2.2)∧(s_.2.2≠al)∧(aD≠s_.2.2)∧(s_.2.2≠aD)∧(Below w.heap.size w w')) ?_ ?_;rotate_left
 ·intro hCont;refine two_ (i:=2) (j:=7) (Ni:=some 7) (Nj:=some 3) #[true,true,true,true,true,false,false,false,false] #[true,true,false,true,true,false,false,true,false] rfl rfl rfl rfl (two_of aj.out (by kernel_rfl)) (by decide) (by decide) (fun K hK=>?_) (fun K hK=>?_)
  ·skip;refine Kd.R_lit_step (Kd.int .i64) _ 3 ?hg (N:=7) ?hd (xs:=([]:List Int)) (inner:=[]) (ok:=fun _=>True) (okp:=fun _=>True) ?hr ?hp (fun _ hk=>hk) trivial (Below.refl _ _) (Nat.le_refl _) (by simp) ?_;(case hd=>rfl);(case hg=>rfl);(case hr=>first|(go_simp;done)|(go_simp;rfl));(case hp=>exact(Reps.none _ _));intro aV w6 b4 hb bw aM;clear bw aM;(first|rw[←bd.out]at b4|(simp only[Int.reduceToNat]at b4;rw[←bd.out]at b4));have ar:=Asd.mk (Kd.R_lower b4 (below_size (wZ HB)));replace o:=bU o hb;replace aa:=bU aa hb;replace HB:=bW HB hb;clear hb b4;refine hK.out _ _ ⟨(bkC o.out 0).trans rfl,(bkC o.out 1).trans rfl,(bkC o.out 2).trans rfl⟩ (fun hHeld=>?_);clear hK K;refine norm_ (a':=?_) ?_ ?_;rotate_left
   ·show Act.put _ (some 7) _=_
    simp only[Act.put,qA,qB,qC,i64_w,i32_w];rfl
   refine two_ (i:=5) (j:=7) (Ni:=some 10) (Nj:=some 3) #[true,true,true,true,true,true,false,false,false] Mk16_0 rfl rfl rfl rfl (two_of aj.out (by kernel_rfl)) (by decide) (by decide) (fun K hK=>?_) (fun K hK=>?_)
   ·skip;refine Kd.R_append_rows_step (Kd.int .i64) (w0:=w) w.heap.size (by rfl) (.tmp 7) (.tmp 9) 23 3 (.int .i64 0) 8 rfl Tryz.underlying23 info3 rfl (by decide) (by omega) aV aC ae _ _ _ (fun _=>True) (fun _=>False) rfl rfl ?aO ?aR (fun _ _ h=>h) (fun _ h=>h.elim) ?aF ?aB ?aS ?aL ?_;(case aR=>repeat(first|exact(Kd.C_below bq.out HB.out)|(with_reducible refine Kd.C_alloc ?_ _)|(with_reducible refine Kd.C_drewN ?_ _)|(with_reducible refine Kd.C_drew ?_)));(case aB=>exact(wZ HB));(case aF=>exact(fun _ _=>trivial));(case aO=>exact(rS ar));(case aS=>exact(below_size (wZ HB)));(case aL=>have:=b1.out;omega);intro bO w8 ho hb hg a6
    rw[←bu.out]at ho;replace o:=bN o hg (Kd.R_ne ar.out o.out (by decide));replace aa:=bN aa hg (Kd.R_ne ar.out aa.out (by decide));replace HB:=Asd.mk (hb);have aw:=Asd.mk (ho);clear ar ho hb hg a6
    obtain⟨er,et,cI⟩:=Kd.R_slice aw.out;(first|subst cI|(injection cI with f1_ f2_ f3_;have a7:=f1_.symm;have a8:=f3_.symm;clear f1_ f2_ f3_;subst a7;subst a8));refine hK.out _ _ ⟨(bkC o.out 0).trans rfl,(bkC o.out 1).trans rfl,(bkC o.out 2).trans rfl⟩ (fun hHeld=>?_);clear hK K;refine norm_ (a':=?_) ?_ ?_;rotate_left
    ·show Act.put _ (some 10) _=_
     simp only[Act.put,qA,qB,qC,i64_w,i32_w];rfl
    refine pA 6 11 aj ?_ ?_ ?_ ?_ ?_
    all_goals first|(intro w';go_simp;with_reducible rfl)|(simp only[Act.put,qA,qB,qC,i64_w,i32_w];rfl)|skip
    refine oA 7 (some 3) aj (fun K hK=>?_);refine box_step ?hg (N:=3) ?hd (cs:= #[.int .i64 0,.slice none 0 0,.slice none 0 0]) (t:=26) ?hr ?_;(case hd=>rfl);(case hg=>rfl);(case hr=>first|(go_simp;done)|(go_simp;rfl));intro au hg fb ax hb;replace aw:=bR aw hb;have J:=Asd.mk (ax);have aQ:=bG HB hg;have aT:=bG HB hg;replace HB:=bW HB hb;have ab:=bL o hg;have ad:=bM o hg;replace o:=bU o hb;have af:=bL aa hg;have ag:=bM aa hg;replace aa:=bU aa hb;clear hb ax hg;refine hK.out _ _ ⟨(bkC o.out 0).trans rfl,(bkC o.out 1).trans rfl,(bkC o.out 2).trans rfl⟩ (fun hHeld=>?_);clear hK K;refine norm_ (a':=?_) ?_ ?_;rotate_left
    ·show Act.put _ (some 3) _=_
     simp only[Act.put,qA,qB,qC,i64_w,i32_w];rfl
    exact norm_ (by simp only[putAll,Act.put,qA,qB,qC]) (hCont (aV,.slice er av.length et,au) _ ⟨hHeld,(rS aw),(kS o),(kS aa),(kS J),aQ.out,aT.out,ab.out,ad.out,af.out,ag.out,(wZ HB)⟩)
   ·skip;refine box_step ?hg (N:=3) ?hd (cs:= #[.int .i64 0,.slice none 0 0,.slice none 0 0]) (t:=26) ?hr ?_;(case hd=>rfl);(case hg=>rfl);(case hr=>first|(go_simp;done)|(go_simp;rfl));intro au hg w8 ax hb;replace ar:=bR ar hb;have J:=Asd.mk (ax);have aQ:=bG HB hg;have aT:=bG HB hg;replace HB:=bW HB hb;have ab:=bL o hg;have ad:=bM o hg;replace o:=bU o hb;have af:=bL aa hg;have ag:=bM aa hg;replace aa:=bU aa hb;clear hb ax hg;refine hK.out _ _ ⟨(bkC o.out 0).trans rfl,(bkC o.out 1).trans rfl,(bkC o.out 2).trans rfl⟩ (fun hHeld=>?_);clear hK K;refine norm_ (a':=?_) ?_ ?_;rotate_left
    ·show Act.put _ (some 3) _=_
     simp only[Act.put,qA,qB,qC,i64_w,i32_w];rfl
    refine oA 5 (some 10) aj (fun K hK=>?_);refine Kd.R_append_rows_step (Kd.int .i64) (w0:=w) w.heap.size (by rfl) (.tmp 7) (.tmp 9) 23 3 (.int .i64 0) 8 rfl Tryz.underlying23 info3 rfl (by decide) (by omega) aV aC ae _ _ _ (fun _=>True) (fun _=>False) rfl rfl ?aO ?aR (fun _ _ h=>h) (fun _ h=>h.elim) ?aF ?aB ?aS ?aL ?_;(case aR=>repeat(first|exact(Kd.C_below bq.out HB.out)|(with_reducible refine Kd.C_alloc ?_ _)|(with_reducible refine Kd.C_drewN ?_ _)|(with_reducible refine Kd.C_drew ?_)));(case aB=>exact(wZ HB));(case aF=>exact(fun _ _=>trivial));(case aO=>exact(rS ar));(case aS=>exact(below_size (wZ HB)));(case aL=>have:=b1.out;omega);intro bO w9 ho hb hg a6
    rw[←bu.out]at ho;replace o:=bN o hg (Kd.R_ne ar.out o.out (by decide));replace aa:=bN aa hg (Kd.R_ne ar.out aa.out (by decide));replace J:=bN J hg (Kd.R_ne ar.out J.out (by decide));replace HB:=Asd.mk (hb);have aw:=Asd.mk (ho);clear ar ho hb hg a6
    obtain⟨b5,b6,bh⟩:=Kd.R_slice aw.out;(first|subst bh|(injection bh with f1_ f2_ f3_;have a7:=f1_.symm;have a8:=f3_.symm;clear f1_ f2_ f3_;subst a7;subst a8));refine hK.out _ _ ⟨(bkC o.out 0).trans rfl,(bkC o.out 1).trans rfl,(bkC o.out 2).trans rfl⟩ (fun hHeld=>?_);clear hK K;refine norm_ (a':=?_) ?_ ?_;rotate_left
    ·show Act.put _ (some 10) _=_
     simp only[Act.put,qA,qB,qC,i64_w,i32_w];rfl
    refine pA 6 11 aj ?_ ?_ ?_ ?_ ?_
    all_goals first|(intro w';go_simp;with_reducible rfl)|(simp only[Act.put,qA,qB,qC,i64_w,i32_w];rfl)|skip
    exact norm_ (by simp only[putAll,Act.put,qA,qB,qC]) (hCont (aV,.slice b5 av.length b6,au) _ ⟨hHeld,(rS aw),(kS o),(kS aa),(kS J),aQ.out,aT.out,ab.out,ad.out,af.out,ag.out,(wZ HB)⟩)
  ·skip;refine box_step ?hg (N:=3) ?hd (cs:= #[.int .i64 0,.slice none 0 0,.slice none 0 0]) (t:=26) ?hr ?_;(case hd=>rfl);(case hg=>rfl);(case hr=>first|(go_simp;done)|(go_simp;rfl));intro au hg w6 ax hb;have J:=Asd.mk (ax);have aQ:=bG HB hg;have aT:=bG HB hg;replace HB:=bW HB hb;have ab:=bL o hg;have ad:=bM o hg;replace o:=bU o hb;have af:=bL aa hg;have ag:=bM aa hg;replace aa:=bU aa hb;clear hb ax hg;refine hK.out _ _ ⟨(bkC o.out 0).trans rfl,(bkC o.out 1).trans rfl,(bkC o.out 2).trans rfl⟩ (fun hHeld=>?_);clear hK K;refine norm_ (a':=?_) ?_ ?_;rotate_left
   ·show Act.put _ (some 3) _=_
    simp only[Act.put,qA,qB,qC,i64_w,i32_w];rfl
   refine oA 2 (some 7) aj (fun K hK=>?_);refine Kd.R_lit_step (Kd.int .i64) _ 3 ?hg (N:=7) ?hd (xs:=([]:List Int)) (inner:=[]) (ok:=fun _=>True) (okp:=fun _=>True) ?hr ?hp (fun _ hk=>hk) trivial (Below.refl _ _) (Nat.le_refl _) (by simp) ?_;(case hd=>rfl);(case hg=>rfl);(case hr=>first|(go_simp;done)|(go_simp;rfl));(case hp=>exact(Reps.none _ _));intro aV w7 b7 hb bw aM;clear bw aM;(first|rw[←bd.out]at b7|(simp only[Int.reduceToNat]at b7;rw[←bd.out]at b7));have ar:=Asd.mk (Kd.R_lower b7 (below_size (wZ HB)));replace o:=bU o hb;replace aa:=bU aa hb;replace J:=bU J hb;replace HB:=bW HB hb;clear hb b7;refine hK.out _ _ ⟨(bkC o.out 0).trans rfl,(bkC o.out 1).trans rfl,(bkC o.out 2).trans rfl⟩ (fun hHeld=>?_);clear hK K;refine norm_ (a':=?_) ?_ ?_;rotate_left
   ·show Act.put _ (some 7) _=_
    simp only[Act.put,qA,qB,qC,i64_w,i32_w];rfl
   refine oA 5 (some 10) aj (fun K hK=>?_);refine Kd.R_append_rows_step (Kd.int .i64) (w0:=w) w.heap.size (by rfl) (.tmp 7) (.tmp 9) 23 3 (.int .i64 0) 8 rfl Tryz.underlying23 info3 rfl (by decide) (by omega) aV aC ae _ _ _ (fun _=>True) (fun _=>False) rfl rfl ?aO ?aR (fun _ _ h=>h) (fun _ h=>h.elim) ?aF ?aB ?aS ?aL ?_;(case aR=>repeat(first|exact(Kd.C_below bq.out HB.out)|(with_reducible refine Kd.C_alloc ?_ _)|(with_reducible refine Kd.C_drewN ?_ _)|(with_reducible refine Kd.C_drew ?_)));(case aB=>exact(wZ HB));(case aF=>exact(fun _ _=>trivial));(case aO=>exact(rS ar));(case aS=>exact(below_size (wZ HB)));(case aL=>have:=b1.out;omega);intro bO w9 ho hb hg a6
   rw[←bu.out]at ho;replace o:=bN o hg (Kd.R_ne ar.out o.out (by decide));replace aa:=bN aa hg (Kd.R_ne ar.out aa.out (by decide));replace J:=bN J hg (Kd.R_ne ar.out J.out (by decide));replace HB:=Asd.mk (hb);have aw:=Asd.mk (ho);clear ar ho hb hg a6
   obtain⟨b5,b6,bh⟩:=Kd.R_slice aw.out;(first|subst bh|(injection bh with f1_ f2_ f3_;have a7:=f1_.symm;have a8:=f3_.symm;clear f1_ f2_ f3_;subst a7;subst a8));refine hK.out _ _ ⟨(bkC o.out 0).trans rfl,(bkC o.out 1).trans rfl,(bkC o.out 2).trans rfl⟩ (fun hHeld=>?_);clear hK K;refine norm_ (a':=?_) ?_ ?_;rotate_left
   ·show Act.put _ (some 10) _=_
    simp only[Act.put,qA,qB,qC,i64_w,i32_w];rfl
   refine pA 6 11 aj ?_ ?_ ?_ ?_ ?_
   all_goals first|(intro w';go_simp;with_reducible rfl)|(simp only[Act.put,qA,qB,qC,i64_w,i32_w];rfl)|skip
   exact norm_ (by simp only[putAll,Act.put,qA,qB,qC]) (hCont (aV,.slice b5 av.length b6,au) _ ⟨hHeld,(rS aw),(kS o),(kS aa),(kS J),aQ.out,aT.out,ab.out,ad.out,af.out,ag.out,(wZ HB)⟩)
 rintro⟨aV,bO,au⟩ w11 ⟨hS_,h0_,h1_,h2_,h3_,h4_,h5_,h6_,h7_,h8_,h9_,h10_⟩;have aw:Asd (Kd.R (Kd.int .i64) 3 w11 w.heap.size (fun _=>True) bO av):=⟨h0_⟩;replace o:BkA w11 al #[.int .i64 I,.slice aG ae.length aH,.slice aN ai.length aI] 26:=⟨h1_⟩;replace aa:BkA w11 aD #[.int .i64 0,.slice none 0 0,.slice none 0 0] 26:=⟨h2_⟩;have J:BkA w11 au #[.int .i64 0,.slice none 0 0,.slice none 0 0] 26:=⟨h3_⟩;have aQ:Asd (w.heap.size≤au):=⟨h4_⟩;have aT:Asd (w.heap.size≤au):=⟨h5_⟩;have ab:Asd (al≠au):=⟨h6_⟩;have ad:Asd (au≠al):=⟨h7_⟩;have af:Asd (aD≠au):=⟨h8_⟩;have ag:Asd (au≠aD):=⟨h9_⟩;replace HB:Asd (Below w.heap.size w w11):=⟨h10_⟩;clear h0_ h1_ h2_ h3_ h4_ h5_ h6_ h7_ h8_ h9_ h10_;have hHeld:w11.cell? ⟨al,0,none⟩=some (.int .i64 I)∧w11.cell? ⟨al,1,none⟩=some (.slice aG ae.length aH)∧w11.cell? ⟨al,2,none⟩=some (.slice aN ai.length aI):=hS_;obtain⟨aJ,aK,cm⟩:=Kd.R_slice aw.out;(first|subst cm|(injection cm with f1_ f2_ f3_;have a7:=f1_.symm;have a8:=f3_.symm;clear f1_ f2_ f3_;subst a7;subst a8));refine norm_ (a':=?_) ?_ ?_;rotate_left
 ·simp only[putAll,Act.put,qA,qB,qC];rfl
 refine oA 8 (none) aj (fun K hK=>?_);have e0:=bC J 0;have eu:=bkF J.out 0;have cJ:=ab.out;have cK:=af.out;have cL:=ad.out;have cM:=ag.out;have e1:=bC J 1;have ev:=bkF J.out 1;have cN:=ab.out;have cO:=af.out;have cP:=ad.out;have cQ:=ag.out;have e2:=bC J 2;have ew:=bkF J.out 2;have cR:=ab.out;have cS:=af.out;have cT:=ad.out;have cU:=ag.out;refine skip_ (w1:=?_) (by rfl) rfl ?_ ?_;rotate_left
 ·go_simp;rfl
 refine hK.out _ _ ⟨((cfN ab).trans (((cfN ab).trans (((cfN ab).trans (hHeld.1)))))),((cfN ab).trans (((cfN ab).trans (((cfN ab).trans (hHeld.2.1)))))),((cfN ab).trans (((cfN ab).trans (((cfN ab).trans (hHeld.2.2))))))⟩ (fun hHeld=>?_);clear hK K;refine done_ (done_of aj.out (by kernel_rfl)) ?_;try go_wp2
 go_loopg [4] k (fun kq v4 w'=>∃(ay:Int) (ah:List (List Int)) (az:Value),v4= .int .i64 ay∧Asd (spec_l10Copy.l0 kq ay I ae ai I av ah=some (r1,r2,r3))∧Asd (kq≤k)∧Asd (Kd.R (Kd.int .i64) 3 w' w.heap.size (fun _=>True) (.slice aJ av.length aK) av)∧Asd (Kd.S (Kd.slice 3 (Kd.int .i64)) 23 w' w.heap.size (fun k_=>some k_≠((.slice aJ av.length aK):Value).ownBlock) az ah)∧Asd (w'.heap[al]?=some (.cells #[.int .i64 I,(.slice aG ae.length aH),(.slice aN ai.length aI)] 26 (0,0)))∧Asd (w'.heap[aD]?=some (.cells #[.int .i64 0,(.slice none 0 0),(.slice none 0 0)] 26 (0,0)))∧Asd (w'.heap[au]?=some (.cells #[.int .i64 I,(.slice aJ av.length aK),az] 26 (0,0)))∧Asd (Below w.heap.size w w'))
 case atStart=>exact⟨(0),(([]:List (List Int))),(.slice none 0 0),(by first|rfl|(simp;done)|(simp[*];done)),H',⟨Nat.le_refl _⟩,⟨rT aw⟩,⟨by first|exact Kd.S_nil _ _ _ _ _|exact Kd.N_nil _ _ _ _ _|exact Kd.V_nil _ _ _ _ _|exact Kd.Q_nil _ _ _ _ _|exact Kd.R_nil _ _ _ _ _⟩,⟨kS o⟩,⟨kS aa⟩,⟨kP J⟩,⟨wZ HB⟩⟩
 case round=>
  clear H';obtain⟨ay,ah,az,rfl,HA,b8,HO_370001,HO_370002,o,aa,J,HB⟩:=hrel;cases gk with
  |zero=>exact absurd HA.out (by simp[spec_l10Copy.l0])
  |succ k1=>
   have H:=HA.out;clear HA;simp only[spec_l10Copy.l0]at H;rcases iT H with⟨b9,H⟩|⟨b9,H⟩
   ·have cv:=decide_eq_true b9;clear b9;obtain⟨aW,bx⟩:∃y_:List Int,y_=(([]:List Int)):=⟨_,rfl⟩;replace H:(if 0≤ay then(if aW.length+(rd_L1 ai ay).length<17592186044416 then(if ah.length<5864062014805 then(spec_l10Copy.l0 k1 (wrap64 (ay+1)) I ae ai I av (ah++ [(aW++(rd_L1 ai ay))]))else(none))else(none))else(none))=some (r1,r2,r3):=by first|(rw[bx];exact H)|exact H
    have ca:=Asd.mk bx;clear bx;obtain⟨cV,H⟩:=iN H;have ey:=decide_eq_true cV;clear cV;obtain⟨aU,H⟩:=iN H;have cw:=Asd.mk aU;clear aU;obtain⟨bj,bz⟩:∃y_:List Int,y_=(aW++(rd_L1 ai ay)):=⟨_,rfl⟩;replace H:(if ah.length<5864062014805 then(spec_l10Copy.l0 k1 (wrap64 (ay+1)) I ae ai I av (ah++ [bj]))else(none))=some (r1,r2,r3):=by first|(rw[bz];exact H)|exact H
    have cx:=Asd.mk bz;clear bz;obtain⟨cW,H⟩:=iN H;have cy:=Asd.mk cW;clear cW;obtain⟨cb,bA⟩:∃y_:List (List Int),y_=(ah++ [bj]):=⟨_,rfl⟩;replace H:(spec_l10Copy.l0 k1 (wrap64 (ay+1)) I ae ai I av cb)=some (r1,r2,r3):=by first|(rw[bA];exact H)|exact H
    have cz:=Asd.mk bA;clear bA;have H':=Asd.mk H;clear H;have ez:=aY.out;have eA:=aZ.out;have eB:=ab.out;have eC:=ad.out;obtain⟨cX,c0,c1,da,db,dc⟩:=b3 o;try go_wp2
    replace HO_370001:=Asd.mk (Kd.R_drew HO_370001.out);replace HO_370002:=Asd.mk (Kd.S_drew HO_370002.out);replace o:=Asd.mk (bkD o.out);replace aa:=Asd.mk (bkD aa.out);replace J:=Asd.mk (bkD J.out);replace HB:=Asd.mk (bwD HB.out);have cc:0≤(ay:Int):=odt;have cd:ay<(ai.length:Int):=odt;obtain⟨cf,cj,ck,dd,aE,bk,bl⟩:=at_L1 cu.out ay cc cd;have an:=aE;cases dd;replace aE:=(HB.out.cell (World.block_lt_of_cell? w _ aE)).trans aE;have bn:=Asd.mk bl;have de:=Asd.mk bk;clear bl bk;replace cc:=eq_true cc;replace cd:=eq_true cd;refine start_ (n:=13) (S:=fun w'=>w'.cell? ⟨au,0,none⟩=some (.int .i64 I)∧w'.cell? ⟨au,1,none⟩=some (.slice aJ av.length aK)∧w'.cell? ⟨au,2,none⟩=some (az)∧w'.cell? ⟨al,0,none⟩=some (.int .i64 I)∧w'.cell? ⟨al,1,none⟩=some (.slice aG ae.length aH)∧w'.cell? ⟨al,2,none⟩=some (.slice (some cf) ai.length aI)∧w'.cell? (cf.add (ay).toNat)=some (.slice cj (rd_L1 ai ay).length ck)) (ds:=[12]) #[false,false,false,false,false,false,false,false,false,false,false,false,false] (by kernel_rfl) rfl rfl ⟨(bkC J.out 0).trans rfl,(bkC J.out 1).trans rfl,(bkC J.out 2).trans rfl,(bkC o.out 0).trans rfl,(bkC o.out 1).trans rfl,(bkC o.out 2).trans rfl,((HB.out.cell (World.block_lt_of_cell? w _ an)).trans an)⟩ (fun hHeld=>?_);refine with_tabW spec_l10Copy.tab5 spec_l10Copy.bits5 (fun aj bf=>?_);generalize wr.drew=fc at HO_370001 HO_370002 o aa J HB bn aE hHeld⊢;refine pA 0 19 aj ?_ ?_ ?_ ?_ (pA 3 22 aj ?_ ?_ ?_ ?_ (pA 5 24 aj ?_ ?_ ?_ ?_ (tA 1 20 aj bf hHeld ?_ ?_ ?_ ?_ (tA 4 23 aj bf hHeld ?_ ?_ ?_ ?_ (pA 6 25 aj ?_ ?_ ?_ ?_ (tA 7 26 aj bf hHeld ?_ ?_ ?_ ?_ ?_))))))
    all_goals first|(rintro w' ⟨s0,s1,s2,s3,s4,s5,s6⟩;go_simp;with_reducible rfl)|(intro w';go_simp;with_reducible rfl)|(simp only[Act.put,qA,qB,qC,i64_w,i32_w];rfl)|skip
    refine oA 2 (some 21) aj (fun K hK=>?_);refine Kd.R_lit_step (Kd.int .i64) _ 3 ?hg (N:=21) ?hd (xs:=([]:List Int)) (inner:=[]) (ok:=fun _=>True) (okp:=fun _=>True) ?hr ?hp (fun _ hk=>hk) trivial (Below.refl _ _) (Nat.le_refl _) (by simp) ?_;(case hd=>rfl);(case hg=>rfl);(case hr=>first|(go_simp;done)|(go_simp;rfl));(case hp=>exact(Reps.none _ _));intro df fe ba hb bw aM;clear bw aM;(first|rw[←ca.out]at ba|(simp only[Int.reduceToNat]at ba;rw[←ca.out]at ba));replace HO_370002:=Asd.mk (Kd.S_elder' (sS HO_370002) (Kd.R_base ba) hb);have bb:=Asd.mk (Kd.R_lower (Kd.R_new' ba (Kd.R_lt (rS HO_370001))) (below_size (wZ HB)));replace HO_370001:=Asd.mk (Kd.R_elder' (rS HO_370001) (Kd.R_base ba) hb);replace o:=bU o hb;replace aa:=bU aa hb;replace J:=bU J hb;replace HB:=bW HB hb;clear hb ba;refine hK.out _ _ ⟨(bkC J.out 0).trans rfl,(bkC J.out 1).trans rfl,(bkC J.out 2).trans rfl,(bkC o.out 0).trans rfl,(bkC o.out 1).trans rfl,(bkC o.out 2).trans rfl,((HB.out.cell (World.block_lt_of_cell? w _ an)).trans an)⟩ (fun hHeld=>?_);clear hK K;refine norm_ (a':=?_) ?_ ?_;rotate_left
    ·show Act.put _ (some 21) _=_
     simp only[Act.put,qA,qB,qC,i64_w,i32_w];rfl
    refine oA 8 (some 27) aj (fun K hK=>?_);refine Kd.R_append_rows_step (Kd.int .i64) (w0:=w) w.heap.size (by rfl) (.tmp 21) (.tmp 26) 23 3 (.int .i64 0) 8 rfl Tryz.underlying23 info3 rfl (by decide) (by omega) df aW (rd_L1 ai ay) _ _ _ (fun k_=>some k_≠(.slice aJ av.length aK:Value).ownBlock) (fun _=>False) rfl rfl ?aO ?aR (fun _ _ h=>h) (fun _ h=>h.elim) ?aF ?aB ?aS ?aL ?_;(case aR=>repeat(first|exact(Kd.C_below bn.out HB.out)|(with_reducible refine Kd.C_alloc ?_ _)|(with_reducible refine Kd.C_drewN ?_ _)|(with_reducible refine Kd.C_drew ?_)));(case aB=>exact(wZ HB));(case aF=>exact(fun k_ hk=>Kd.fresh' (Kd.R_lt (rS HO_370001)) k_ hk));(case aO=>exact(by(repeat apply Kd.RS);exact Kd.R_mono bb.out (fun _ hk=>hk.2)));(case aS=>exact(below_size (wZ HB)));(case aL=>have:=cw.out;omega);intro e3 ff ho hb hg a6
    rw[←cx.out]at ho;replace HO_370001:=Asd.mk (Kd.R_after (ok:=(fun _=>True)) (rS HO_370001) hg a6);replace HO_370002:=Asd.mk (Kd.S_after (ok:=(fun k_=>some k_≠(.slice aJ av.length aK:Value).ownBlock)) (sS HO_370002) hg a6);replace o:=bN o hg (Kd.R_ne bb.out o.out (by decide));replace aa:=bN aa hg (Kd.R_ne bb.out aa.out (by decide));replace J:=bN J hg (Kd.R_ne bb.out J.out (by decide));replace HB:=Asd.mk (hb);have bg:=Asd.mk (ho);clear bb ho hb hg a6
    obtain⟨cn,cp,cq⟩:=Kd.R_slice bg.out;(first|subst cq|(injection cq with f1_ f2_ f3_;have a7:=f1_.symm;have a8:=f3_.symm;clear f1_ f2_ f3_;subst a7;subst a8));refine hK.out _ _ ⟨(bkC J.out 0).trans rfl,(bkC J.out 1).trans rfl,(bkC J.out 2).trans rfl,(bkC o.out 0).trans rfl,(bkC o.out 1).trans rfl,(bkC o.out 2).trans rfl,((HB.out.cell (World.block_lt_of_cell? w _ an)).trans an)⟩ (fun hHeld=>?_);clear hK K;refine norm_ (a':=?_) ?_ ?_;rotate_left
    ·show Act.put _ (some 27) _=_
     simp only[Act.put,qA,qB,qC,i64_w,i32_w];rfl
    refine oA 9 (some 28) aj (fun K hK=>?_);refine value_ (w1:=?_) (v:=?_) (by rfl) rfl ?_ ?_;rotate_left 2
    ·go_simp;constructor
     ·rfl
     ·rfl
    refine hK.out _ _ ⟨(bkC (bkA J.out _) 0).trans rfl,(bkC (bkA J.out _) 1).trans rfl,(bkC (bkA J.out _) 2).trans rfl,(bkC (bkA o.out _) 0).trans rfl,(bkC (bkA o.out _) 1).trans rfl,(bkC (bkA o.out _) 2).trans rfl,(World.cell?_alloc_lt _ _ _ (World.block_lt_of_cell? _ _ (((HB.out.cell (World.block_lt_of_cell? w _ an)).trans an)))).trans (((HB.out.cell (World.block_lt_of_cell? w _ an)).trans an))⟩ (fun hHeld=>?_);clear hK K;refine norm_ (a':=?_) ?_ ?_;rotate_left
    ·show Act.put _ (some 28) _=_
     simp only[Act.put,qA,qB,qC,i64_w,i32_w];rfl
    refine oA 10 (some 29) aj (fun K hK=>?_);refine Kd.S_append_step (Kd.slice 3 (Kd.int .i64)) (w0:=w) w.heap.size (by rfl) (.tmp 20) (.tmp 28) 24 23 (.slice none 0 0) 24 rfl Tryz.underlying24 info23 rfl (by decide) (by omega) az ah bj [.slice cn bj.length cp] (fun k_=>some k_≠(.slice aJ av.length aK:Value).ownBlock) (fun k_=>some k_=(.slice cn bj.length cp:Value).ownBlock) rfl rfl ?aP (fun k_ eD=>((Kd.R_mono (ok':=fun k_=>((fun k_=>some k_≠(.slice aJ av.length aK:Value).ownBlock)) k_∧some k_≠(az:Value).ownBlock) (Kd.R_apart' (bg.out) (Kd.S_typed HO_370002.out) (by decide)) (fun k_ hk=>⟨hk.1,hk.2⟩))).1 k_ eD.symm) ?aF ?aO ?aB ?aS ?aL ?_;(case aP=>exact Kd.M_row (Kd.R_mono (Kd.R_tight rfl (Kd.R_mono (ok':=fun k_=>((fun k_=>some k_≠(.slice aJ av.length aK:Value).ownBlock)) k_∧some k_≠(az:Value).ownBlock) (Kd.R_apart' (bg.out) (Kd.S_typed HO_370002.out) (by decide)) (fun k_ hk=>⟨hk.1,hk.2⟩))) (fun _ h_=>h_)));(case aB=>exact(wZ HB));(case aF=>exact(fun k_ hk=>Kd.fresh' (Kd.R_lt (rS HO_370001)) k_ hk));(case aO=>exact(by(repeat apply Kd.SS);exact Kd.S_mono HO_370002.out (fun k_ hk=>⟨hk.1,fun e_=>hk.2 e_⟩)));(case aS=>exact(below_size (wZ HB)));(case aL=>have:=cy.out;omega);intro e4 fg ho hb hg a6
    rw[←cz.out]at ho;replace HO_370001:=Asd.mk (Kd.R_over' (rS HO_370001) (Kd.S_typed (sS HO_370002)) (by decide) hg);replace o:=bN o hg (Kd.S_ne HO_370002.out o.out (by decide));replace aa:=bN aa hg (Kd.S_ne HO_370002.out aa.out (by decide));replace J:=bN J hg (Kd.S_ne HO_370002.out J.out (by decide));replace HB:=Asd.mk (hb);have cg:=Asd.mk (ho);clear HO_370002 bg ho hb hg a6
    obtain⟨dh,di,cr⟩:=Kd.S_slice cg.out;(first|subst cr|(injection cr with f1_ f2_ f3_;have a7:=f1_.symm;have a8:=f3_.symm;clear f1_ f2_ f3_;subst a7;subst a8));refine hK.out _ _ ⟨(bkC J.out 0).trans rfl,(bkC J.out 1).trans rfl,(bkC J.out 2).trans rfl,(bkC o.out 0).trans rfl,(bkC o.out 1).trans rfl,(bkC o.out 2).trans rfl,((HB.out.cell (World.block_lt_of_cell? w _ an)).trans an)⟩ (fun hHeld=>?_);clear hK K;refine norm_ (a':=?_) ?_ ?_;rotate_left
    ·show Act.put _ (some 29) _=_
     simp only[Act.put,qA,qB,qC,i64_w,i32_w];rfl
    refine pA 11 30 aj ?_ ?_ ?_ ?_ ?_
    all_goals first|(intro w';go_simp;with_reducible rfl)|(simp only[Act.put,qA,qB,qC,i64_w,i32_w];rfl)|skip
    refine last_ (i:=12) (N:=none) #[true,true,true,true,true,true,true,true,true,true,true,true,true] rfl rfl (one_of aj.out (by kernel_rfl)) (by decide) (fun K hK=>?_);have e5:=bC J 2;have eE:=bkF J.out 2;have dj:=ab.out;have dk:=af.out;have dm:=ad.out;have dn:=ag.out;refine skip_ (w1:=?_) (by rfl) rfl ?_ ?_;rotate_left
    ·go_simp;rfl
    refine hK.out _ _ ?_;clear hK K;refine done_ (done_of aj.out (by kernel_rfl)) ?_;try go_wp2
    go_roundg k1
    case measure=>have:=b8.out;omega
    case rel=>exact⟨(wrap64 (ay+1)),(cb),(.slice dh cb.length di),(by first|rfl|(simp;done)|(simp[*];done)),H',⟨by have:=b8.out;omega⟩,⟨rT HO_370001⟩,⟨sT cg⟩,⟨kS o⟩,⟨kS aa⟩,⟨kP J⟩,⟨wZ HB⟩⟩
   ·have cv:=decide_eq_false b9;clear b9;obtain⟨rfl,rfl,rfl⟩:=s3 H;have eF:=aY.out;have eG:=aZ.out;have eH:=ab.out;have eI:=ad.out;obtain⟨dp,dq,dr,dt,du,dv⟩:=b3 o;have eJ:=ag.out;have eK:=af.out;obtain⟨dw,dx,dy,dz,dA,dB⟩:=b3 J;obtain⟨dC,dD,dE,dF,dG,dH⟩:=b3 aa;obtain⟨dI,dJ,dK⟩:=Kd.S_slice HO_370002.out;subst dK;go_wp2;refine bodyPost_ret (results_cell_row rfl _ _ aD 26 #[.int .i64 I,.slice aJ av.length aK,.slice dI ah.length dJ] (0,0) _ rfl (kP aa) Tryz.underlying26 rfl (by kernel_rfl)) rfl ?_;exact⟨_,_,by first|rfl|(simp[*,errW_none,errW_some]<;>rfl),rT HO_370001,sT HO_370002,wZ HB⟩
def spec_l10Plain.l0:Nat→ByteArray→Int→Option (Bool)
 |0,_,_=>none
 |k+1,x0,x3=>if x3<(x0.size:Int)then(if 0≤x3 then(if(bt x0 x3)<32 then(some false)else(if(bt x0 x3)>126 then(some false)else(spec_l10Plain.l0 k x0 (wrap64 (x3+1)))))else(none))else(some (decide ((x0.size:Int)>0)))
def spec_l10Plain.f (k:Nat) (a0:ByteArray):Option (Bool):=spec_l10Plain.l0 k a0 0
theorem spec_l10Plain.mono_l:∀k,(∀y0 y1,MoR (spec_l10Plain.l0 k y0 y1) (spec_l10Plain.l0 (k+1) y0 y1))
 |0=>fun _ _=> .z (by simp only[spec_l10Plain.l0])
 |k+1=>by
  have i0:=spec_l10Plain.mono_l k;exact fun _ _=>by unfold spec_l10Plain.l0;infer_instance
instance spec_l10Plain.mo {k a0}:MoR (spec_l10Plain.f k a0) (spec_l10Plain.f (k+1) a0):=by have i0:=spec_l10Plain.mono_l k;unfold spec_l10Plain.f;infer_instance
theorem spec_l10Plain.calls (k:Nat) (a0:ByteArray) (r:Bool) (w:World) (h:spec_l10Plain.f k a0=some r):
  Calls Tryz.prog 125 #[.string a0] w fun e w'=>e= .returned (.bool r)∧Drawn0 w w':=by
 have H:(spec_l10Plain.l0 k a0 0)=some r:=h;clear h;have H':=Asd.mk H;clear H;go_enter Tryz.func125,Tryz.ntmps125;go_wp2;go_loopg [3] k (fun kq v3 w'=>∃(aq:Int),v3= .int .i64 aq∧Asd (spec_l10Plain.l0 kq a0 aq=some r)∧Asd (kq≤k)∧Drawn0 w w')
 case atStart=>exact⟨(0),(by first|rfl|(simp;done)|(simp[*];done)),H',⟨Nat.le_refl _⟩,by repeat(first|exact Drawn0.refl _|apply Drawn0.step)⟩
 case round=>
  clear H';obtain⟨aq,rfl,HA,b8,⟨m1,rfl⟩⟩:=hrel;cases gk with
  |zero=>exact absurd HA.out (by simp[spec_l10Plain.l0])
  |succ k1=>
   have H:=HA.out;clear HA;simp only[spec_l10Plain.l0]at H;rcases iT H with⟨c2,H⟩|⟨c2,H⟩
   ·have dL:=decide_eq_true c2;clear c2;obtain⟨c3,H⟩:=iN H;have e6:=decide_eq_true c3;clear c3;rcases iT H with⟨c5,H⟩|⟨c5,H⟩
    ·have dM:=decide_eq_true c5;clear c5;obtain rfl:=Option.some.inj H;have p4:0≤(aq:Int):=odt;have q4:aq<(a0.size:Int):=odt;have dN:=bt_at a0 aq;replace p4:=eq_true p4;replace q4:=eq_true q4;go_wp2;go_ret;exact⟨by first|rfl|(simp;done)|(simp[*];done),by repeat(first|exact Drawn0.refl _|apply Drawn0.step)⟩
    ·have dM:=decide_eq_false c5;clear c5;rcases iT H with⟨c7,H⟩|⟨c7,H⟩
     ·have dO:=decide_eq_true c7;clear c7;obtain rfl:=Option.some.inj H;have p4:0≤(aq:Int):=odt;have q4:aq<(a0.size:Int):=odt;have dN:=bt_at a0 aq;replace p4:=eq_true p4;replace q4:=eq_true q4;have p6:0≤(aq:Int):=odt;have q6:aq<(a0.size:Int):=odt;have eL:=bt_at a0 aq;replace p6:=eq_true p6;replace q6:=eq_true q6;go_wp2;go_ret;exact⟨by first|rfl|(simp;done)|(simp[*];done),by repeat(first|exact Drawn0.refl _|apply Drawn0.step)⟩
     ·have dO:=decide_eq_false c7;clear c7;have H':=Asd.mk H;clear H;have p4:0≤(aq:Int):=odt;have q4:aq<(a0.size:Int):=odt;have dN:=bt_at a0 aq;replace p4:=eq_true p4;replace q4:=eq_true q4;have p6:0≤(aq:Int):=odt;have q6:aq<(a0.size:Int):=odt;have eL:=bt_at a0 aq;replace p6:=eq_true p6;replace q6:=eq_true q6;go_wp2;go_roundg k1
      case measure=>have:=b8.out;omega
      case rel=>exact⟨(wrap64 (aq+1)),(by first|rfl|(simp;done)|(simp[*];done)),H',⟨by have:=b8.out;omega⟩,by repeat(first|exact Drawn0.refl _|apply Drawn0.step)⟩
   ·have dL:=decide_eq_false c2;clear c2;obtain rfl:=Option.some.inj H;go_wp2;go_ret;exact⟨by first|rfl|(simp;done)|(simp[*];done),by repeat(first|exact Drawn0.refl _|apply Drawn0.step)⟩
def spec_DeedText.j0:Nat→Bool→Int→ByteArray→Option (ByteArray)
 |0,_,_,_=>none
 |k+1,x3,x381000,x381001=>if x3=true then((some (([(⟨#[102,105,114,115,116]⟩:ByteArray),(⟨#[97,108,108]⟩:ByteArray)]:List ByteArray):List ByteArray)).bind fun aA=>(if 0≤x381000 then(if x381000<(aA.length:Int)then(if(rdOf ByteArray.empty aA x381000).size+1≤9223372036854775807 then(if((rdOf ByteArray.empty aA x381000)++(⟨#[32]⟩:ByteArray)).size+x381001.size≤9223372036854775807 then(some (((rdOf ByteArray.empty aA x381000)++(⟨#[32]⟩:ByteArray))++x381001))else(none))else(none))else(none))else(none)))else(if(x381000==2&&(x381001.toList==([]:List UInt8)))=true then(some (⟨#[98,97,99,107]⟩:ByteArray))else(some (⟨#[]⟩:ByteArray)))
def spec_DeedText.f (k:Nat) (I:Int) (ak:ByteArray):Option (ByteArray):=(spec_l1In.f I 0 1).bind fun bo=>(if bo=true then((spec_l10Plain.f k ak).bind fun bc=>(spec_DeedText.j0 k bc I ak))else(spec_DeedText.j0 k false I ak))
theorem spec_DeedText.mono_l:∀k,(∀y0 y1 y2,MoR (spec_DeedText.j0 k y0 y1 y2) (spec_DeedText.j0 (k+1) y0 y1 y2))
 |0=>fun _ _ _=> .z (by simp only[spec_DeedText.j0])
 |k+1=>by
  have i0:=spec_DeedText.mono_l k;exact fun _ _ _=>by unfold spec_DeedText.j0;infer_instance
instance spec_DeedText.mo {k a0 a1}:MoR (spec_DeedText.f k a0 a1) (spec_DeedText.f (k+1) a0 a1):=by have i0:=spec_DeedText.mono_l k;unfold spec_DeedText.f;infer_instance
def spec_DeedText.T2:Bool×List (List Nat×List Nat):=(true,[([],[]),([],[]),([1],[1]),([0,2],[0,2]),([3],[3]),([4],[4]),([],[]),([6],[6]),([5,7],[5,7]),([8,0,1,2,3,4,5,6,7,8],[8])])
def spec_DeedText.B2:List Nat:=[0,0,2,7,15,31,0,64,255,511]
theorem spec_DeedText.tab2:rtab .any (opsOf Tryz.f95 2)=spec_DeedText.T2:=by kernel_rfl
theorem spec_DeedText.bits2:waitsOk spec_DeedText.T2.2 spec_DeedText.B2=true:=by kernel_rfl
theorem spec_DeedText.calls (k:Nat) (I:Int) (ak:ByteArray) (r:ByteArray) (w:World) (h:spec_DeedText.f k I ak=some r):
  Calls Tryz.prog 95 #[.agg #[.int .i64 I,.string ak]] w fun e w'=>e= .returned (.string r)∧Below w.heap.size w w':=by
 have e7:=Tryz.underlying58;have HB:=Asd.mk (Below.refl w.heap.size w);have H:((spec_l1In.f I 0 1).bind fun bo=>(if bo=true then((spec_l10Plain.f k ak).bind fun bc=>(spec_DeedText.j0 k bc I ak))else(spec_DeedText.j0 k false I ak)))=some r:=h;clear h;have cA:=Asd.mk H;clear H;go_enter Tryz.func95,Tryz.ntmps95;go_upto_region 1 with(first|(refine bxA 1 #[.int .i64 I,.string ak] 58 ?_;intro bB hg w3 ax hb;have ao:=Asd.mk (ax);have eM:=bG HB hg;replace HB:=bW HB hb;clear hb ax hg))
 (try simp only[Act.put,qA,qB,qC]);go_cut [3] (fun v3 wc=>∃(kq:Nat) (aq:Bool),v3= .bool aq∧Asd (spec_DeedText.j0 kq aq I ak=some r)∧Asd (kq≤k)∧BkA wc bB #[.int .i64 I,.string ak] 58∧Asd (Below w.heap.size w wc))
 case first=>
  have H:=cA.out;clear cA;obtain⟨bo,A4,H⟩:=bE H;try dsimp only at H
  by_cases c5:bo=true
  ·subst c5;rw[if_pos rfl]at H;obtain⟨bc,A6,H⟩:=bE H;try dsimp only at H
   have H':=Asd.mk H;clear H;obtain⟨ed,ee,ef,eg⟩:=b2 ao;go_wp2_with (first|(refine gB (some 6) Tryz.func100 #[.int .i64 I,.int .i64 0,.int .i64 1] rfl ?_;(with_reducible refine(spec_l1In.calls I 0 1 true _ A4.out).mono ?_);rintro e w' ⟨rfl,⟨nd,rfl⟩⟩;refine⟨_,rfl,?_⟩)|(go_at_call 125;(with_reducible refine(spec_l10Plain.calls k ak bc _ A6.out).mono ?_);rintro e w' ⟨rfl,⟨nd,rfl⟩⟩));go_meet
   case rel=>exact⟨_,(bc),(by first|rfl|(simp;done)|(simp[*];done)),H',⟨by first|omega|exact Nat.le_refl _⟩,⟨kS ao⟩,⟨wZ HB⟩⟩
  ·replace c5:=Bool.eq_false_iff.mpr c5;subst c5;rw[if_neg (show¬(false=true) by decide)]at H;have H':=Asd.mk H;clear H;obtain⟨eh,ei,ej,ek⟩:=b2 ao;go_wp2_with (first|(refine gB (some 6) Tryz.func100 #[.int .i64 I,.int .i64 0,.int .i64 1] rfl ?_;(with_reducible refine(spec_l1In.calls I 0 1 false _ A4.out).mono ?_);rintro e w' ⟨rfl,⟨nd,rfl⟩⟩;refine⟨_,rfl,?_⟩));go_meet
   case rel=>exact⟨_,(false),(by first|rfl|(simp;done)|(simp[*];done)),H',⟨by first|omega|exact Nat.le_refl _⟩,⟨kS ao⟩,⟨wZ HB⟩⟩
 case rest=>
  clear cA;obtain⟨kq,aq,rfl,HA,fh,ao,HB⟩:=hcut;cases kq with
  |zero=>exact absurd HA.out (by simp[spec_DeedText.j0])
  |succ kj1=>
   have H:=HA.out;clear HA;simp only[spec_DeedText.j0]at H;by_cases c9:aq=true
   ·subst c9;rw[if_pos rfl]at H;obtain⟨aA,bD⟩:∃y_:List ByteArray,y_=(([(⟨#[102,105,114,115,116]⟩:ByteArray),(⟨#[97,108,108]⟩:ByteArray)]:List ByteArray)):=⟨_,rfl⟩;replace H:(if 0≤I then(if I<(aA.length:Int)then(if(rdOf ByteArray.empty aA I).size+1≤9223372036854775807 then(if((rdOf ByteArray.empty aA I)++(⟨#[32]⟩:ByteArray)).size+ak.size≤9223372036854775807 then(some (((rdOf ByteArray.empty aA I)++(⟨#[32]⟩:ByteArray))++ak))else(none))else(none))else(none))else(none))=some r:=by first|(rw[bD];exact H)|exact H
    have bF:=Asd.mk bD;clear bD;obtain⟨c10,H⟩:=iN H;have eN:=decide_eq_true c10;clear c10;obtain⟨dP,H⟩:=iN H;have eO:=decide_eq_true dP;clear dP;obtain⟨cB,H⟩:=iN H;have eP:=eq_true cB;have eQ:=decide_eq_true cB;try have eR:(9223372036854775807<(rdOf ByteArray.empty aA I).size+1)=False:=eq_false (Nat.not_lt.2 cB)
    obtain⟨cl,H⟩:=iN H;have eS:=eq_true cl;have eT:=decide_eq_true cl;try have eU:(9223372036854775807<((rdOf ByteArray.empty aA I)++(⟨#[32]⟩:ByteArray)).size+ak.size)=False:=eq_false (Nat.not_lt.2 cl)
    (try have eV:(9223372036854775807<(rdOf ByteArray.empty aA I).size+1+ak.size)=False:=eq_false (by have h_:=cl;(repeat rw[ByteArray.size_append]at h_);exact Nat.not_lt.2 h_));obtain rfl:=Option.some.inj H;try go_wp2
    have eW:(0≤(I:Int))=True:=eq_true (odt);have eX:(I<(aA.length:Int))=True:=eq_true (odt);replace ao:=Asd.mk (bkD ao.out);replace HB:=Asd.mk (bwD HB.out);refine start_ (n:=10) (S:=fun w'=>w'.cell? ⟨bB,0,none⟩=some (.int .i64 I)∧w'.cell? ⟨bB,1,none⟩=some (.string ak)) (ds:=[]) #[false,false,false,false,false,false,false,false,false,false] (by kernel_rfl) rfl rfl ⟨(bkC ao.out 0).trans rfl,(bkC ao.out 1).trans rfl⟩ (fun hHeld=>?_);refine with_tabW spec_DeedText.tab2 spec_DeedText.bits2 (fun aj bf=>?_);generalize wc.drew=fi at ao HB hHeld⊢;refine pA 1 13 aj ?_ ?_ ?_ ?_ (pA 6 18 aj ?_ ?_ ?_ ?_ (tA 2 14 aj bf hHeld ?_ ?_ ?_ ?_ (tA 7 19 aj bf hHeld ?_ ?_ ?_ ?_ ?_)))
    all_goals first|(rintro w' ⟨s0,s1⟩;go_simp;with_reducible rfl)|(intro w';go_simp;with_reducible rfl)|(simp only[Act.put,qA,qB,qC,i64_w,i32_w];rfl)|skip
    refine oA 0 (some 12) aj (fun K hK=>?_);refine Kd.R_lit_step Kd.string _ 9 ?hg (N:=12) ?hd (xs:=([(⟨#[102,105,114,115,116]⟩:ByteArray),(⟨#[97,108,108]⟩:ByteArray)]:List ByteArray)) (inner:=[.string (⟨#[102,105,114,115,116]⟩:ByteArray),.string (⟨#[97,108,108]⟩:ByteArray)]) (ok:=fun _=>True) (okp:=fun _=>True) ?hr ?hp (fun _ hk=>hk) trivial (Below.refl _ _) (Nat.le_refl _) (by simp) ?_;(case hd=>rfl);(case hg=>rfl);(case hr=>first|(go_simp;done)|(go_simp;rfl));(case hp=>exact(Reps.one (show Kd.M Kd.string _ _ _ (⟨#[102,105,114,115,116]⟩:ByteArray) [.string (⟨#[102,105,114,115,116]⟩:ByteArray)] from rfl) (Reps.one (show Kd.M Kd.string _ _ _ (⟨#[97,108,108]⟩:ByteArray) [.string (⟨#[97,108,108]⟩:ByteArray)] from rfl) (Reps.none _ _))));intro e8 fj bp hb bw aM;clear bw aM;(first|rw[←bF.out]at bp|(simp only[Int.reduceToNat]at bp;rw[←bF.out]at bp));have bH:=Asd.mk (Kd.R_lower bp (below_size (wZ HB)));replace ao:=bU ao hb;replace HB:=bW HB hb;clear hb bp;obtain⟨e9,fa,dQ⟩:=Kd.R_slice bH.out;subst dQ;obtain⟨cC,dR,_⟩:=Kd.at_string (Kd.R_reads' bH.out).2.2 0 (by decide) (by rw[bF.out];simp);cases dR;refine hK.out _ _ ⟨(bkC ao.out 0).trans rfl,(bkC ao.out 1).trans rfl⟩ (fun hHeld=>?_);clear hK K;refine norm_ (a':=?_) ?_ ?_;rotate_left
    ·show Act.put _ (some 12) _=_
     simp only[Act.put,qA,qB,qC,i64_w,i32_w];rfl
    refine pA 3 15 aj ?_ ?_ ?_ ?_ ?_
    all_goals first|(intro w';go_simp;with_reducible rfl)|(simp only[Act.put,qA,qB,qC,i64_w,i32_w];rfl)|skip
    refine oA 4 (some 16) aj (fun K hK=>?_);(have dS:0≤(I:Int):=odt;have dT:I<(aA.length:Int):=odt;obtain⟨cD,dU,ch⟩:=Kd.at_string (Kd.R_reads' bH.out).2.2 I dS dT;obtain rfl:cC=cD:=(by injection dU));refine value_ (w1:=?_) (v:=?_) (by rfl) rfl ?_ ?_;rotate_left 2
    ·go_simp;constructor
     ·rfl
     ·rfl
    clear ch;refine hK.out _ _ ⟨(bkC ao.out 0).trans rfl,(bkC ao.out 1).trans rfl⟩ (fun hHeld=>?_);clear hK K;refine norm_ (a':=?_) ?_ ?_;rotate_left
    ·show Act.put _ (some 16) _=_
     simp only[Act.put,qA,qB,qC,i64_w,i32_w];rfl
    refine pA 5 17 aj ?_ ?_ ?_ ?_ (pA 8 20 aj ?_ ?_ ?_ ?_ (pA 9 2 aj ?_ ?_ ?_ ?_ ?_))
    all_goals first|(intro w';go_simp;with_reducible rfl)|(simp only[Act.put,qA,qB,qC,i64_w,i32_w];rfl)|skip
    refine done_ (done_of aj.out (by kernel_rfl)) ?_;try go_wp2
    go_ret;exact⟨by first|rfl|(simp[*,errW_none,errW_some]<;>rfl),wZ HB⟩
   ·replace c9:=Bool.eq_false_iff.mpr c9;subst c9;rw[if_neg (show¬(false=true) by decide)]at H;rcases iT H with⟨aU,H⟩|⟨aU,H⟩
    ·have bJ:(I==2&&(ak.toList==([]:List UInt8)))=true:=aU;try have cE:(I==2&&ak.toList.isEmpty)=true:=by have h_:=bJ;(repeat rw[Hof.isEmpty_beq]);exact h_
     (try(have cF:decide (I=2&&(ak.toList==([]:List UInt8)))=true:=by simpa using aU));(try(have cG:(I==2&&(ak.toList==([]:List UInt8)))=true:=by simpa using aU));clear aU;obtain rfl:=Option.some.inj H;obtain⟨dV,dW,dX,dY⟩:=b2 ao;go_wp2;go_ret;exact⟨by first|rfl|(simp[*,errW_none,errW_some]<;>rfl),wZ HB⟩
    ·have bJ:(I==2&&(ak.toList==([]:List UInt8)))=false:=by simpa using aU
     (try have cE:(I==2&&ak.toList.isEmpty)=false:=by have h_:=bJ;(repeat rw[Hof.isEmpty_beq]);exact h_);(try(have cF:decide (I=2&&(ak.toList==([]:List UInt8)))=false:=by simpa using aU));(try(have cG:(I==2&&(ak.toList==([]:List UInt8)))=false:=by simpa using aU));(try(have eY:¬(I=2&&(ak.toList==([]:List UInt8))):=by simpa using aU));clear aU;obtain rfl:=Option.some.inj H;obtain⟨dZ,ea,eb,ec⟩:=b2 ao;go_wp2;go_ret;exact⟨by first|rfl|(simp[*,errW_none,errW_some]<;>rfl),wZ HB⟩
end Go.Proofs.YtihgpkohglcijaaGreatDoor.P
