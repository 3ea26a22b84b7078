import Derived.Test.YtihgpkohglcijaaGreatDoorPx0
import Derived.Test.YtihgpkohglcijaaGreatDoorPx1
namespace Go.Proofs.YtihgpkohglcijaaGreatDoor.P
open Go.RowKit Go.Proofs.YtihgpkohglcijaaGreatDoorW.PrintWords Go.Proofs.YtihgpkohglcijaaGreatDoorW.PrintLast Go.Proofs.YtihgpkohglcijaaGreatDoorW.PrintMore
attribute [local go_sem] max2_int min2_int max_two min_two max_three min_three max_four min_four   -- for this text's walks alone
set_option linter.unusedVariables false
set_option linter.unusedSimpArgs false

attribute [local go_sem high] eqA58
set_option maxHeartbeats 8000000
set_option maxRecDepth 100000
abbrev Mk3_0:Array Bool:= #[false,false,false,false,false,false,false,false,false]
abbrev Mk3_4:Array Bool:= #[true,true,true,true,true,false,false,false,false]
abbrev Mk3_5:Array Bool:= #[true,true,true,true,true,false,false,true,false]
abbrev Mk3_6:Array Bool:= #[true,true,true,true,true,true,false,false,false]
abbrev Mk3_9:Array Bool:= #[true,true,true,true,true,true,true,true,false]
abbrev Mk3_10:Array Bool:= #[true,true,true,true,true,true,true,true,true]
def impl_copyMind.l0:Nat→List (List Int)→Int→Int→Int→List Int→List (List Int)→Option (Int×List Int×(List (List Int)))
 |0,_,_,_,_,_,_=>none
 |k+1,x14,x15,x16,x143000,x143001,x143002=>if x16<x15 then(if 0≤x16 then(if x16<(x14.length:Int)then((some (([]:List Int):List Int)).bind fun aN=>(if aN.length+(rd_L1 x14 x16).length<17592186044416 then(if x143002.length<5864062014805 then(impl_copyMind.l0 k x14 x15 (wrap64 (x16+1)) x143000 x143001 (x143002++ [(aN++(rd_L1 x14 x16))]))else(none))else(none)))else(none))else(none))else(some (x143000,x143001,x143002))
def impl_copyMind.f (k:Nat) (aa:Int) (ag:List Int) (ad:List (List Int)):Option (Int×List Int×(List (List Int))):=(some (([]:List Int):List Int)).bind fun az=>(if az.length+ag.length<17592186044416 then(impl_copyMind.l0 k ad (ad.length:Int) 0 aa (az++ag) ([]:List (List Int)))else(none))
theorem impl_copyMind.mono_l:∀k,(∀y0 y1 y2 y3 y4 y5,MoR (impl_copyMind.l0 k y0 y1 y2 y3 y4 y5) (impl_copyMind.l0 (k+1) y0 y1 y2 y3 y4 y5))
 |0=>fun _ _ _ _ _ _=> .z (by simp only[impl_copyMind.l0])
 |k+1=>by
  have i0:=impl_copyMind.mono_l k;exact fun _ _ _ _ _ _=>by unfold impl_copyMind.l0;infer_instance
instance impl_copyMind.mo {k a0 a1 a2}:MoR (impl_copyMind.f k a0 a1 a2) (impl_copyMind.f (k+1) a0 a1 a2):=by have i0:=impl_copyMind.mono_l k;unfold impl_copyMind.f;infer_instance
def impl_copyMind.T1:Bool×List (List Nat×List Nat):=(true,[([],[]),([0],[0]),([],[]),([],[]),([3],[3]),([2,4],[2,4]),([1,5],[1,5]),([],[]),([7,6,5,0,1,2,3,4,5,6,7],[6,7])])
def impl_copyMind.B1:List Nat:=[0,1,0,0,8,28,63,0,255]
theorem impl_copyMind.tab1:rtab .any (opsOf Tryz.f70 1)=impl_copyMind.T1:=by kernel_rfl
theorem impl_copyMind.bits1:waitsOk impl_copyMind.T1.2 impl_copyMind.B1=true:=by kernel_rfl
def impl_copyMind.T5:Bool×List (List Nat×List Nat):=(true,[([],[]),([0],[0]),([],[]),([],[]),([2,3],[2,3]),([4],[4]),([1,5,4],[1,5]),([0,1,2,3,4,5,6],[]),([7,6,6,0,1,2,3,4,5,6],[6,7])])
def impl_copyMind.B5:List Nat:=[0,1,0,0,12,28,63,127,255]
theorem impl_copyMind.tab5:rtab .any (opsOf Tryz.f70 5)=impl_copyMind.T5:=by kernel_rfl
theorem impl_copyMind.bits5:waitsOk impl_copyMind.T5.2 impl_copyMind.B5=true:=by kernel_rfl
theorem impl_copyMind.calls (k:Nat) (aa:Int) (aE:Option Addr) (aG:Nat) (ag:List Int) (aH:Option Addr) (aI:Nat) (ad:List (List Int)) (r1:Int) (r2:List Int) (r3:List (List Int)) (w:World) (bu:Kd.C (Kd.int .i64) w aE ag.length ag) (bw:ag.length≤aG) (bx:Kd.C (Kd.slice 3 (Kd.int .i64)) w aH ad.length ad) (bz:ad.length≤aI) (h:impl_copyMind.f k aa ag ad=some (r1,r2,r3)):
  Calls Tryz.prog 70 #[.agg #[.int .i64 aa,.slice aE ag.length aG,.slice aH ad.length aI]] w fun e w'=>∃ck cD:Value,e= .returned (.agg #[.int .i64 r1,ck,cD])∧Kd.R (Kd.int .i64) 3 w' w.heap.size (fun _=>True) ck r2∧Kd.S (Kd.slice 3 (Kd.int .i64)) 23 w' w.heap.size (fun k_=>some k_≠(ck:Value).ownBlock) cD r3∧Below w.heap.size w w':=by
 have ep:=Tryz.underlying26;have bg:=Asd.mk bu;have dQ:=Asd.mk bw;clear bu bw;have cl:=Asd.mk bx;have dR:=Asd.mk bz;clear bx bz;have HB:=Asd.mk (Below.refl w.heap.size w);have H:((some (([]:List Int):List Int)).bind fun az=>(if az.length+ag.length<17592186044416 then(impl_copyMind.l0 k ad (ad.length:Int) 0 aa (az++ag) ([]:List (List Int)))else(none)))=some (r1,r2,r3):=h;clear h;obtain⟨az,bh⟩:∃y_:List Int,y_=(([]:List Int)):=⟨_,rfl⟩;replace H:(if az.length+ag.length<17592186044416 then(impl_copyMind.l0 k ad (ad.length:Int) 0 aa (az++ag) ([]:List (List Int)))else(none))=some (r1,r2,r3):=by first|(rw[bh];exact H)|exact H
 have a7:=Asd.mk bh;clear bh;obtain⟨c2,H⟩:=iN H;have bA:=Asd.mk c2;clear c2;obtain⟨ak,bj⟩:∃y_:List Int,y_=(az++ag):=⟨_,rfl⟩;replace H:(impl_copyMind.l0 k ad (ad.length:Int) 0 aa ak ([]:List (List Int)))=some (r1,r2,r3):=by first|(rw[bj];exact H)|exact H
 have bk:=Asd.mk bj;clear bj;have H':=Asd.mk H;clear H;go_enter Tryz.func70,Tryz.ntmps70;try go_wp2_with (first|(refine bxA 1 #[.int .i64 aa,.slice aE ag.length aG,.slice aH ad.length aI] 26 ?_;intro aj hg w3 al hb;have o:=Asd.mk (al);have dS:=bG HB hg;replace HB:=bW HB hb;clear hb al hg)|(refine bxA 2 #[.int .i64 0,.slice none 0 0,.slice none 0 0] 26 ?_;intro aA hg w4 al hb;have J:=Asd.mk (al);have dT:=bG HB hg;replace HB:=bW HB hb;have cm:=bL o hg;have cn:=bM o hg;replace o:=bU o hb;clear hb al hg))
 replace o:=Asd.mk (bkD o.out);replace J:=Asd.mk (bkD J.out);replace HB:=Asd.mk (bwD HB.out);refine start_ (n:=9) (S:=fun w'=>w'.cell? ⟨aj,0,none⟩=some (.int .i64 aa)∧w'.cell? ⟨aj,1,none⟩=some (.slice aE ag.length aG)∧w'.cell? ⟨aj,2,none⟩=some (.slice aH ad.length aI)) (ds:=[]) Mk3_0 (by kernel_rfl) rfl rfl ⟨(bkC o.out 0).trans rfl,(bkC o.out 1).trans rfl,(bkC o.out 2).trans rfl⟩ (fun hHeld=>?_);refine with_tabW impl_copyMind.tab1 impl_copyMind.bits1 (fun aw cb=>?_);generalize w4.drew=w5 at o J HB hHeld⊢;refine pA 0 6 aw ?_ ?_ ?_ ?_ (pA 3 9 aw ?_ ?_ ?_ ?_ (tA 1 7 aw cb hHeld ?_ ?_ ?_ ?_ (tA 4 10 aw cb hHeld ?_ ?_ ?_ ?_ ?_)))
 all_goals first|(rintro w' ⟨s0,s1,s2⟩;go_simp;with_reducible rfl)|(intro w';go_simp;with_reducible rfl)|(simp only[Act.put,qA,qB,qC,i64_w,i32_w];rfl)|skip
 refine join_ (σ:=Value×Value×Nat) 1 Mk3_9 (fun s_=>[(8,s_.1),(11,s_.2.1),(3,.pointer (some ⟨s_.2.2,0,none⟩)),(12,.agg #[.int .i64 aa,s_.2.1,.slice none 0 0])]) (fun s_ w'=>(w'.cell? ⟨aj,0,none⟩=some (.int .i64 aa)∧w'.cell? ⟨aj,1,none⟩=some (.slice aE ag.length aG)∧w'.cell? ⟨aj,2,none⟩=some (.slice aH ad.length aI))∧(Kd.R (Kd.int .i64) 3 w' w.heap.size (fun _=>True) s_.2.1 ak)∧(w'.heap[aj]?=some (.cells #[.int .i64 aa,.slice aE ag.length aG,.slice aH ad.length aI] 26 (0,0)))∧(w'.heap[aA]?=some (.cells #[.int .i64 0,.slice none 0 0,.slice none 0 0] 26 (0,0)))∧(w'.heap[s_.2.2]?=some (.cells #[.int .i64 0,.slice none 0 0,.slice none 0 0] 26 (0,0)))∧(w.heap.size≤s_.2.2)∧(w.heap.size≤s_.2.2)∧(aj≠s_.2.2)∧(s_.2.2≠aj)∧(aA≠s_.2.2)∧(s_.2.2≠aA)∧(Below w.heap.size w w')) ?_ ?_;rotate_left
 ·intro hCont;refine two_ (i:=2) (j:=7) (Ni:=some 8) (Nj:=some 3) Mk3_4 #[true,true,false,true,true,false,false,true,false] rfl rfl rfl rfl (two_of aw.out (by kernel_rfl)) (by decide) (by decide) (fun K hK=>?_) (fun K hK=>?_)
  ·skip;refine Kd.R_lit_step (Kd.int .i64) _ 3 ?hg (N:=8) ?hd (xs:=([]:List Int)) (inner:=[]) (ok:=fun _=>True) (okp:=fun _=>True) ?hr ?hp (fun _ hk=>hk) trivial (Below.refl _ _) (Nat.le_refl _) (by simp) ?_;(case hd=>rfl);(case hg=>rfl);(case hr=>first|(go_simp;done)|(go_simp;rfl));(case hp=>exact(Reps.none _ _));intro aM w6 bB hb bD aQ;clear bD aQ;(first|rw[←a7.out]at bB|(simp only[Int.reduceToNat]at bB;rw[←a7.out]at bB));have ah:=Asd.mk (Kd.R_lower bB (below_size (wZ HB)));replace o:=bU o hb;replace J:=bU J hb;replace HB:=bW HB hb;clear hb bB;refine hK.out _ _ ⟨(bkC o.out 0).trans rfl,(bkC o.out 1).trans rfl,(bkC o.out 2).trans rfl⟩ (fun hHeld=>?_);clear hK K;refine norm_ (a':=?_) ?_ ?_;rotate_left
   ·show Act.put _ (some 8) _=_
    simp only[Act.put,qA,qB,qC,i64_w,i32_w];rfl
   refine two_ (i:=5) (j:=7) (Ni:=some 11) (Nj:=some 3) Mk3_6 Mk3_5 rfl rfl rfl rfl (two_of aw.out (by kernel_rfl)) (by decide) (by decide) (fun K hK=>?_) (fun K hK=>?_)
   ·skip;refine Kd.R_append_rows_step (Kd.int .i64) (w0:=w) w.heap.size (by rfl) (.tmp 8) (.tmp 10) 23 3 (.int .i64 0) 8 rfl Tryz.underlying23 info3 rfl (by decide) (by omega) aM az ag _ _ _ (fun _=>True) (fun _=>False) rfl rfl ?aO ?aR (fun _ _ h=>h) (fun _ h=>h.elim) ?aF ?aB ?aS ?aL ?_;(case aR=>repeat(first|exact(Kd.C_below bg.out HB.out)|(with_reducible refine Kd.C_alloc ?_ _)|(with_reducible refine Kd.C_drewN ?_ _)|(with_reducible refine Kd.C_drew ?_)));(case aB=>exact(wZ HB));(case aF=>exact(fun _ _=>trivial));(case aO=>exact(rS ah));(case aS=>exact(below_size (wZ HB)));(case aL=>have:=bA.out;omega);intro bp w8 ho hb hg aT
    rw[←bk.out]at ho;replace o:=bN o hg (Kd.R_ne ah.out o.out (by decide));replace J:=bN J hg (Kd.R_ne ah.out J.out (by decide));replace HB:=Asd.mk (hb);have aq:=Asd.mk (ho);clear ah ho hb hg aT
    obtain⟨dU,dV,cE⟩:=Kd.R_slice aq.out;(first|subst cE|(injection cE with f1_ f2_ f3_;have aU:=f1_.symm;have aV:=f3_.symm;clear f1_ f2_ f3_;subst aU;subst aV));refine hK.out _ _ ⟨(bkC o.out 0).trans rfl,(bkC o.out 1).trans rfl,(bkC o.out 2).trans rfl⟩ (fun hHeld=>?_);clear hK K;refine norm_ (a':=?_) ?_ ?_;rotate_left
    ·show Act.put _ (some 11) _=_
     simp only[Act.put,qA,qB,qC,i64_w,i32_w];rfl
    refine pA 6 12 aw ?_ ?_ ?_ ?_ ?_
    all_goals first|(intro w';go_simp;with_reducible rfl)|(simp only[Act.put,qA,qB,qC,i64_w,i32_w];rfl)|skip
    refine oA 7 (some 3) aw (fun K hK=>?_);refine box_step ?hg (N:=3) ?hd (cs:= #[.int .i64 0,.slice none 0 0,.slice none 0 0]) (t:=26) ?hr ?_;(case hd=>rfl);(case hg=>rfl);(case hr=>first|(go_simp;done)|(go_simp;rfl));intro ai hg eC al hb;replace aq:=bR aq hb;have I:=Asd.mk (al);have aJ:=bG HB hg;have aK:=bG HB hg;replace HB:=bW HB hb;have ab:=bL o hg;have ar:=bM o hg;replace o:=bU o hb;have au:=bL J hg;have av:=bM J hg;replace J:=bU J hb;clear hb al hg;refine hK.out _ _ ⟨(bkC o.out 0).trans rfl,(bkC o.out 1).trans rfl,(bkC o.out 2).trans rfl⟩ (fun hHeld=>?_);clear hK K;refine norm_ (a':=?_) ?_ ?_;rotate_left
    ·show Act.put _ (some 3) _=_
     simp only[Act.put,qA,qB,qC,i64_w,i32_w];rfl
    exact norm_ (by simp only[putAll,Act.put,qA,qB,qC]) (hCont (aM,.slice dU ak.length dV,ai) _ ⟨hHeld,(rS aq),(kS o),(kS J),(kS I),aJ.out,aK.out,ab.out,ar.out,au.out,av.out,(wZ HB)⟩)
   ·skip;refine box_step ?hg (N:=3) ?hd (cs:= #[.int .i64 0,.slice none 0 0,.slice none 0 0]) (t:=26) ?hr ?_;(case hd=>rfl);(case hg=>rfl);(case hr=>first|(go_simp;done)|(go_simp;rfl));intro ai hg w8 al hb;replace ah:=bR ah hb;have I:=Asd.mk (al);have aJ:=bG HB hg;have aK:=bG HB hg;replace HB:=bW HB hb;have ab:=bL o hg;have ar:=bM o hg;replace o:=bU o hb;have au:=bL J hg;have av:=bM J hg;replace J:=bU J hb;clear hb al hg;refine hK.out _ _ ⟨(bkC o.out 0).trans rfl,(bkC o.out 1).trans rfl,(bkC o.out 2).trans rfl⟩ (fun hHeld=>?_);clear hK K;refine norm_ (a':=?_) ?_ ?_;rotate_left
    ·show Act.put _ (some 3) _=_
     simp only[Act.put,qA,qB,qC,i64_w,i32_w];rfl
    refine oA 5 (some 11) aw (fun K hK=>?_);refine Kd.R_append_rows_step (Kd.int .i64) (w0:=w) w.heap.size (by rfl) (.tmp 8) (.tmp 10) 23 3 (.int .i64 0) 8 rfl Tryz.underlying23 info3 rfl (by decide) (by omega) aM az ag _ _ _ (fun _=>True) (fun _=>False) rfl rfl ?aO ?aR (fun _ _ h=>h) (fun _ h=>h.elim) ?aF ?aB ?aS ?aL ?_;(case aR=>repeat(first|exact(Kd.C_below bg.out HB.out)|(with_reducible refine Kd.C_alloc ?_ _)|(with_reducible refine Kd.C_drewN ?_ _)|(with_reducible refine Kd.C_drew ?_)));(case aB=>exact(wZ HB));(case aF=>exact(fun _ _=>trivial));(case aO=>exact(rS ah));(case aS=>exact(below_size (wZ HB)));(case aL=>have:=bA.out;omega);intro bp w9 ho hb hg aT
    rw[←bk.out]at ho;replace o:=bN o hg (Kd.R_ne ah.out o.out (by decide));replace J:=bN J hg (Kd.R_ne ah.out J.out (by decide));replace I:=bN I hg (Kd.R_ne ah.out I.out (by decide));replace HB:=Asd.mk (hb);have aq:=Asd.mk (ho);clear ah ho hb hg aT
    obtain⟨bF,bH,ba⟩:=Kd.R_slice aq.out;(first|subst ba|(injection ba with f1_ f2_ f3_;have aU:=f1_.symm;have aV:=f3_.symm;clear f1_ f2_ f3_;subst aU;subst aV));refine hK.out _ _ ⟨(bkC o.out 0).trans rfl,(bkC o.out 1).trans rfl,(bkC o.out 2).trans rfl⟩ (fun hHeld=>?_);clear hK K;refine norm_ (a':=?_) ?_ ?_;rotate_left
    ·show Act.put _ (some 11) _=_
     simp only[Act.put,qA,qB,qC,i64_w,i32_w];rfl
    refine pA 6 12 aw ?_ ?_ ?_ ?_ ?_
    all_goals first|(intro w';go_simp;with_reducible rfl)|(simp only[Act.put,qA,qB,qC,i64_w,i32_w];rfl)|skip
    exact norm_ (by simp only[putAll,Act.put,qA,qB,qC]) (hCont (aM,.slice bF ak.length bH,ai) _ ⟨hHeld,(rS aq),(kS o),(kS J),(kS I),aJ.out,aK.out,ab.out,ar.out,au.out,av.out,(wZ HB)⟩)
  ·skip;refine box_step ?hg (N:=3) ?hd (cs:= #[.int .i64 0,.slice none 0 0,.slice none 0 0]) (t:=26) ?hr ?_;(case hd=>rfl);(case hg=>rfl);(case hr=>first|(go_simp;done)|(go_simp;rfl));intro ai hg w6 al hb;have I:=Asd.mk (al);have aJ:=bG HB hg;have aK:=bG HB hg;replace HB:=bW HB hb;have ab:=bL o hg;have ar:=bM o hg;replace o:=bU o hb;have au:=bL J hg;have av:=bM J hg;replace J:=bU J hb;clear hb al hg;refine hK.out _ _ ⟨(bkC o.out 0).trans rfl,(bkC o.out 1).trans rfl,(bkC o.out 2).trans rfl⟩ (fun hHeld=>?_);clear hK K;refine norm_ (a':=?_) ?_ ?_;rotate_left
   ·show Act.put _ (some 3) _=_
    simp only[Act.put,qA,qB,qC,i64_w,i32_w];rfl
   refine oA 2 (some 8) aw (fun K hK=>?_);refine Kd.R_lit_step (Kd.int .i64) _ 3 ?hg (N:=8) ?hd (xs:=([]:List Int)) (inner:=[]) (ok:=fun _=>True) (okp:=fun _=>True) ?hr ?hp (fun _ hk=>hk) trivial (Below.refl _ _) (Nat.le_refl _) (by simp) ?_;(case hd=>rfl);(case hg=>rfl);(case hr=>first|(go_simp;done)|(go_simp;rfl));(case hp=>exact(Reps.none _ _));intro aM w7 bJ hb bD aQ;clear bD aQ;(first|rw[←a7.out]at bJ|(simp only[Int.reduceToNat]at bJ;rw[←a7.out]at bJ));have ah:=Asd.mk (Kd.R_lower bJ (below_size (wZ HB)));replace o:=bU o hb;replace J:=bU J hb;replace I:=bU I hb;replace HB:=bW HB hb;clear hb bJ;refine hK.out _ _ ⟨(bkC o.out 0).trans rfl,(bkC o.out 1).trans rfl,(bkC o.out 2).trans rfl⟩ (fun hHeld=>?_);clear hK K;refine norm_ (a':=?_) ?_ ?_;rotate_left
   ·show Act.put _ (some 8) _=_
    simp only[Act.put,qA,qB,qC,i64_w,i32_w];rfl
   refine oA 5 (some 11) aw (fun K hK=>?_);refine Kd.R_append_rows_step (Kd.int .i64) (w0:=w) w.heap.size (by rfl) (.tmp 8) (.tmp 10) 23 3 (.int .i64 0) 8 rfl Tryz.underlying23 info3 rfl (by decide) (by omega) aM az ag _ _ _ (fun _=>True) (fun _=>False) rfl rfl ?aO ?aR (fun _ _ h=>h) (fun _ h=>h.elim) ?aF ?aB ?aS ?aL ?_;(case aR=>repeat(first|exact(Kd.C_below bg.out HB.out)|(with_reducible refine Kd.C_alloc ?_ _)|(with_reducible refine Kd.C_drewN ?_ _)|(with_reducible refine Kd.C_drew ?_)));(case aB=>exact(wZ HB));(case aF=>exact(fun _ _=>trivial));(case aO=>exact(rS ah));(case aS=>exact(below_size (wZ HB)));(case aL=>have:=bA.out;omega);intro bp w9 ho hb hg aT
   rw[←bk.out]at ho;replace o:=bN o hg (Kd.R_ne ah.out o.out (by decide));replace J:=bN J hg (Kd.R_ne ah.out J.out (by decide));replace I:=bN I hg (Kd.R_ne ah.out I.out (by decide));replace HB:=Asd.mk (hb);have aq:=Asd.mk (ho);clear ah ho hb hg aT
   obtain⟨bF,bH,ba⟩:=Kd.R_slice aq.out;(first|subst ba|(injection ba with f1_ f2_ f3_;have aU:=f1_.symm;have aV:=f3_.symm;clear f1_ f2_ f3_;subst aU;subst aV));refine hK.out _ _ ⟨(bkC o.out 0).trans rfl,(bkC o.out 1).trans rfl,(bkC o.out 2).trans rfl⟩ (fun hHeld=>?_);clear hK K;refine norm_ (a':=?_) ?_ ?_;rotate_left
   ·show Act.put _ (some 11) _=_
    simp only[Act.put,qA,qB,qC,i64_w,i32_w];rfl
   refine pA 6 12 aw ?_ ?_ ?_ ?_ ?_
   all_goals first|(intro w';go_simp;with_reducible rfl)|(simp only[Act.put,qA,qB,qC,i64_w,i32_w];rfl)|skip
   exact norm_ (by simp only[putAll,Act.put,qA,qB,qC]) (hCont (aM,.slice bF ak.length bH,ai) _ ⟨hHeld,(rS aq),(kS o),(kS J),(kS I),aJ.out,aK.out,ab.out,ar.out,au.out,av.out,(wZ HB)⟩)
 rintro⟨aM,bp,ai⟩ w11 ⟨hS_,h0_,h1_,h2_,h3_,h4_,h5_,h6_,h7_,h8_,h9_,h10_⟩;have aq:Asd (Kd.R (Kd.int .i64) 3 w11 w.heap.size (fun _=>True) bp ak):=⟨h0_⟩;replace o:BkA w11 aj #[.int .i64 aa,.slice aE ag.length aG,.slice aH ad.length aI] 26:=⟨h1_⟩;replace J:BkA w11 aA #[.int .i64 0,.slice none 0 0,.slice none 0 0] 26:=⟨h2_⟩;have I:BkA w11 ai #[.int .i64 0,.slice none 0 0,.slice none 0 0] 26:=⟨h3_⟩;have aJ:Asd (w.heap.size≤ai):=⟨h4_⟩;have aK:Asd (w.heap.size≤ai):=⟨h5_⟩;have ab:Asd (aj≠ai):=⟨h6_⟩;have ar:Asd (ai≠aj):=⟨h7_⟩;have au:Asd (aA≠ai):=⟨h8_⟩;have av:Asd (ai≠aA):=⟨h9_⟩;replace HB:Asd (Below w.heap.size w w11):=⟨h10_⟩;clear h0_ h1_ h2_ h3_ h4_ h5_ h6_ h7_ h8_ h9_ h10_;have hHeld:w11.cell? ⟨aj,0,none⟩=some (.int .i64 aa)∧w11.cell? ⟨aj,1,none⟩=some (.slice aE ag.length aG)∧w11.cell? ⟨aj,2,none⟩=some (.slice aH ad.length aI):=hS_;obtain⟨aC,aD,cd⟩:=Kd.R_slice aq.out;(first|subst cd|(injection cd with f1_ f2_ f3_;have aU:=f1_.symm;have aV:=f3_.symm;clear f1_ f2_ f3_;subst aU;subst aV));refine norm_ (a':=?_) ?_ ?_;rotate_left
 ·simp only[putAll,Act.put,qA,qB,qC];rfl
 refine oA 8 (none) aw (fun K hK=>?_);have er:=bC I 0;have dW:=bkF I.out 0;have et:=bC I 1;have dX:=bkF I.out 1;have eu:=bC I 2;have dY:=bkF I.out 2;refine skip_ (w1:=?_) (by rfl) rfl ?_ ?_;rotate_left
 ·go_simp;rfl
 refine hK.out _ _ ⟨((cfN ab).trans (((cfN ab).trans (((cfN ab).trans (hHeld.1)))))),((cfN ab).trans (((cfN ab).trans (((cfN ab).trans (hHeld.2.1)))))),((cfN ab).trans (((cfN ab).trans (((cfN ab).trans (hHeld.2.2))))))⟩ (fun hHeld=>?_);clear hK K;refine done_ (done_of aw.out (by kernel_rfl)) ?_;obtain⟨bO,bT,cF,bV,bZ,cG⟩:=b3 o;try go_wp2
 go_loopg [16] k (fun kq dZ w'=>∃(an:Int) (af:List (List Int)) (ax:Value),dZ= .int .i64 an∧Asd (impl_copyMind.l0 kq ad (ad.length:Int) an aa ak af=some (r1,r2,r3))∧Asd (kq≤k)∧Asd (Kd.R (Kd.int .i64) 3 w' w.heap.size (fun _=>True) (.slice aC ak.length aD) ak)∧Asd (Kd.S (Kd.slice 3 (Kd.int .i64)) 23 w' w.heap.size (fun k_=>some k_≠((.slice aC ak.length aD):Value).ownBlock) ax af)∧Asd (w'.heap[aj]?=some (.cells #[.int .i64 aa,(.slice aE ag.length aG),(.slice aH ad.length aI)] 26 (0,0)))∧Asd (w'.heap[aA]?=some (.cells #[.int .i64 0,(.slice none 0 0),(.slice none 0 0)] 26 (0,0)))∧Asd (w'.heap[ai]?=some (.cells #[.int .i64 aa,(.slice aC ak.length aD),ax] 26 (0,0)))∧Asd (Below w.heap.size w w'))
 case atStart=>exact⟨(0),(([]:List (List Int))),(.slice none 0 0),(by first|rfl|(simp;done)|(simp[*];done)),H',⟨Nat.le_refl _⟩,⟨rT aq⟩,⟨by first|exact Kd.S_nil _ _ _ _ _|exact Kd.N_nil _ _ _ _ _|exact Kd.V_nil _ _ _ _ _|exact Kd.Q_nil _ _ _ _ _|exact Kd.R_nil _ _ _ _ _⟩,⟨kS o⟩,⟨kS J⟩,⟨kP I⟩,⟨wZ HB⟩⟩
 case round=>
  clear H';obtain⟨an,af,ax,rfl,HA,b0,HO_143001,HO_143002,o,J,I,HB⟩:=hrel;cases gk with
  |zero=>exact absurd HA.out (by simp[impl_copyMind.l0])
  |succ k1=>
   have H:=HA.out;clear HA;simp only[impl_copyMind.l0]at H;rcases iT H with⟨b1,H⟩|⟨b1,H⟩
   ·have cp:=decide_eq_true b1;clear b1;obtain⟨cH,H⟩:=iN H;have ea:=decide_eq_true cH;clear cH;obtain⟨cI,H⟩:=iN H;have eb:=decide_eq_true cI;clear cI;obtain⟨aN,bl⟩:∃y_:List Int,y_=(([]:List Int)):=⟨_,rfl⟩;replace H:(if aN.length+(rd_L1 ad an).length<17592186044416 then(if af.length<5864062014805 then(impl_copyMind.l0 k1 ad (ad.length:Int) (wrap64 (an+1)) aa ak (af++ [(aN++(rd_L1 ad an))]))else(none))else(none))=some (r1,r2,r3):=by first|(rw[bl];exact H)|exact H
    have b4:=Asd.mk bl;clear bl;obtain⟨cJ,H⟩:=iN H;have cq:=Asd.mk cJ;clear cJ;obtain⟨bb,bn⟩:∃y_:List Int,y_=(aN++(rd_L1 ad an)):=⟨_,rfl⟩;replace H:(if af.length<5864062014805 then(impl_copyMind.l0 k1 ad (ad.length:Int) (wrap64 (an+1)) aa ak (af++ [bb]))else(none))=some (r1,r2,r3):=by first|(rw[bn];exact H)|exact H
    have cr:=Asd.mk bn;clear bn;obtain⟨cK,H⟩:=iN H;have ct:=Asd.mk cK;clear cK;obtain⟨b5,bo⟩:∃y_:List (List Int),y_=(af++ [bb]):=⟨_,rfl⟩;replace H:(impl_copyMind.l0 k1 ad (ad.length:Int) (wrap64 (an+1)) aa ak b5)=some (r1,r2,r3):=by first|(rw[bo];exact H)|exact H
    have cu:=Asd.mk bo;clear bo;have H':=Asd.mk H;clear H;have b6:0≤(an:Int):=odt;have b7:an<(ad.length:Int):=odt;obtain⟨ec,dC,dD,cL,aW,bc,bd⟩:=at_L1 cl.out an b6 b7;cases cL;replace aW:=(HB.out.cell (World.block_lt_of_cell? w _ aW)).trans aW;have b8:=Asd.mk bd;have cM:=Asd.mk bc;clear bd bc;replace b6:=eq_true b6;replace b7:=eq_true b7;try go_wp2
    replace HO_143001:=Asd.mk (Kd.R_drew HO_143001.out);replace HO_143002:=Asd.mk (Kd.S_drew HO_143002.out);replace o:=Asd.mk (bkD o.out);replace J:=Asd.mk (bkD J.out);replace I:=Asd.mk (bkD I.out);replace HB:=Asd.mk (bwD HB.out);refine start_ (n:=9) (S:=fun w'=>w'.cell? ⟨ai,0,none⟩=some (.int .i64 aa)∧w'.cell? ⟨ai,1,none⟩=some (.slice aC ak.length aD)∧w'.cell? ⟨ai,2,none⟩=some (ax)) (ds:=[8]) Mk3_0 (by kernel_rfl) rfl rfl ⟨(bkC I.out 0).trans rfl,(bkC I.out 1).trans rfl,(bkC I.out 2).trans rfl⟩ (fun hHeld=>?_);refine with_tabW impl_copyMind.tab5 impl_copyMind.bits5 (fun aw cb=>?_);generalize wr.drew=eD at HO_143001 HO_143002 o J I HB hHeld⊢;refine pA 0 20 aw ?_ ?_ ?_ ?_ (pA 3 23 aw ?_ ?_ ?_ ?_ (tA 1 21 aw cb hHeld ?_ ?_ ?_ ?_ ?_))
    all_goals first|(rintro w' ⟨s0,s1,s2⟩;go_simp;with_reducible rfl)|(intro w';go_simp;with_reducible rfl)|(simp only[Act.put,qA,qB,qC,i64_w,i32_w];rfl)|skip
    refine oA 2 (some 22) aw (fun K hK=>?_);refine Kd.R_lit_step (Kd.int .i64) _ 3 ?hg (N:=22) ?hd (xs:=([]:List Int)) (inner:=[]) (ok:=fun _=>True) (okp:=fun _=>True) ?hr ?hp (fun _ hk=>hk) trivial (Below.refl _ _) (Nat.le_refl _) (by simp) ?_;(case hd=>rfl);(case hg=>rfl);(case hr=>first|(go_simp;done)|(go_simp;rfl));(case hp=>exact(Reps.none _ _));intro v145 eE aY hb bD aQ;clear bD aQ;(first|rw[←b4.out]at aY|(simp only[Int.reduceToNat]at aY;rw[←b4.out]at aY));replace HO_143002:=Asd.mk (Kd.S_elder' (sS HO_143002) (Kd.R_base aY) hb);have aZ:=Asd.mk (Kd.R_lower (Kd.R_new' aY (Kd.R_lt (rS HO_143001))) (below_size (wZ HB)));replace HO_143001:=Asd.mk (Kd.R_elder' (rS HO_143001) (Kd.R_base aY) hb);replace o:=bU o hb;replace J:=bU J hb;replace I:=bU I hb;replace HB:=bW HB hb;clear hb aY;refine hK.out _ _ ⟨(bkC I.out 0).trans rfl,(bkC I.out 1).trans rfl,(bkC I.out 2).trans rfl⟩ (fun hHeld=>?_);clear hK K;refine norm_ (a':=?_) ?_ ?_;rotate_left
    ·show Act.put _ (some 22) _=_
     simp only[Act.put,qA,qB,qC,i64_w,i32_w];rfl
    refine oA 4 (some 24) aw (fun K hK=>?_);refine Kd.R_append_rows_step (Kd.int .i64) (w0:=w) w.heap.size (by rfl) (.tmp 22) (.tmp 23) 23 3 (.int .i64 0) 8 rfl Tryz.underlying23 info3 rfl (by decide) (by omega) v145 aN (rd_L1 ad an) _ _ _ (fun k_=>some k_≠(.slice aC ak.length aD:Value).ownBlock) (fun _=>False) rfl rfl ?aO ?aR (fun _ _ h=>h) (fun _ h=>h.elim) ?aF ?aB ?aS ?aL ?_;(case aR=>repeat(first|exact(Kd.C_below b8.out HB.out)|(with_reducible refine Kd.C_alloc ?_ _)|(with_reducible refine Kd.C_drewN ?_ _)|(with_reducible refine Kd.C_drew ?_)));(case aB=>exact(wZ HB));(case aF=>exact(fun k_ hk=>Kd.fresh' (Kd.R_lt (rS HO_143001)) k_ hk));(case aO=>exact(by(repeat apply Kd.RS);exact Kd.R_mono aZ.out (fun _ hk=>hk.2)));(case aS=>exact(below_size (wZ HB)));(case aL=>have:=cq.out;omega);intro v148 eF ho hb hg aT
    rw[←cr.out]at ho;replace HO_143001:=Asd.mk (Kd.R_after (ok:=(fun _=>True)) (rS HO_143001) hg aT);replace HO_143002:=Asd.mk (Kd.S_after (ok:=(fun k_=>some k_≠(.slice aC ak.length aD:Value).ownBlock)) (sS HO_143002) hg aT);replace o:=bN o hg (Kd.R_ne aZ.out o.out (by decide));replace J:=bN J hg (Kd.R_ne aZ.out J.out (by decide));replace I:=bN I hg (Kd.R_ne aZ.out I.out (by decide));replace HB:=Asd.mk (hb);have a8:=Asd.mk (ho);clear aZ ho hb hg aT
    obtain⟨cf,cg,ch⟩:=Kd.R_slice a8.out;(first|subst ch|(injection ch with f1_ f2_ f3_;have aU:=f1_.symm;have aV:=f3_.symm;clear f1_ f2_ f3_;subst aU;subst aV));refine hK.out _ _ ⟨(bkC I.out 0).trans rfl,(bkC I.out 1).trans rfl,(bkC I.out 2).trans rfl⟩ (fun hHeld=>?_);clear hK K;refine norm_ (a':=?_) ?_ ?_;rotate_left
    ·show Act.put _ (some 24) _=_
     simp only[Act.put,qA,qB,qC,i64_w,i32_w];rfl
    refine oA 5 (some 25) aw (fun K hK=>?_);refine value_ (w1:=?_) (v:=?_) (by rfl) rfl ?_ ?_;rotate_left 2
    ·go_simp;constructor
     ·rfl
     ·rfl
    refine hK.out _ _ ⟨(bkC (bkA I.out _) 0).trans rfl,(bkC (bkA I.out _) 1).trans rfl,(bkC (bkA I.out _) 2).trans rfl⟩ (fun hHeld=>?_);clear hK K;refine norm_ (a':=?_) ?_ ?_;rotate_left
    ·show Act.put _ (some 25) _=_
     simp only[Act.put,qA,qB,qC,i64_w,i32_w];rfl
    refine oA 6 (some 26) aw (fun K hK=>?_);refine Kd.S_append_step (Kd.slice 3 (Kd.int .i64)) (w0:=w) w.heap.size (by rfl) (.tmp 21) (.tmp 25) 24 23 (.slice none 0 0) 24 rfl Tryz.underlying24 info23 rfl (by decide) (by omega) ax af bb [.slice cf bb.length cg] (fun k_=>some k_≠(.slice aC ak.length aD:Value).ownBlock) (fun k_=>some k_=(.slice cf bb.length cg:Value).ownBlock) rfl rfl ?aP (fun k_ ed=>((Kd.R_mono (ok':=fun k_=>((fun k_=>some k_≠(.slice aC ak.length aD:Value).ownBlock)) k_∧some k_≠(ax:Value).ownBlock) (Kd.R_apart' (a8.out) (Kd.S_typed HO_143002.out) (by decide)) (fun k_ hk=>⟨hk.1,hk.2⟩))).1 k_ ed.symm) ?aF ?aO ?aB ?aS ?aL ?_;(case aP=>exact Kd.M_row (Kd.R_mono (Kd.R_tight rfl (Kd.R_mono (ok':=fun k_=>((fun k_=>some k_≠(.slice aC ak.length aD:Value).ownBlock)) k_∧some k_≠(ax:Value).ownBlock) (Kd.R_apart' (a8.out) (Kd.S_typed HO_143002.out) (by decide)) (fun k_ hk=>⟨hk.1,hk.2⟩))) (fun _ h_=>h_)));(case aB=>exact(wZ HB));(case aF=>exact(fun k_ hk=>Kd.fresh' (Kd.R_lt (rS HO_143001)) k_ hk));(case aO=>exact(by(repeat apply Kd.SS);exact Kd.S_mono HO_143002.out (fun k_ hk=>⟨hk.1,fun e_=>hk.2 e_⟩)));(case aS=>exact(below_size (wZ HB)));(case aL=>have:=ct.out;omega);intro ev eG ho hb hg aT
    rw[←cu.out]at ho;replace HO_143001:=Asd.mk (Kd.R_over' (rS HO_143001) (Kd.S_typed (sS HO_143002)) (by decide) hg);replace o:=bN o hg (Kd.S_ne HO_143002.out o.out (by decide));replace J:=bN J hg (Kd.S_ne HO_143002.out J.out (by decide));replace I:=bN I hg (Kd.S_ne HO_143002.out I.out (by decide));replace HB:=Asd.mk (hb);have b9:=Asd.mk (ho);clear HO_143002 a8 ho hb hg aT
    obtain⟨cN,cO,cj⟩:=Kd.S_slice b9.out;(first|subst cj|(injection cj with f1_ f2_ f3_;have aU:=f1_.symm;have aV:=f3_.symm;clear f1_ f2_ f3_;subst aU;subst aV));refine hK.out _ _ ⟨(bkC I.out 0).trans rfl,(bkC I.out 1).trans rfl,(bkC I.out 2).trans rfl⟩ (fun hHeld=>?_);clear hK K;refine norm_ (a':=?_) ?_ ?_;rotate_left
    ·show Act.put _ (some 26) _=_
     simp only[Act.put,qA,qB,qC,i64_w,i32_w];rfl
    refine pA 7 27 aw ?_ ?_ ?_ ?_ ?_
    all_goals first|(intro w';go_simp;with_reducible rfl)|(simp only[Act.put,qA,qB,qC,i64_w,i32_w];rfl)|skip
    refine last_ (i:=8) (N:=none) Mk3_10 rfl rfl (one_of aw.out (by kernel_rfl)) (by decide) (fun K hK=>?_);have ew:=bC I 2;have ee:=bkF I.out 2;refine skip_ (w1:=?_) (by rfl) rfl ?_ ?_;rotate_left
    ·go_simp;rfl
    refine hK.out _ _ ?_;clear hK K;refine done_ (done_of aw.out (by kernel_rfl)) ?_;try go_wp2
    go_roundg k1
    case measure=>have:=b0.out;omega
    case rel=>exact⟨(wrap64 (an+1)),(b5),(.slice cN b5.length cO),(by first|rfl|(simp;done)|(simp[*];done)),H',⟨by have:=b0.out;omega⟩,⟨rT HO_143001⟩,⟨sT b9⟩,⟨kS o⟩,⟨kS J⟩,⟨kP I⟩,⟨wZ HB⟩⟩
   ·have cp:=decide_eq_false b1;clear b1;obtain⟨rfl,rfl,rfl⟩:=s3 H;obtain⟨cP,cQ,cR,cS,cT,cU⟩:=b3 I;obtain⟨cV,cW,cX,da,db,dc⟩:=b3 J;obtain⟨dd,de,df⟩:=Kd.S_slice HO_143002.out;subst df;go_wp2;refine bodyPost_ret (results_cell_row rfl _ _ aA 26 #[.int .i64 aa,.slice aC ak.length aD,.slice dd af.length de] (0,0) _ rfl (kP J) Tryz.underlying26 rfl (by kernel_rfl)) rfl ?_;exact⟨_,_,by first|rfl|(simp[*,errW_none,errW_some]<;>rfl),rT HO_143001,sT HO_143002,wZ HB⟩
def stringslite_IndexByte.f (s:ByteArray) (c:Int):Option Int:=some (Lib.indexByte s.data.toList c.toNat.toUInt8)
theorem stringslite_IndexByte.calls (s:ByteArray) (c:Int) (r:Int) (w:World) (h:stringslite_IndexByte.f s c=some r):
  Calls Tryz.prog 157 #[.string s,.int .u8 c] w fun e w'=>e= .returned (.int .i64 r)∧Drawn0 w w':=by
 obtain rfl:=Option.some.inj h;clear h;go_enter Tryz.func157,Tryz.ntmps157;go_wp2;rw[run_callFunc_extern Tryz.func168 (by kernel_rfl) (by kernel_rfl) (by kernel_rfl) (e:=Extern.BytealgIndexByte.indexByte) (by kernel_rfl),Lib.run_indexByteString];simp only[Result.andThen];rw[Oper.upon_value];go_wp2;go_ret;exact⟨rfl,Drawn0.refl _⟩
def stringslite_Index.f (s sub:ByteArray):Option Int:=if sub.size=1 then(if s.size<9223372036854775807 then(if(sub.toList==s.toList)=true then some 0 else stringslite_IndexByte.f s (bt sub 0))else none)else none
theorem stringslite_Index.calls (s sub:ByteArray) (r:Int) (w:World) (h:stringslite_Index.f s sub=some r):
  Calls Tryz.prog 143 #[.string s,.string sub] w fun e w'=>e= .returned (.int .i64 r)∧Drawn0 w w':=by
 unfold stringslite_Index.f at h;by_cases h1:sub.size=1
 ·rw[if_pos h1]at h;by_cases h2:s.size<9223372036854775807
  ·rw[if_pos h2]at h;have eH:((sub.size:Int)==0)=false:=by rw[h1];rfl
   have eI:((sub.size:Int)==1)=true:=by rw[h1];rfl
   have eJ:decide (0<sub.size)=true:=decide_eq_true (by omega);have ef:(0:Int)<(sub.size:Int):=by omega
   have eK:decide ((0:Int)<(sub.size:Int))=true:=decide_eq_true ef;by_cases h3:(sub.toList==s.toList)=true
   ·rw[if_pos h3]at h;obtain rfl:=Option.some.inj h;clear h h1 h2;go_enter Tryz.func143,Tryz.ntmps143;go_wp2;go_ret;exact⟨rfl,Drawn0.refl _⟩
   ·rw[if_neg h3]at h;have HI:=Asd.mk (fun(hh:0<sub.size) W=>stringslite_IndexByte.calls s ((sub[0]'hh).toNat:Int) r W (by rw[show((sub[0]'hh).toNat:Int)=bt sub 0 from bt_at sub 0 hh];exact h));have h4:(sub.toList==s.toList)=false:=Bool.eq_false_iff.mpr h3;clear h h1 h2 h3;go_enter Tryz.func143,Tryz.ntmps143;go_wp2_with fail;refine(HI.out _ _).mono ?_;rintro e w1 ⟨rfl,⟨n,rfl⟩⟩;go_wp2;go_ret;exact⟨rfl,⟨⟨n,rfl⟩⟩⟩
  ·rw[if_neg h2]at h;cases h
 ·rw[if_neg h1]at h;cases h
def stringslite_Cut.f (s sep:ByteArray):Option (ByteArray×ByteArray×Bool):=(stringslite_Index.f s sep).bind fun i=>if i<0 then some (s,(⟨#[]⟩:ByteArray),false)else if i.toNat+sep.size≤s.size then some (s.extract 0 i.toNat,s.extract (i.toNat+sep.size) s.size,true)else none
theorem stringslite_Cut.calls (s sep:ByteArray) (r1 r2:ByteArray) (r3:Bool) (w:World) (h:stringslite_Cut.f s sep=some (r1,r2,r3)):
  Calls Tryz.prog 120 #[.string s,.string sep] w fun e w'=>e= .returned (.tuple #[.string r1,.string r2,.bool r3])∧Drawn0 w w':=by
 unfold stringslite_Cut.f at h;obtain⟨i,hi,h⟩:=Option.bind_eq_some_iff.mp h;by_cases h0:i<0
 ·rw[if_pos h0]at h;obtain⟨rfl,rfl,rfl⟩:s=r1∧(⟨#[]⟩:ByteArray)=r2∧false=r3:=by simpa using h
  have HI:=Asd.mk (fun W=>stringslite_Index.calls s sep i W hi);have c1:decide (0≤i)=false:=decide_eq_false (by omega);have c2:decide (i<0)=true:=decide_eq_true h0;clear h hi h0;go_enter Tryz.func120,Tryz.ntmps120;go_wp2_with fail;refine(HI.out _).mono ?_;rintro e w1 ⟨rfl,⟨n,rfl⟩⟩;go_wp2;go_ret3;exact⟨rfl,⟨⟨n,rfl⟩⟩⟩
 ·rw[if_neg h0]at h;by_cases h1:i.toNat+sep.size≤s.size
  ·rw[if_pos h1]at h
   have eL:s.size<9223372036854775807:=by
    unfold stringslite_Index.f at hi;split at hi
    ·split at hi
     ·assumption
     ·cases hi
    ·cases hi
   obtain⟨rfl,rfl,rfl⟩:s.extract 0 i.toNat=r1∧s.extract (i.toNat+sep.size) s.size=r2∧true=r3:=by simpa using h
   clear h;obtain⟨n,rfl⟩:=Int.eq_ofNat_of_zero_le (by omega:0≤i);rw[Int.toNat_natCast]at h1⊢;have HI:=Asd.mk (fun W=>stringslite_Index.calls s sep n W hi);have c0:(0:Int)≤(n:Int):=by omega
   have c2:(n:Int)≤(s.size:Int):=by omega
   have c3:(0:Int)≤(n:Int)+(sep.size:Int):=by omega
   have c4:(n:Int)+(sep.size:Int)≤(s.size:Int):=by omega
   have c5:(n:Int)+(sep.size:Int)<9223372036854775807:=by omega
   clear hi h0 h1;go_enter Tryz.func120,Tryz.ntmps120;go_wp2_with fail;refine(HI.out _).mono ?_;rintro e w1 ⟨rfl,⟨m,rfl⟩⟩;go_wp2;go_quiet (fail);go_wp2;go_ret3;exact⟨rfl,Drawn0.step ⟨⟨m,rfl⟩⟩ _⟩
  ·rw[if_neg h1]at h;cases h
def strings_Cut.f (s sep:ByteArray):Option (ByteArray×ByteArray×Bool):=stringslite_Cut.f s sep
theorem strings_Cut.calls (s sep:ByteArray) (r1 r2:ByteArray) (r3:Bool) (w:World) (h:strings_Cut.f s sep=some (r1,r2,r3)):
  Calls Tryz.prog 85 #[.string s,.string sep] w fun e w'=>e= .returned (.tuple #[.string r1,.string r2,.bool r3])∧Drawn0 w w':=by
 have HI:=Asd.mk (fun W=>stringslite_Cut.calls s sep r1 r2 r3 W h);clear h;go_enter Tryz.func85,Tryz.ntmps85;go_wp2_with fail;refine(HI.out _).mono ?_;rintro e w1 ⟨rfl,⟨n,rfl⟩⟩;go_wp2;go_ret3;exact⟨rfl,⟨⟨n,rfl⟩⟩⟩
def impl_isPrintable.l0:Nat→ByteArray→Int→Int→Option (Bool)
 |0,_,_,_=>none
 |k+1,x0,x5,x6=>if x6<x5 then(if 0≤x6 then(if x6<(x0.size:Int)then(if(bt x0 x6)<32 then(some false)else(if(bt x0 x6)>126 then(some false)else(impl_isPrintable.l0 k x0 x5 (wrap64 (x6+1)))))else(none))else(none))else(some true)
def impl_isPrintable.f (k:Nat) (a0:ByteArray):Option (Bool):=impl_isPrintable.l0 k a0 (a0.size:Int) 0
theorem impl_isPrintable.mono_l:∀k,(∀y0 y1 y2,MoR (impl_isPrintable.l0 k y0 y1 y2) (impl_isPrintable.l0 (k+1) y0 y1 y2))
 |0=>fun _ _ _=> .z (by simp only[impl_isPrintable.l0])
 |k+1=>by
  have i0:=impl_isPrintable.mono_l k;exact fun _ _ _=>by unfold impl_isPrintable.l0;infer_instance
instance impl_isPrintable.mo {k a0}:MoR (impl_isPrintable.f k a0) (impl_isPrintable.f (k+1) a0):=by have i0:=impl_isPrintable.mono_l k;unfold impl_isPrintable.f;infer_instance
theorem impl_isPrintable.calls (k:Nat) (a0:ByteArray) (r:Bool) (w:World) (h:impl_isPrintable.f k a0=some r):
  Calls Tryz.prog 121 #[.string a0] w fun e w'=>e= .returned (.bool r)∧Drawn0 w w':=by
 have H:(impl_isPrintable.l0 k a0 (a0.size:Int) 0)=some r:=h;clear h;have H':=Asd.mk H;clear H;go_enter Tryz.func121,Tryz.ntmps121;go_wp2;go_loopg [6] k (fun kq v6 w'=>∃(ao:Int),v6= .int .i64 ao∧Asd (impl_isPrintable.l0 kq a0 (a0.size:Int) ao=some r)∧Asd (kq≤k)∧Drawn0 w w')
 case atStart=>exact⟨(0),(by first|rfl|(simp;done)|(simp[*];done)),H',⟨Nat.le_refl _⟩,by repeat(first|exact Drawn0.refl _|apply Drawn0.step)⟩
 case round=>
  clear H';obtain⟨ao,rfl,HA,b0,⟨m1,rfl⟩⟩:=hrel;cases gk with
  |zero=>exact absurd HA.out (by simp[impl_isPrintable.l0])
  |succ k1=>
   have H:=HA.out;clear HA;simp only[impl_isPrintable.l0]at H;rcases iT H with⟨c2,H⟩|⟨c2,H⟩
   ·have bf:=decide_eq_true c2;clear c2;obtain⟨c3,H⟩:=iN H;have ey:=decide_eq_true c3;clear c3;obtain⟨c4,H⟩:=iN H;have ez:=decide_eq_true c4;clear c4;rcases iT H with⟨c6,H⟩|⟨c6,H⟩
    ·have dh:=decide_eq_true c6;clear c6;obtain rfl:=Option.some.inj H;have p5:0≤(ao:Int):=odt;have q5:ao<(a0.size:Int):=odt;have di:=bt_at a0 ao;replace p5:=eq_true p5;replace q5:=eq_true q5;go_wp2;go_ret;exact⟨by first|rfl|(simp;done)|(simp[*];done),by repeat(first|exact Drawn0.refl _|apply Drawn0.step)⟩
    ·have dh:=decide_eq_false c6;clear c6;rcases iT H with⟨c8,H⟩|⟨c8,H⟩
     ·have a6:=decide_eq_true c8;clear c8;obtain rfl:=Option.some.inj H;have p5:0≤(ao:Int):=odt;have q5:ao<(a0.size:Int):=odt;have di:=bt_at a0 ao;replace p5:=eq_true p5;replace q5:=eq_true q5;have p7:0≤(ao:Int):=odt;have q7:ao<(a0.size:Int):=odt;have eg:=bt_at a0 ao;replace p7:=eq_true p7;replace q7:=eq_true q7;go_wp2;go_ret;exact⟨by first|rfl|(simp;done)|(simp[*];done),by repeat(first|exact Drawn0.refl _|apply Drawn0.step)⟩
     ·have a6:=decide_eq_false c8;clear c8;have H':=Asd.mk H;clear H;have p5:0≤(ao:Int):=odt;have q5:ao<(a0.size:Int):=odt;have di:=bt_at a0 ao;replace p5:=eq_true p5;replace q5:=eq_true q5;have p7:0≤(ao:Int):=odt;have q7:ao<(a0.size:Int):=odt;have eg:=bt_at a0 ao;replace p7:=eq_true p7;replace q7:=eq_true q7;go_wp2;go_roundg k1
      case measure=>have:=b0.out;omega
      case rel=>exact⟨(wrap64 (ao+1)),(by first|rfl|(simp;done)|(simp[*];done)),H',⟨by have:=b0.out;omega⟩,by repeat(first|exact Drawn0.refl _|apply Drawn0.step)⟩
   ·have bf:=decide_eq_false c2;clear c2;obtain rfl:=Option.some.inj H;go_wp2;go_ret;exact⟨by first|rfl|(simp;done)|(simp[*];done),by repeat(first|exact Drawn0.refl _|apply Drawn0.step)⟩
def impl_deedText.j0:Nat→Bool→Int→ByteArray→Option (ByteArray)
 |0,_,_,_=>none
 |k+1,x7,x154000,x154001=>if x7=true then(some (⟨#[]⟩:ByteArray))else(if x154000=0 then(if 6+x154001.size≤9223372036854775807 then(some ((⟨#[102,105,114,115,116,32]⟩:ByteArray)++x154001))else(none))else(if x154000=1 then(if 4+x154001.size≤9223372036854775807 then(some ((⟨#[97,108,108,32]⟩:ByteArray)++x154001))else(none))else(some (⟨#[]⟩:ByteArray))))
def impl_deedText.f (k:Nat) (aa:Int) (ae:ByteArray):Option (ByteArray):=if(aa==2&&(ae.toList==([]:List UInt8)))=true then(some (⟨#[98,97,99,107]⟩:ByteArray))else(if ae.toList=([]:List UInt8)then(impl_deedText.j0 k true aa ae)else((impl_isPrintable.f k ae).bind fun t154=>(impl_deedText.j0 k (!t154) aa ae)))
theorem impl_deedText.mono_l:∀k,(∀y0 y1 y2,MoR (impl_deedText.j0 k y0 y1 y2) (impl_deedText.j0 (k+1) y0 y1 y2))
 |0=>fun _ _ _=> .z (by simp only[impl_deedText.j0])
 |k+1=>by
  have i0:=impl_deedText.mono_l k;exact fun _ _ _=>by unfold impl_deedText.j0;infer_instance
instance impl_deedText.mo {k a0 a1}:MoR (impl_deedText.f k a0 a1) (impl_deedText.f (k+1) a0 a1):=by have i0:=impl_deedText.mono_l k;unfold impl_deedText.f;infer_instance
theorem impl_deedText.calls (k:Nat) (aa:Int) (ae:ByteArray) (r:ByteArray) (w:World) (h:impl_deedText.f k aa ae=some r):
  Calls Tryz.prog 88 #[.agg #[.int .i64 aa,.string ae]] w fun e w'=>e= .returned (.string r)∧Below w.heap.size w w':=by
 have eA:=Tryz.underlying58;have HB:=Asd.mk (Below.refl w.heap.size w);have H:(if(aa==2&&(ae.toList==([]:List UInt8)))=true then(some (⟨#[98,97,99,107]⟩:ByteArray))else(if ae.toList=([]:List UInt8)then(impl_deedText.j0 k true aa ae)else((impl_isPrintable.f k ae).bind fun t154=>(impl_deedText.j0 k (!t154) aa ae))))=some r:=h;clear h;rcases iT H with⟨c2,H⟩|⟨c2,H⟩
 ·have bf:(aa==2&&(ae.toList==([]:List UInt8)))=true:=c2;try have dj:(aa==2&&ae.toList.isEmpty)=true:=by have h_:=bf;(repeat rw[Hof.isEmpty_beq]);exact h_
  (try(have dk:decide (aa=2&&(ae.toList==([]:List UInt8)))=true:=by simpa using c2));(try(have dm:(aa==2&&(ae.toList==([]:List UInt8)))=true:=by simpa using c2));clear c2;obtain rfl:=Option.some.inj H;go_enter Tryz.func88,Tryz.ntmps88;go_wp2_with (first|(refine bxA 1 #[.int .i64 aa,.string ae] 58 ?_;intro ca hg w3 al hb;have ay:=Asd.mk (al);have cv:=bG HB hg;replace HB:=bW HB hb;clear hb al hg;obtain⟨dE,dF,dG,dH⟩:=b2 ay));go_ret;exact⟨by first|rfl|(simp[*,errW_none,errW_some]<;>rfl),wZ HB⟩
 ·have bf:(aa==2&&(ae.toList==([]:List UInt8)))=false:=by simpa using c2
  (try have dj:(aa==2&&ae.toList.isEmpty)=false:=by have h_:=bf;(repeat rw[Hof.isEmpty_beq]);exact h_);(try(have dk:decide (aa=2&&(ae.toList==([]:List UInt8)))=false:=by simpa using c2));(try(have dm:(aa==2&&(ae.toList==([]:List UInt8)))=false:=by simpa using c2));(try(have eB:¬(aa=2&&(ae.toList==([]:List UInt8))):=by simpa using c2));clear c2;have cw:=Asd.mk H;clear H;go_enter Tryz.func88,Tryz.ntmps88;go_upto_region 3 with(first|(refine bxA 1 #[.int .i64 aa,.string ae] 58 ?_;intro ca hg w6 al hb;have ay:=Asd.mk (al);have cv:=bG HB hg;replace HB:=bW HB hb;clear hb al hg;obtain⟨dI,dJ,dK,dL⟩:=b2 ay))
  (try simp only[Act.put,qA,qB,qC]);go_cut [7] (fun v7 wc=>∃(kq:Nat) (bq:Bool),v7= .bool bq∧Asd (impl_deedText.j0 kq bq aa ae=some r)∧Asd (kq≤k)∧BkA wc ca #[.int .i64 aa,.string ae] 58∧Asd (Below w.heap.size w wc))
  case first=>
   have H:=cw.out;clear cw;rcases iT H with⟨c8,H⟩|⟨c8,H⟩
   ·have a6:(ae.toList==([]:List UInt8))=true:=beq_iff_eq.mpr c8;have dn:(ae.toList !=([]:List UInt8))=false:=bne_eq_false_iff_eq.mpr c8;clear c8;(first|rw[a6]|(simp only[i64_w,i32_w];rw[a6])|skip);have H':=Asd.mk H;clear H;obtain⟨dM,dN,dO,dP⟩:=b2 ay;go_wp2;go_meet
    case rel=>exact⟨_,(true),(by first|rfl|(simp;done)|(simp[*];done)),H',⟨by first|omega|exact Nat.le_refl _⟩,⟨kS ay⟩,⟨wZ HB⟩⟩
   ·have a6:(ae.toList==([]:List UInt8))=false:=beq_eq_false_iff_ne.mpr c8;have dn:(ae.toList !=([]:List UInt8))=true:=bne_iff_ne.mpr c8;(first|rw[a6]|(simp only[i64_w,i32_w];rw[a6])|skip);obtain⟨t154,eh,H⟩:=bE H;try dsimp only at H
    have H':=Asd.mk H;clear H;obtain⟨dp,dq,dr,dt⟩:=b2 ay;go_wp2_with (first|(go_at_call 121;(with_reducible refine(impl_isPrintable.calls k ae t154 _ eh.out).mono ?_);rintro e w' ⟨rfl,⟨nd,rfl⟩⟩));go_meet
    case rel=>exact⟨_,(!t154),(by first|rfl|(simp;done)|(simp[*];done)),H',⟨by first|omega|exact Nat.le_refl _⟩,⟨kS ay⟩,⟨wZ HB⟩⟩
  case rest=>
   clear cw;obtain⟨kq,bq,rfl,HA,eM,ay,HB⟩:=hcut;cases kq with
   |zero=>exact absurd HA.out (by simp[impl_deedText.j0])
   |succ kj4=>
    have H:=HA.out;clear HA;simp only[impl_deedText.j0]at H;by_cases cc:bq=true
    ·subst cc;rw[if_pos rfl]at H;obtain rfl:=Option.some.inj H;go_wp2;go_ret;exact⟨by first|rfl|(simp[*,errW_none,errW_some]<;>rfl),wZ HB⟩
    ·replace cc:=Bool.eq_false_iff.mpr cc;subst cc;rw[if_neg (show¬(false=true) by decide)]at H;rcases iT H with⟨br,H⟩|⟨br,H⟩
     ·have cx:(aa==0)=true:=beq_iff_eq.mpr br;have cy:(aa !=0)=false:=bne_eq_false_iff_eq.mpr br;clear br;obtain⟨cz,H⟩:=iN H;have ei:=eq_true cz;have ej:=decide_eq_true cz;try have ek:(9223372036854775807<6+ae.size)=False:=eq_false (Nat.not_lt.2 cz)
      obtain rfl:=Option.some.inj H;obtain⟨du,dv,dw,dx⟩:=b2 ay;go_wp2;go_ret;exact⟨by first|rfl|(simp[*,errW_none,errW_some]<;>rfl),wZ HB⟩
     ·have cx:(aa==0)=false:=beq_eq_false_iff_ne.mpr br;have cy:(aa !=0)=true:=bne_iff_ne.mpr br;rcases iT H with⟨bs,H⟩|⟨bs,H⟩
      ·have cA:(aa==1)=true:=beq_iff_eq.mpr bs;have cB:(aa !=1)=false:=bne_eq_false_iff_eq.mpr bs;clear bs;obtain⟨cC,H⟩:=iN H;have el:=eq_true cC;have en:=decide_eq_true cC;try have eo:(9223372036854775807<4+ae.size)=False:=eq_false (Nat.not_lt.2 cC)
       obtain rfl:=Option.some.inj H;obtain⟨bO,bT,bV,bZ⟩:=b2 ay;go_wp2;go_ret;exact⟨by first|rfl|(simp[*,errW_none,errW_some]<;>rfl),wZ HB⟩
      ·have cA:(aa==1)=false:=beq_eq_false_iff_ne.mpr bs;have cB:(aa !=1)=true:=bne_iff_ne.mpr bs;obtain rfl:=Option.some.inj H;obtain⟨dy,dz,dA,dB⟩:=b2 ay;go_wp2;go_ret;exact⟨by first|rfl|(simp[*,errW_none,errW_some]<;>rfl),wZ HB⟩
end Go.Proofs.YtihgpkohglcijaaGreatDoor.P
