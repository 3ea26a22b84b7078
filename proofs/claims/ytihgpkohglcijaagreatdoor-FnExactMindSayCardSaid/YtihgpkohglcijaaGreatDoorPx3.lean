import Derived.Test.YtihgpkohglcijaaGreatDoorPx0
import Derived.Test.YtihgpkohglcijaaGreatDoorPx1
namespace Go.Proofs.YtihgpkohglcijaaGreatDoor.P
open Go.RowKit Go.Proofs.YtihgpkohglcijaaGreatDoorW.PrintWords Go.Proofs.YtihgpkohglcijaaGreatDoorW.PrintLast Go.Proofs.YtihgpkohglcijaaGreatDoorW.PrintMore
attribute [local go_sem] max2_int min2_int max_two min_two max_three min_three max_four min_four   -- for this text's walks alone
set_option linter.unusedVariables false
set_option linter.unusedSimpArgs false

attribute [local go_sem high] Ca
set_option maxHeartbeats 8000000
set_option maxRecDepth 100000
abbrev Fk:Array Bool:= #[false,false,false,false,false,false,false,false,false]
abbrev He:Array Bool:= #[true,true,true,true,true,false,false,false,false]
abbrev Hf:Array Bool:= #[true,true,true,true,true,false,false,true,false]
abbrev Hg:Array Bool:= #[true,true,true,true,true,true,false,false,false]
abbrev Hh:Array Bool:= #[true,true,true,true,true,true,true,true,false]
abbrev FL:Array Bool:= #[true,true,true,true,true,true,true,true,true]
def jU.l0:Nat→List (List Int)→Int→Int→Int→List Int→List (List Int)→Option (Int×List Int×(List (List Int)))
 |0,_,_,_,_,_,_=>none
 |k+1,x14,x15,x16,Cb,Cc,zZ=>if x16<x15 then(if 0≤x16 then(if x16<(x14.length:Int)then((some (([]:List Int):List Int)).bind fun aN=>(if aN.length+(qi x14 x16).length<17592186044416 then(if zZ.length<5864062014805 then(jU.l0 k x14 x15 (wrap64 (x16+1)) Cb Cc (zZ++ [(aN++(qi x14 x16))]))else(none))else(none)))else(none))else(none))else(some (Cb,Cc,zZ))
def jU.f (k:Nat) (aa:Int) (ag:List Int) (ad:List (List Int)):Option (Int×List Int×(List (List Int))):=(some (([]:List Int):List Int)).bind fun az=>(if az.length+ag.length<17592186044416 then(jU.l0 k ad (ad.length:Int) 0 aa (az++ag) ([]:List (List Int)))else(none))
theorem jU.jQ:∀k,(∀y0 y1 y2 y3 y4 y5,qg (jU.l0 k y0 y1 y2 y3 y4 y5) (jU.l0 (k+1) y0 y1 y2 y3 y4 y5))
 |0=>fun _ _ _ _ _ _=> .z (by simp only[jU.l0])
 |k+1=>by
  have i0:=jU.jQ k;exact fun _ _ _ _ _ _=>by unfold jU.l0;infer_instance
instance jU.mo {k a0 a1 a2}:qg (jU.f k a0 a1 a2) (jU.f (k+1) a0 a1 a2):=by have i0:=jU.jQ k;unfold jU.f;infer_instance
def jU.T1:Bool×List (List Nat×List Nat):=(true,[([],[]),([0],[0]),([],[]),([],[]),([3],[3]),([2,4],[2,4]),([1,5],[1,5]),([],[]),([7,6,5,0,1,2,3,4,5,6,7],[6,7])])
def jU.B1:List Nat:=[0,1,0,0,8,28,63,0,255]
theorem jU.Dw:rtab .any (opsOf Tryz.f70 1)=jU.T1:=by kernel_rfl
theorem jU.AM:waitsOk jU.T1.2 jU.B1=true:=by kernel_rfl
def jU.T5:Bool×List (List Nat×List Nat):=(true,[([],[]),([0],[0]),([],[]),([],[]),([2,3],[2,3]),([4],[4]),([1,5,4],[1,5]),([0,1,2,3,4,5,6],[]),([7,6,6,0,1,2,3,4,5,6],[6,7])])
def jU.B5:List Nat:=[0,1,0,0,12,28,63,127,255]
theorem jU.AO:rtab .any (opsOf Tryz.f70 5)=jU.T5:=by kernel_rfl
theorem jU.yz:waitsOk jU.T5.2 jU.B5=true:=by kernel_rfl
theorem jU.calls (k:Nat) (aa:Int) (aE:Option Addr) (aG:Nat) (ag:List Int) (aH:Option Addr) (aI:Nat) (ad:List (List Int)) (r1:Int) (r2:List Int) (r3:List (List Int)) (w:World) (bu:Kd.C (Kd.int .i64) w aE ag.length ag) (bw:ag.length≤aG) (bx:Kd.C (Kd.slice 3 (Kd.int .i64)) w aH ad.length ad) (bz:ad.length≤aI) (h:jU.f k aa ag ad=some (r1,r2,r3)):
  Calls Tryz.prog 70 #[.agg #[.int .i64 aa,.slice aE ag.length aG,.slice aH ad.length aI]] w fun e w'=>∃ck cD:Value,e= .returned (.agg #[.int .i64 r1,ck,cD])∧Kd.R (Kd.int .i64) 3 w' w.heap.size (fun _=>True) ck r2∧Kd.S (Kd.slice 3 (Kd.int .i64)) 23 w' w.heap.size (fun k_=>some k_≠(ck:Value).ownBlock) cD r3∧Below w.heap.size w w':=by
 have ep:=Tryz.underlying26;have bg:=bm bu;have dQ:=bm bw;clear bu bw;have cl:=bm bx;have dR:=bm bz;clear bx bz;have HB:=bm (Below.refl w.heap.size w);have H:=h;clear h;unfold jU.f at H;obtain⟨az,bh⟩:∃y_:List Int,y_=(([]:List Int)):=⟨_,rfl⟩;replace H:(if az.length+ag.length<17592186044416 then(jU.l0 k ad (ad.length:Int) 0 aa (az++ag) ([]:List (List Int)))else(none))=some (r1,r2,r3):=by first|(rw[bh];exact H)|exact H
 have a7:=bm bh;clear bh;obtain⟨c2,H⟩:=iN H;have bA:=bm c2;clear c2;obtain⟨ak,bj⟩:∃y_:List Int,y_=(az++ag):=⟨_,rfl⟩;rw[←bj]at H
 have bk:=bm bj;clear bj;have H':=bm H;clear H;go_enter Tryz.func70,Tryz.ntmps70;try go_wp2_with (first|(refine rz 1 #[.int .i64 aa,.slice aE ag.length aG,.slice aH ad.length aI] 26 ?_;intro aj hg w3 al hb;have o:=bm (al);have dS:=bG HB hg;replace HB:=bW HB hb;clear hb al hg)|(refine rz 2 #[.int .i64 0,.slice none 0 0,.slice none 0 0] 26 ?_;intro aA hg w4 al hb;have J:=bm (al);have dT:=bG HB hg;replace HB:=bW HB hb;have cm:=bL o hg;have cn:=bM o hg;replace o:=bU o hb;clear hb al hg))
 replace o:=bm (sI o.out);replace J:=bm (sI J.out);replace HB:=bm (xO HB.out);refine start_ (n:=9) (S:=fun w'=>w'.cell? ⟨aj,0,none⟩=some (.int .i64 aa)∧w'.cell? ⟨aj,1,none⟩=some (.slice aE ag.length aG)∧w'.cell? ⟨aj,2,none⟩=some (.slice aH ad.length aI)) (ds:=[]) Fk (by kernel_rfl) rfl rfl ⟨(oB o.out 0).trans rfl,(oB o.out 1).trans rfl,(oB o.out 2).trans rfl⟩ (fun hHeld=>?_);refine with_tabW jU.Dw jU.AM (fun aw cb=>?_);generalize w4.drew=w5 at o J HB hHeld⊢;refine pA 0 6 aw ?_ ?_ ?_ ?_ (pA 3 9 aw ?_ ?_ ?_ ?_ (tA 1 7 aw cb hHeld ?_ ?_ ?_ ?_ (tA 4 10 aw cb hHeld ?_ ?_ ?_ ?_ ?_)))
 all_goals first|(rintro w' ⟨s0,s1,s2⟩;go_simp;with_reducible rfl)|(intro w';go_simp;with_reducible rfl)|(simp only[Act.put,qA,qB,qC,i64_w,i32_w];rfl)|skip
 refine join_ (σ:=Value×Value×Nat) 1 Hh (fun s_=>[(8,s_.1),(11,s_.2.1),(3,.pointer (some ⟨s_.2.2,0,none⟩)),(12,.agg #[.int .i64 aa,s_.2.1,.slice none 0 0])]) (fun s_ w'=>(w'.cell? ⟨aj,0,none⟩=some (.int .i64 aa)∧w'.cell? ⟨aj,1,none⟩=some (.slice aE ag.length aG)∧w'.cell? ⟨aj,2,none⟩=some (.slice aH ad.length aI))∧(Kd.R (Kd.int .i64) 3 w' w.heap.size (fun _=>True) s_.2.1 ak)∧(w'.heap[aj]?=some (.cells #[.int .i64 aa,.slice aE ag.length aG,.slice aH ad.length aI] 26 (0,0)))∧(w'.heap[aA]?=some (.cells #[.int .i64 0,.slice none 0 0,.slice none 0 0] 26 (0,0)))∧(w'.heap[s_.2.2]?=some (.cells #[.int .i64 0,.slice none 0 0,.slice none 0 0] 26 (0,0)))∧(w.heap.size≤s_.2.2)∧(w.heap.size≤s_.2.2)∧(aj≠s_.2.2)∧(s_.2.2≠aj)∧(aA≠s_.2.2)∧(s_.2.2≠aA)∧(Below w.heap.size w w')) ?_ ?_;rotate_left
 ·intro wJ;refine two_ (i:=2) (j:=7) (Ni:=some 8) (Nj:=some 3) He #[true,true,false,true,true,false,false,true,false] rfl rfl rfl rfl (two_of aw.out (by kernel_rfl)) (by decide) (by decide) (fun K hK=>?_) (fun K hK=>?_)
  ·skip;refine Kd.R_lit_step (Kd.int .i64) _ 3 ?hg (N:=8) ?hd (xs:=([]:List Int)) (inner:=[]) (ok:=fun _=>True) (okp:=fun _=>True) ?hr ?hp (fun _ hk=>hk) trivial (Below.refl _ _) (Nat.le_refl _) (by simp) ?_;(case hd=>rfl);(case hg=>rfl);(case hr=>first|(go_simp;done)|(go_simp;rfl));(case hp=>exact(Reps.none _ _));intro aM w6 bB hb bD aQ;clear bD aQ;(first|rw[←a7.out]at bB|(simp only[Int.reduceToNat]at bB;rw[←a7.out]at bB));have ah:=vX bB HB;replace o:=bU o hb;replace J:=bU J hb;replace HB:=bW HB hb;clear hb bB;refine hK.out _ _ ⟨(oB o.out 0).trans rfl,(oB o.out 1).trans rfl,(oB o.out 2).trans rfl⟩ (fun hHeld=>?_);clear hK K;refine vL 8 ?_
   refine two_ (i:=5) (j:=7) (Ni:=some 11) (Nj:=some 3) Hg Hf rfl rfl rfl rfl (two_of aw.out (by kernel_rfl)) (by decide) (by decide) (fun K hK=>?_) (fun K hK=>?_)
   ·skip;refine Kd.R_append_rows_step (Kd.int .i64) (w0:=w) w.heap.size (by rfl) (.tmp 8) (.tmp 10) 23 3 (.int .i64 0) 8 rfl Tryz.underlying23 info3 rfl (by decide) (by omega) aM az ag _ _ _ (fun _=>True) (fun _=>False) rfl rfl ?aO ?aR (fun _ _ h=>h) (fun _ h=>h.elim) ?aF ?aB ?aS ?aL ?_;(case aR=>repeat(first|exact(Kd.C_below bg.out HB.out)|(with_reducible refine Kd.C_alloc ?_ _)|(with_reducible refine Kd.C_drewN ?_ _)|(with_reducible refine Kd.C_drew ?_)));(case aB=>exact(wZ HB));(case aF=>exact(fun _ _=>trivial));(case aO=>exact(rS ah));(case aS=>exact(below_size (wZ HB)));(case aL=>have:=bA.out;omega);intro bp w8 ho hb hg aT
    rw[←bk.out]at ho;replace o:=bN o hg (Kd.R_ne ah.out o.out (by decide));replace J:=bN J hg (Kd.R_ne ah.out J.out (by decide));replace HB:=bm (hb);have aq:=bm (ho);clear ah ho hb hg aT
    obtain⟨dU,dV,cE⟩:=Kd.R_slice aq.out;(first|subst cE|(injection cE with we xk wg;have aU:=we.symm;have aV:=wg.symm;clear we xk wg;subst aU;subst aV));refine hK.out _ _ ⟨(oB o.out 0).trans rfl,(oB o.out 1).trans rfl,(oB o.out 2).trans rfl⟩ (fun hHeld=>?_);clear hK K;refine vL 11 ?_
    refine pA 6 12 aw ?_ ?_ ?_ ?_ ?_
    all_goals first|(intro w';go_simp;with_reducible rfl)|(simp only[Act.put,qA,qB,qC,i64_w,i32_w];rfl)|skip
    refine oA 7 (some 3) aw (fun K hK=>?_);refine box_step ?hg (N:=3) ?hd (cs:= #[.int .i64 0,.slice none 0 0,.slice none 0 0]) (t:=26) ?hr ?_;(case hd=>rfl);(case hg=>rfl);(case hr=>first|(go_simp;done)|(go_simp;rfl));intro ai hg eC al hb;replace aq:=bR aq hb;have I:=bm (al);have aJ:=bG HB hg;have aK:=bG HB hg;replace HB:=bW HB hb;have ab:=bL o hg;have ar:=bM o hg;replace o:=bU o hb;have au:=bL J hg;have av:=bM J hg;replace J:=bU J hb;clear hb al hg;refine hK.out _ _ ⟨(oB o.out 0).trans rfl,(oB o.out 1).trans rfl,(oB o.out 2).trans rfl⟩ (fun hHeld=>?_);clear hK K;refine vL 3 ?_
    exact norm_ (by simp only[putAll,Act.put,qA,qB,qC]) (wJ (aM,.slice dU ak.length dV,ai) _ ⟨hHeld,(rS aq),(kS o),(kS J),(kS I),aJ.out,aK.out,ab.out,ar.out,au.out,av.out,(wZ HB)⟩)
   ·skip;refine box_step ?hg (N:=3) ?hd (cs:= #[.int .i64 0,.slice none 0 0,.slice none 0 0]) (t:=26) ?hr ?_;(case hd=>rfl);(case hg=>rfl);(case hr=>first|(go_simp;done)|(go_simp;rfl));intro ai hg w8 al hb;replace ah:=bR ah hb;have I:=bm (al);have aJ:=bG HB hg;have aK:=bG HB hg;replace HB:=bW HB hb;have ab:=bL o hg;have ar:=bM o hg;replace o:=bU o hb;have au:=bL J hg;have av:=bM J hg;replace J:=bU J hb;clear hb al hg;refine hK.out _ _ ⟨(oB o.out 0).trans rfl,(oB o.out 1).trans rfl,(oB o.out 2).trans rfl⟩ (fun hHeld=>?_);clear hK K;refine vL 3 ?_
    refine oA 5 (some 11) aw (fun K hK=>?_);refine Kd.R_append_rows_step (Kd.int .i64) (w0:=w) w.heap.size (by rfl) (.tmp 8) (.tmp 10) 23 3 (.int .i64 0) 8 rfl Tryz.underlying23 info3 rfl (by decide) (by omega) aM az ag _ _ _ (fun _=>True) (fun _=>False) rfl rfl ?aO ?aR (fun _ _ h=>h) (fun _ h=>h.elim) ?aF ?aB ?aS ?aL ?_;(case aR=>repeat(first|exact(Kd.C_below bg.out HB.out)|(with_reducible refine Kd.C_alloc ?_ _)|(with_reducible refine Kd.C_drewN ?_ _)|(with_reducible refine Kd.C_drew ?_)));(case aB=>exact(wZ HB));(case aF=>exact(fun _ _=>trivial));(case aO=>exact(rS ah));(case aS=>exact(below_size (wZ HB)));(case aL=>have:=bA.out;omega);intro bp w9 ho hb hg aT
    rw[←bk.out]at ho;replace o:=bN o hg (Kd.R_ne ah.out o.out (by decide));replace J:=bN J hg (Kd.R_ne ah.out J.out (by decide));replace I:=bN I hg (Kd.R_ne ah.out I.out (by decide));replace HB:=bm (hb);have aq:=bm (ho);clear ah ho hb hg aT
    obtain⟨bF,bH,ba⟩:=Kd.R_slice aq.out;(first|subst ba|(injection ba with we xk wg;have aU:=we.symm;have aV:=wg.symm;clear we xk wg;subst aU;subst aV));refine hK.out _ _ ⟨(oB o.out 0).trans rfl,(oB o.out 1).trans rfl,(oB o.out 2).trans rfl⟩ (fun hHeld=>?_);clear hK K;refine vL 11 ?_
    refine pA 6 12 aw ?_ ?_ ?_ ?_ ?_
    all_goals first|(intro w';go_simp;with_reducible rfl)|(simp only[Act.put,qA,qB,qC,i64_w,i32_w];rfl)|skip
    exact norm_ (by simp only[putAll,Act.put,qA,qB,qC]) (wJ (aM,.slice bF ak.length bH,ai) _ ⟨hHeld,(rS aq),(kS o),(kS J),(kS I),aJ.out,aK.out,ab.out,ar.out,au.out,av.out,(wZ HB)⟩)
  ·skip;refine box_step ?hg (N:=3) ?hd (cs:= #[.int .i64 0,.slice none 0 0,.slice none 0 0]) (t:=26) ?hr ?_;(case hd=>rfl);(case hg=>rfl);(case hr=>first|(go_simp;done)|(go_simp;rfl));intro ai hg w6 al hb;have I:=bm (al);have aJ:=bG HB hg;have aK:=bG HB hg;replace HB:=bW HB hb;have ab:=bL o hg;have ar:=bM o hg;replace o:=bU o hb;have au:=bL J hg;have av:=bM J hg;replace J:=bU J hb;clear hb al hg;refine hK.out _ _ ⟨(oB o.out 0).trans rfl,(oB o.out 1).trans rfl,(oB o.out 2).trans rfl⟩ (fun hHeld=>?_);clear hK K;refine vL 3 ?_
   refine oA 2 (some 8) aw (fun K hK=>?_);refine Kd.R_lit_step (Kd.int .i64) _ 3 ?hg (N:=8) ?hd (xs:=([]:List Int)) (inner:=[]) (ok:=fun _=>True) (okp:=fun _=>True) ?hr ?hp (fun _ hk=>hk) trivial (Below.refl _ _) (Nat.le_refl _) (by simp) ?_;(case hd=>rfl);(case hg=>rfl);(case hr=>first|(go_simp;done)|(go_simp;rfl));(case hp=>exact(Reps.none _ _));intro aM w7 bJ hb bD aQ;clear bD aQ;(first|rw[←a7.out]at bJ|(simp only[Int.reduceToNat]at bJ;rw[←a7.out]at bJ));have ah:=vX bJ HB;replace o:=bU o hb;replace J:=bU J hb;replace I:=bU I hb;replace HB:=bW HB hb;clear hb bJ;refine hK.out _ _ ⟨(oB o.out 0).trans rfl,(oB o.out 1).trans rfl,(oB o.out 2).trans rfl⟩ (fun hHeld=>?_);clear hK K;refine vL 8 ?_
   refine oA 5 (some 11) aw (fun K hK=>?_);refine Kd.R_append_rows_step (Kd.int .i64) (w0:=w) w.heap.size (by rfl) (.tmp 8) (.tmp 10) 23 3 (.int .i64 0) 8 rfl Tryz.underlying23 info3 rfl (by decide) (by omega) aM az ag _ _ _ (fun _=>True) (fun _=>False) rfl rfl ?aO ?aR (fun _ _ h=>h) (fun _ h=>h.elim) ?aF ?aB ?aS ?aL ?_;(case aR=>repeat(first|exact(Kd.C_below bg.out HB.out)|(with_reducible refine Kd.C_alloc ?_ _)|(with_reducible refine Kd.C_drewN ?_ _)|(with_reducible refine Kd.C_drew ?_)));(case aB=>exact(wZ HB));(case aF=>exact(fun _ _=>trivial));(case aO=>exact(rS ah));(case aS=>exact(below_size (wZ HB)));(case aL=>have:=bA.out;omega);intro bp w9 ho hb hg aT
   rw[←bk.out]at ho;replace o:=bN o hg (Kd.R_ne ah.out o.out (by decide));replace J:=bN J hg (Kd.R_ne ah.out J.out (by decide));replace I:=bN I hg (Kd.R_ne ah.out I.out (by decide));replace HB:=bm (hb);have aq:=bm (ho);clear ah ho hb hg aT
   obtain⟨bF,bH,ba⟩:=Kd.R_slice aq.out;(first|subst ba|(injection ba with we xk wg;have aU:=we.symm;have aV:=wg.symm;clear we xk wg;subst aU;subst aV));refine hK.out _ _ ⟨(oB o.out 0).trans rfl,(oB o.out 1).trans rfl,(oB o.out 2).trans rfl⟩ (fun hHeld=>?_);clear hK K;refine vL 11 ?_
   refine pA 6 12 aw ?_ ?_ ?_ ?_ ?_
   all_goals first|(intro w';go_simp;with_reducible rfl)|(simp only[Act.put,qA,qB,qC,i64_w,i32_w];rfl)|skip
   exact norm_ (by simp only[putAll,Act.put,qA,qB,qC]) (wJ (aM,.slice bF ak.length bH,ai) _ ⟨hHeld,(rS aq),(kS o),(kS J),(kS I),aJ.out,aK.out,ab.out,ar.out,au.out,av.out,(wZ HB)⟩)
 rintro⟨aM,bp,ai⟩ AP ⟨FM,Fl,Fm,Fo,Fp,Fq,Fs,Ft,Fu,Fv,Fw,AQ⟩;have aq:jX (Kd.R (Kd.int .i64) 3 AP w.heap.size (fun _=>True) bp ak):=⟨Fl⟩;replace o:rG AP aj #[.int .i64 aa,.slice aE ag.length aG,.slice aH ad.length aI] 26:=⟨Fm⟩;replace J:rG AP aA #[.int .i64 0,.slice none 0 0,.slice none 0 0] 26:=⟨Fo⟩;have I:rG AP ai #[.int .i64 0,.slice none 0 0,.slice none 0 0] 26:=⟨Fp⟩;have aJ:jX (w.heap.size≤ai):=⟨Fq⟩;have aK:jX (w.heap.size≤ai):=⟨Fs⟩;have ab:jX (aj≠ai):=⟨Ft⟩;have ar:jX (ai≠aj):=⟨Fu⟩;have au:jX (aA≠ai):=⟨Fv⟩;have av:jX (ai≠aA):=⟨Fw⟩;replace HB:jX (Below w.heap.size w AP):=⟨AQ⟩;clear Fl Fm Fo Fp Fq Fs Ft Fu Fv Fw AQ;have hHeld:AP.cell? ⟨aj,0,none⟩=some (.int .i64 aa)∧AP.cell? ⟨aj,1,none⟩=some (.slice aE ag.length aG)∧AP.cell? ⟨aj,2,none⟩=some (.slice aH ad.length aI):=FM;obtain⟨aC,aD,cd⟩:=Kd.R_slice aq.out;(first|subst cd|(injection cd with we xk wg;have aU:=we.symm;have aV:=wg.symm;clear we xk wg;subst aU;subst aV));refine norm_ (a':=?_) ?_ ?_;rotate_left
 ·simp only[putAll,Act.put,qA,qB,qC];rfl
 refine oA 8 (none) aw (fun K hK=>?_);have er:=bC I 0;have dW:=wv I.out 0;have et:=bC I 1;have dX:=wv I.out 1;have eu:=bC I 2;have dY:=wv I.out 2;refine skip_ (w1:=?_) (by rfl) rfl ?_ ?_;rotate_left
 ·go_simp;rfl
 refine hK.out _ _ ⟨((qu ab).trans (((qu ab).trans (((qu ab).trans (hHeld.1)))))),((qu ab).trans (((qu ab).trans (((qu ab).trans (hHeld.2.1)))))),((qu ab).trans (((qu ab).trans (((qu ab).trans (hHeld.2.2))))))⟩ (fun hHeld=>?_);clear hK K;refine done_ (done_of aw.out (by kernel_rfl)) ?_;obtain⟨bO,bT,cF,bV,bZ,cG⟩:=b3 o;try go_wp2
 go_loopg [16] k (fun kq dZ w'=>∃(an:Int) (af:List (List Int)) (ax:Value),dZ= .int .i64 an∧jX (jU.l0 kq ad (ad.length:Int) an aa ak af=some (r1,r2,r3))∧jX (kq≤k)∧jX (Kd.R (Kd.int .i64) 3 w' w.heap.size (fun _=>True) (.slice aC ak.length aD) ak)∧jX (Kd.S (Kd.slice 3 (Kd.int .i64)) 23 w' w.heap.size (fun k_=>some k_≠((.slice aC ak.length aD):Value).ownBlock) ax af)∧jX (w'.heap[aj]?=some (.cells #[.int .i64 aa,(.slice aE ag.length aG),(.slice aH ad.length aI)] 26 (0,0)))∧jX (w'.heap[aA]?=some (.cells #[.int .i64 0,(.slice none 0 0),(.slice none 0 0)] 26 (0,0)))∧jX (w'.heap[ai]?=some (.cells #[.int .i64 aa,(.slice aC ak.length aD),ax] 26 (0,0)))∧jX (Below w.heap.size w w'))
 case atStart=>exact⟨(0),(([]:List (List Int))),(.slice none 0 0),(by first|rfl|(simp;done)|(simp[*];done)),H',⟨Nat.le_refl _⟩,⟨rT aq⟩,⟨by first|exact Kd.S_nil _ _ _ _ _|exact Kd.N_nil _ _ _ _ _|exact Kd.V_nil _ _ _ _ _|exact Kd.Q_nil _ _ _ _ _|exact Kd.R_nil _ _ _ _ _⟩,⟨kS o⟩,⟨kS J⟩,⟨kP I⟩,⟨wZ HB⟩⟩
 case round=>
  clear H';obtain⟨an,af,ax,rfl,HA,b0,se,rJ,o,J,I,HB⟩:=hrel;cases gk with
  |zero=>exact absurd HA.out (by simp[jU.l0])
  |succ k1=>
   have H:=HA.out;clear HA;simp only[jU.l0]at H;rcases vG H with⟨cp,H⟩|⟨cp,H⟩
   ·obtain⟨ea,H⟩:=vE H;obtain⟨eb,H⟩:=vE H;obtain⟨aN,bl⟩:∃y_:List Int,y_=(([]:List Int)):=⟨_,rfl⟩;replace H:(if aN.length+(qi ad an).length<17592186044416 then(if af.length<5864062014805 then(jU.l0 k1 ad (ad.length:Int) (wrap64 (an+1)) aa ak (af++ [(aN++(qi ad an))]))else(none))else(none))=some (r1,r2,r3):=by first|(rw[bl];exact H)|exact H
    have b4:=bm bl;clear bl;obtain⟨cJ,H⟩:=iN H;have cq:=bm cJ;clear cJ;obtain⟨bb,bn⟩:∃y_:List Int,y_=(aN++(qi ad an)):=⟨_,rfl⟩;rw[←bn]at H
    have cr:=bm bn;clear bn;obtain⟨cK,H⟩:=iN H;have ct:=bm cK;clear cK;obtain⟨b5,bo⟩:∃y_:List (List Int),y_=(af++ [bb]):=⟨_,rfl⟩;rw[←bo]at H
    have cu:=bm bo;clear bo;have H':=bm H;clear H;have b6:0≤(an:Int):=pG;have b7:an<(ad.length:Int):=pG;obtain⟨ec,dC,dD,cL,aW,bc,bd⟩:=xa cl.out an b6 b7;cases cL;replace aW:=vA HB aW;have b8:=bm bd;have cM:=bm bc;clear bd bc;replace b6:=vD b6;replace b7:=vD b7;try go_wp2
    replace se:=bm (Kd.R_drew se.out);replace rJ:=bm (Kd.S_drew rJ.out);replace o:=bm (sI o.out);replace J:=bm (sI J.out);replace I:=bm (sI I.out);replace HB:=bm (xO HB.out);refine start_ (n:=9) (S:=fun w'=>w'.cell? ⟨ai,0,none⟩=some (.int .i64 aa)∧w'.cell? ⟨ai,1,none⟩=some (.slice aC ak.length aD)∧w'.cell? ⟨ai,2,none⟩=some (ax)) (ds:=[8]) Fk (by kernel_rfl) rfl rfl ⟨(oB I.out 0).trans rfl,(oB I.out 1).trans rfl,(oB I.out 2).trans rfl⟩ (fun hHeld=>?_);refine with_tabW jU.AO jU.yz (fun aw cb=>?_);generalize wr.drew=eD at se rJ o J I HB hHeld⊢;refine pA 0 20 aw ?_ ?_ ?_ ?_ (pA 3 23 aw ?_ ?_ ?_ ?_ (tA 1 21 aw cb hHeld ?_ ?_ ?_ ?_ ?_))
    all_goals first|(rintro w' ⟨s0,s1,s2⟩;go_simp;with_reducible rfl)|(intro w';go_simp;with_reducible rfl)|(simp only[Act.put,qA,qB,qC,i64_w,i32_w];rfl)|skip
    refine oA 2 (some 22) aw (fun K hK=>?_);refine Kd.R_lit_step (Kd.int .i64) _ 3 ?hg (N:=22) ?hd (xs:=([]:List Int)) (inner:=[]) (ok:=fun _=>True) (okp:=fun _=>True) ?hr ?hp (fun _ hk=>hk) trivial (Below.refl _ _) (Nat.le_refl _) (by simp) ?_;(case hd=>rfl);(case hg=>rfl);(case hr=>first|(go_simp;done)|(go_simp;rfl));(case hp=>exact(Reps.none _ _));intro v145 eE aY hb bD aQ;clear bD aQ;(first|rw[←b4.out]at aY|(simp only[Int.reduceToNat]at aY;rw[←b4.out]at aY));replace rJ:=bm (Kd.S_elder' (sS rJ) (Kd.R_base aY) hb);have aZ:=bm (Kd.R_lower (Kd.R_new' aY (Kd.R_lt (rS se))) (below_size (wZ HB)));replace se:=bm (Kd.R_elder' (rS se) (Kd.R_base aY) hb);replace o:=bU o hb;replace J:=bU J hb;replace I:=bU I hb;replace HB:=bW HB hb;clear hb aY;refine hK.out _ _ ⟨(oB I.out 0).trans rfl,(oB I.out 1).trans rfl,(oB I.out 2).trans rfl⟩ (fun hHeld=>?_);clear hK K;refine vL 22 ?_
    refine oA 4 (some 24) aw (fun K hK=>?_);refine Kd.R_append_rows_step (Kd.int .i64) (w0:=w) w.heap.size (by rfl) (.tmp 22) (.tmp 23) 23 3 (.int .i64 0) 8 rfl Tryz.underlying23 info3 rfl (by decide) (by omega) v145 aN (qi ad an) _ _ _ (fun k_=>some k_≠(.slice aC ak.length aD:Value).ownBlock) (fun _=>False) rfl rfl ?aO ?aR (fun _ _ h=>h) (fun _ h=>h.elim) ?aF ?aB ?aS ?aL ?_;(case aR=>repeat(first|exact(Kd.C_below b8.out HB.out)|(with_reducible refine Kd.C_alloc ?_ _)|(with_reducible refine Kd.C_drewN ?_ _)|(with_reducible refine Kd.C_drew ?_)));(case aB=>exact(wZ HB));(case aF=>exact(fun k_ hk=>Kd.fresh' (Kd.R_lt (rS se)) k_ hk));(case aO=>exact(by(repeat apply Kd.RS);exact Kd.R_mono aZ.out (fun _ hk=>hk.2)));(case aS=>exact(below_size (wZ HB)));(case aL=>have:=cq.out;omega);intro v148 eF ho hb hg aT
    rw[←cr.out]at ho;replace se:=bm (Kd.R_after (ok:=(fun _=>True)) (rS se) hg aT);replace rJ:=bm (Kd.S_after (ok:=(fun k_=>some k_≠(.slice aC ak.length aD:Value).ownBlock)) (sS rJ) hg aT);replace o:=bN o hg (Kd.R_ne aZ.out o.out (by decide));replace J:=bN J hg (Kd.R_ne aZ.out J.out (by decide));replace I:=bN I hg (Kd.R_ne aZ.out I.out (by decide));replace HB:=bm (hb);have a8:=bm (ho);clear aZ ho hb hg aT
    obtain⟨cf,cg,ch⟩:=Kd.R_slice a8.out;(first|subst ch|(injection ch with we xk wg;have aU:=we.symm;have aV:=wg.symm;clear we xk wg;subst aU;subst aV));refine hK.out _ _ ⟨(oB I.out 0).trans rfl,(oB I.out 1).trans rfl,(oB I.out 2).trans rfl⟩ (fun hHeld=>?_);clear hK K;refine vL 24 ?_
    refine oA 5 (some 25) aw (fun K hK=>?_);refine value_ (w1:=?_) (v:=?_) (by rfl) rfl ?_ ?_;rotate_left 2
    ·go_simp;constructor
     ·rfl
     ·rfl
    refine hK.out _ _ ⟨(oB (Ez I.out _) 0).trans rfl,(oB (Ez I.out _) 1).trans rfl,(oB (Ez I.out _) 2).trans rfl⟩ (fun hHeld=>?_);clear hK K;refine vL 25 ?_
    refine oA 6 (some 26) aw (fun K hK=>?_);refine Kd.S_append_step (Kd.slice 3 (Kd.int .i64)) (w0:=w) w.heap.size (by rfl) (.tmp 21) (.tmp 25) 24 23 (.slice none 0 0) 24 rfl Tryz.underlying24 info23 rfl (by decide) (by omega) ax af bb [.slice cf bb.length cg] (fun k_=>some k_≠(.slice aC ak.length aD:Value).ownBlock) (fun k_=>some k_=(.slice cf bb.length cg:Value).ownBlock) rfl rfl ?aP (fun k_ ed=>((Kd.R_mono (ok':=fun k_=>((fun k_=>some k_≠(.slice aC ak.length aD:Value).ownBlock)) k_∧some k_≠(ax:Value).ownBlock) (Kd.R_apart' (a8.out) (Kd.S_typed rJ.out) (by decide)) (fun k_ hk=>⟨hk.1,hk.2⟩))).1 k_ ed.symm) ?aF ?aO ?aB ?aS ?aL ?_;(case aP=>exact Kd.M_row (Kd.R_mono (Kd.R_tight rfl (Kd.R_mono (ok':=fun k_=>((fun k_=>some k_≠(.slice aC ak.length aD:Value).ownBlock)) k_∧some k_≠(ax:Value).ownBlock) (Kd.R_apart' (a8.out) (Kd.S_typed rJ.out) (by decide)) (fun k_ hk=>⟨hk.1,hk.2⟩))) (fun _ h_=>h_)));(case aB=>exact(wZ HB));(case aF=>exact(fun k_ hk=>Kd.fresh' (Kd.R_lt (rS se)) k_ hk));(case aO=>exact(by(repeat apply Kd.SS);exact Kd.S_mono rJ.out (fun k_ hk=>⟨hk.1,fun e_=>hk.2 e_⟩)));(case aS=>exact(below_size (wZ HB)));(case aL=>have:=ct.out;omega);intro ev eG ho hb hg aT
    rw[←cu.out]at ho;replace se:=bm (Kd.R_over' (rS se) (Kd.S_typed (sS rJ)) (by decide) hg);replace o:=bN o hg (Kd.S_ne rJ.out o.out (by decide));replace J:=bN J hg (Kd.S_ne rJ.out J.out (by decide));replace I:=bN I hg (Kd.S_ne rJ.out I.out (by decide));replace HB:=bm (hb);have b9:=bm (ho);clear rJ a8 ho hb hg aT
    obtain⟨cN,cO,cj⟩:=Kd.S_slice b9.out;(first|subst cj|(injection cj with we xk wg;have aU:=we.symm;have aV:=wg.symm;clear we xk wg;subst aU;subst aV));refine hK.out _ _ ⟨(oB I.out 0).trans rfl,(oB I.out 1).trans rfl,(oB I.out 2).trans rfl⟩ (fun hHeld=>?_);clear hK K;refine vL 26 ?_
    refine pA 7 27 aw ?_ ?_ ?_ ?_ ?_
    all_goals first|(intro w';go_simp;with_reducible rfl)|(simp only[Act.put,qA,qB,qC,i64_w,i32_w];rfl)|skip
    refine last_ (i:=8) (N:=none) FL rfl rfl (one_of aw.out (by kernel_rfl)) (by decide) (fun K hK=>?_);have ew:=bC I 2;have ee:=wv I.out 2;refine skip_ (w1:=?_) (by rfl) rfl ?_ ?_;rotate_left
    ·go_simp;rfl
    refine hK.out _ _ ?_;clear hK K;refine done_ (done_of aw.out (by kernel_rfl)) ?_;try go_wp2
    go_roundg k1
    case measure=>have:=b0.out;omega
    case rel=>exact⟨(wrap64 (an+1)),(b5),(.slice cN b5.length cO),(by first|rfl|(simp;done)|(simp[*];done)),H',⟨by have:=b0.out;omega⟩,⟨rT se⟩,⟨sT b9⟩,⟨kS o⟩,⟨kS J⟩,⟨kP I⟩,⟨wZ HB⟩⟩
   ·obtain⟨rfl,rfl,rfl⟩:=s3 H;obtain⟨cP,cQ,cR,cS,cT,cU⟩:=b3 I;obtain⟨cV,cW,cX,da,db,dc⟩:=b3 J;obtain⟨dd,de,df⟩:=Kd.S_slice rJ.out;subst df;go_wp2;refine bodyPost_ret (results_cell_row rfl _ _ aA 26 #[.int .i64 aa,.slice aC ak.length aD,.slice dd af.length de] (0,0) _ rfl (kP J) Tryz.underlying26 rfl (by kernel_rfl)) rfl ?_;exact⟨_,_,by first|rfl|(simp[*,jS,jT]<;>rfl),rT se,sT rJ,wZ HB⟩
def stringslite_IndexByte.f (s:ByteArray) (c:Int):Option Int:=some (Lib.indexByte s.data.toList c.toNat.toUInt8)
theorem stringslite_IndexByte.calls (s:ByteArray) (c:Int) (r:Int) (w:World) (h:stringslite_IndexByte.f s c=some r):
  Calls Tryz.prog 157 #[.string s,.int .u8 c] w fun e w'=>e= .returned (.int .i64 r)∧Drawn0 w w':=by
 obtain rfl:=vU h;clear h;go_enter Tryz.func157,Tryz.ntmps157;go_wp2;rw[run_callFunc_extern Tryz.func168 (by kernel_rfl) (by kernel_rfl) (by kernel_rfl) (e:=Extern.BytealgIndexByte.indexByte) (by kernel_rfl),Lib.run_indexByteString];simp only[Result.andThen];rw[Oper.upon_value];go_wp2;go_ret;exact⟨rfl,Drawn0.refl _⟩
def stringslite_Index.f (s sub:ByteArray):Option Int:=if sub.size=1 then(if s.size<9223372036854775807 then(if(sub.toList==s.toList)=true then some 0 else stringslite_IndexByte.f s (bt sub 0))else none)else none
theorem stringslite_Index.calls (s sub:ByteArray) (r:Int) (w:World) (h:stringslite_Index.f s sub=some r):
  Calls Tryz.prog 143 #[.string s,.string sub] w fun e w'=>e= .returned (.int .i64 r)∧Drawn0 w w':=by
 unfold stringslite_Index.f at h;by_cases h1:sub.size=1
 ·rw[if_pos h1]at h;by_cases h2:s.size<9223372036854775807
  ·rw[if_pos h2]at h;have eH:((sub.size:Int)==0)=false:=by rw[h1];rfl
   have eI:((sub.size:Int)==1)=true:=by rw[h1];rfl
   have eJ:decide (0<sub.size)=true:=vC (by omega);have ef:(0:Int)<(sub.size:Int):=by omega
   have eK:decide ((0:Int)<(sub.size:Int))=true:=vC ef;by_cases h3:(sub.toList==s.toList)=true
   ·rw[if_pos h3]at h;obtain rfl:=vU h;clear h h1 h2;go_enter Tryz.func143,Tryz.ntmps143;go_wp2;go_ret;exact⟨rfl,Drawn0.refl _⟩
   ·rw[if_neg h3]at h;have HI:=bm (fun(hh:0<sub.size) W=>stringslite_IndexByte.calls s ((sub[0]'hh).toNat:Int) r W (by rw[show((sub[0]'hh).toNat:Int)=bt sub 0 from bt_at sub 0 hh];exact h));have h4:(sub.toList==s.toList)=false:=uZ h3;clear h h1 h2 h3;go_enter Tryz.func143,Tryz.ntmps143;go_wp2_with fail;refine(HI.out _ _).mono ?_;rintro e w1 ⟨rfl,⟨n,rfl⟩⟩;go_wp2;go_ret;exact⟨rfl,⟨⟨n,rfl⟩⟩⟩
  ·rw[if_neg h2]at h;cases h
 ·rw[if_neg h1]at h;cases h
def stringslite_Cut.f (s sep:ByteArray):Option (ByteArray×ByteArray×Bool):=(stringslite_Index.f s sep).bind fun i=>if i<0 then some (s,(⟨#[]⟩:ByteArray),false)else if i.toNat+sep.size≤s.size then some (s.extract 0 i.toNat,s.extract (i.toNat+sep.size) s.size,true)else none
theorem stringslite_Cut.calls (s sep:ByteArray) (r1 r2:ByteArray) (r3:Bool) (w:World) (h:stringslite_Cut.f s sep=some (r1,r2,r3)):
  Calls Tryz.prog 120 #[.string s,.string sep] w fun e w'=>e= .returned (.tuple #[.string r1,.string r2,.bool r3])∧Drawn0 w w':=by
 unfold stringslite_Cut.f at h;obtain⟨i,hi,h⟩:=Option.bind_eq_some_iff.mp h;by_cases h0:i<0
 ·rw[if_pos h0]at h;obtain⟨rfl,rfl,rfl⟩:s=r1∧(⟨#[]⟩:ByteArray)=r2∧false=r3:=by simpa using h
  have HI:=bm (fun W=>stringslite_Index.calls s sep i W hi);have c1:decide (0≤i)=false:=vB (by omega);have c2:decide (i<0)=true:=vC h0;clear h hi h0;go_enter Tryz.func120,Tryz.ntmps120;go_wp2_with fail;refine(HI.out _).mono ?_;rintro e w1 ⟨rfl,⟨n,rfl⟩⟩;go_wp2;go_ret3;exact⟨rfl,⟨⟨n,rfl⟩⟩⟩
 ·rw[if_neg h0]at h;by_cases h1:i.toNat+sep.size≤s.size
  ·rw[if_pos h1]at h
   have eL:s.size<9223372036854775807:=by
    unfold stringslite_Index.f at hi;split at hi
    ·split at hi
     ·assumption
     ·cases hi
    ·cases hi
   obtain⟨rfl,rfl,rfl⟩:s.extract 0 i.toNat=r1∧s.extract (i.toNat+sep.size) s.size=r2∧true=r3:=by simpa using h
   clear h;obtain⟨n,rfl⟩:=Int.eq_ofNat_of_zero_le (by omega:0≤i);rw[Int.toNat_natCast]at h1⊢;have HI:=bm (fun W=>stringslite_Index.calls s sep n W hi);have c0:(0:Int)≤(n:Int):=by omega
   have c2:(n:Int)≤(s.size:Int):=by omega
   have c3:(0:Int)≤(n:Int)+(sep.size:Int):=by omega
   have c4:(n:Int)+(sep.size:Int)≤(s.size:Int):=by omega
   have c5:(n:Int)+(sep.size:Int)<9223372036854775807:=by omega
   clear hi h0 h1;go_enter Tryz.func120,Tryz.ntmps120;go_wp2_with fail;refine(HI.out _).mono ?_;rintro e w1 ⟨rfl,⟨m,rfl⟩⟩;go_wp2;go_quiet (fail);go_wp2;go_ret3;exact⟨rfl,Drawn0.step ⟨⟨m,rfl⟩⟩ _⟩
  ·rw[if_neg h1]at h;cases h
def strings_Cut.f (s sep:ByteArray):Option (ByteArray×ByteArray×Bool):=stringslite_Cut.f s sep
theorem strings_Cut.calls (s sep:ByteArray) (r1 r2:ByteArray) (r3:Bool) (w:World) (h:strings_Cut.f s sep=some (r1,r2,r3)):
  Calls Tryz.prog 85 #[.string s,.string sep] w fun e w'=>e= .returned (.tuple #[.string r1,.string r2,.bool r3])∧Drawn0 w w':=by
 have HI:=bm (fun W=>stringslite_Cut.calls s sep r1 r2 r3 W h);clear h;go_enter Tryz.func85,Tryz.ntmps85;go_wp2_with fail;refine(HI.out _).mono ?_;rintro e w1 ⟨rfl,⟨n,rfl⟩⟩;go_wp2;go_ret3;exact⟨rfl,⟨⟨n,rfl⟩⟩⟩
def oy.l0:Nat→ByteArray→Int→Int→Option (Bool)
 |0,_,_,_=>none
 |k+1,x0,x5,x6=>if x6<x5 then(if 0≤x6 then(if x6<(x0.size:Int)then(if(bt x0 x6)<32 then(some false)else(if(bt x0 x6)>126 then(some false)else(oy.l0 k x0 x5 (wrap64 (x6+1)))))else(none))else(none))else(some true)
def oy.f (k:Nat) (a0:ByteArray):Option (Bool):=oy.l0 k a0 (a0.size:Int) 0
theorem oy.jQ:∀k,(∀y0 y1 y2,qg (oy.l0 k y0 y1 y2) (oy.l0 (k+1) y0 y1 y2))
 |0=>fun _ _ _=> .z (by simp only[oy.l0])
 |k+1=>by
  have i0:=oy.jQ k;exact fun _ _ _=>by unfold oy.l0;infer_instance
instance oy.mo {k a0}:qg (oy.f k a0) (oy.f (k+1) a0):=by have i0:=oy.jQ k;unfold oy.f;infer_instance
theorem oy.calls (k:Nat) (a0:ByteArray) (r:Bool) (w:World) (h:oy.f k a0=some r):
  Calls Tryz.prog 121 #[.string a0] w fun e w'=>e= .returned (.bool r)∧Drawn0 w w':=by
 have H:=h;clear h;unfold oy.f at H;have H':=bm H;clear H;go_enter Tryz.func121,Tryz.ntmps121;go_wp2;go_loopg [6] k (fun kq v6 w'=>∃(ao:Int),v6= .int .i64 ao∧jX (oy.l0 kq a0 (a0.size:Int) ao=some r)∧jX (kq≤k)∧Drawn0 w w')
 case atStart=>exact⟨(0),(by first|rfl|(simp;done)|(simp[*];done)),H',⟨Nat.le_refl _⟩,by repeat(first|exact Drawn0.refl _|apply Drawn0.step)⟩
 case round=>
  clear H';obtain⟨ao,rfl,HA,b0,⟨m1,rfl⟩⟩:=hrel;cases gk with
  |zero=>exact absurd HA.out (by simp[oy.l0])
  |succ k1=>
   have H:=HA.out;clear HA;simp only[oy.l0]at H;rcases vG H with⟨bf,H⟩|⟨bf,H⟩
   ·obtain⟨ey,H⟩:=vE H;obtain⟨ez,H⟩:=vE H;rcases vG H with⟨dh,H⟩|⟨dh,H⟩
    ·obtain rfl:=vU H;have p5:0≤(ao:Int):=pG;have q5:ao<(a0.size:Int):=pG;have di:=bt_at a0 ao;replace p5:=vD p5;replace q5:=vD q5;go_wp2;go_ret;exact vY
    ·rcases vG H with⟨a6,H⟩|⟨a6,H⟩
     ·obtain rfl:=vU H;have p5:0≤(ao:Int):=pG;have q5:ao<(a0.size:Int):=pG;have di:=bt_at a0 ao;replace p5:=vD p5;replace q5:=vD q5;have p7:0≤(ao:Int):=pG;have q7:ao<(a0.size:Int):=pG;have eg:=bt_at a0 ao;replace p7:=vD p7;replace q7:=vD q7;go_wp2;go_ret;exact vY
     ·have H':=bm H;clear H;have p5:0≤(ao:Int):=pG;have q5:ao<(a0.size:Int):=pG;have di:=bt_at a0 ao;replace p5:=vD p5;replace q5:=vD q5;have p7:0≤(ao:Int):=pG;have q7:ao<(a0.size:Int):=pG;have eg:=bt_at a0 ao;replace p7:=vD p7;replace q7:=vD q7;go_wp2;go_roundg k1
      case measure=>have:=b0.out;omega
      case rel=>exact⟨(wrap64 (ao+1)),(by first|rfl|(simp;done)|(simp[*];done)),H',⟨by have:=b0.out;omega⟩,by repeat(first|exact Drawn0.refl _|apply Drawn0.step)⟩
   ·obtain rfl:=vU H;go_wp2;go_ret;exact vY
def lh.j0:Nat→Bool→Int→ByteArray→Option (ByteArray)
 |0,_,_,_=>none
 |k+1,x7,Cd,yO=>if x7=true then(some (⟨#[]⟩:ByteArray))else(if Cd=0 then(if 6+yO.size≤9223372036854775807 then(some ((⟨#[102,105,114,115,116,32]⟩:ByteArray)++yO))else(none))else(if Cd=1 then(if 4+yO.size≤9223372036854775807 then(some ((⟨#[97,108,108,32]⟩:ByteArray)++yO))else(none))else(some (⟨#[]⟩:ByteArray))))
def lh.f (k:Nat) (aa:Int) (ae:ByteArray):Option (ByteArray):=if(aa==2&&(ae.toList==([]:List UInt8)))=true then(some (⟨#[98,97,99,107]⟩:ByteArray))else(if ae.toList=([]:List UInt8)then(lh.j0 k true aa ae)else((oy.f k ae).bind fun t154=>(lh.j0 k (!t154) aa ae)))
theorem lh.jQ:∀k,(∀y0 y1 y2,qg (lh.j0 k y0 y1 y2) (lh.j0 (k+1) y0 y1 y2))
 |0=>fun _ _ _=> .z (by simp only[lh.j0])
 |k+1=>by
  have i0:=lh.jQ k;exact fun _ _ _=>by unfold lh.j0;infer_instance
instance lh.mo {k a0 a1}:qg (lh.f k a0 a1) (lh.f (k+1) a0 a1):=by have i0:=lh.jQ k;unfold lh.f;infer_instance
theorem lh.calls (k:Nat) (aa:Int) (ae:ByteArray) (r:ByteArray) (w:World) (h:lh.f k aa ae=some r):
  Calls Tryz.prog 88 #[.agg #[.int .i64 aa,.string ae]] w fun e w'=>e= .returned (.string r)∧Below w.heap.size w w':=by
 have eA:=Tryz.underlying58;have HB:=bm (Below.refl w.heap.size w);have H:=h;clear h;unfold lh.f at H;rcases iT H with⟨c2,H⟩|⟨c2,H⟩
 ·have bf:(aa==2&&(ae.toList==([]:List UInt8)))=true:=c2;try have dj:(aa==2&&ae.toList.isEmpty)=true:=by have h_:=bf;(repeat rw[Hof.sG]);exact h_
  (try(have dk:decide (aa=2&&(ae.toList==([]:List UInt8)))=true:=by simpa using c2));(try(have dm:(aa==2&&(ae.toList==([]:List UInt8)))=true:=by simpa using c2));clear c2;obtain rfl:=vU H;go_enter Tryz.func88,Tryz.ntmps88;go_wp2_with (first|(refine rz 1 #[.int .i64 aa,.string ae] 58 ?_;intro ca hg w3 al hb;have ay:=bm (al);have cv:=bG HB hg;replace HB:=bW HB hb;clear hb al hg;obtain⟨dE,dF,dG,dH⟩:=b2 ay));go_ret;exact vZ HB
 ·have bf:(aa==2&&(ae.toList==([]:List UInt8)))=false:=by simpa using c2
  (try have dj:(aa==2&&ae.toList.isEmpty)=false:=by have h_:=bf;(repeat rw[Hof.sG]);exact h_);(try(have dk:decide (aa=2&&(ae.toList==([]:List UInt8)))=false:=by simpa using c2));(try(have dm:(aa==2&&(ae.toList==([]:List UInt8)))=false:=by simpa using c2));(try(have eB:¬(aa=2&&(ae.toList==([]:List UInt8))):=by simpa using c2));clear c2;have cw:=bm H;clear H;go_enter Tryz.func88,Tryz.ntmps88;go_upto_region 3 with(first|(refine rz 1 #[.int .i64 aa,.string ae] 58 ?_;intro ca hg w6 al hb;have ay:=bm (al);have cv:=bG HB hg;replace HB:=bW HB hb;clear hb al hg;obtain⟨dI,dJ,dK,dL⟩:=b2 ay))
  (try simp only[Act.put,qA,qB,qC]);go_cut [7] (fun v7 wc=>∃(kq:Nat) (bq:Bool),v7= .bool bq∧jX (lh.j0 kq bq aa ae=some r)∧jX (kq≤k)∧rG wc ca #[.int .i64 aa,.string ae] 58∧jX (Below w.heap.size w wc))
  case first=>
   have H:=cw.out;clear cw;rcases iT H with⟨c8,H⟩|⟨c8,H⟩
   ·obtain⟨a6,dn⟩:=vW c8;clear c8;(first|rw[a6]|(simp only[i64_w,i32_w];rw[a6])|skip);have H':=bm H;clear H;obtain⟨dM,dN,dO,dP⟩:=b2 ay;go_wp2;go_meet
    case rel=>exact⟨_,(true),(by first|rfl|(simp;done)|(simp[*];done)),H',⟨by first|omega|exact Nat.le_refl _⟩,⟨kS ay⟩,⟨wZ HB⟩⟩
   ·obtain⟨a6,dn⟩:=vV c8;(first|rw[a6]|(simp only[i64_w,i32_w];rw[a6])|skip);obtain⟨t154,eh,H⟩:=bE H;try dsimp only at H
    have H':=bm H;clear H;obtain⟨dp,dq,dr,dt⟩:=b2 ay;go_wp2_with (first|(go_at_call 121;(with_reducible refine(oy.calls k ae t154 _ eh.out).mono ?_);rintro e w' ⟨rfl,⟨nd,rfl⟩⟩));go_meet
    case rel=>exact⟨_,(!t154),(by first|rfl|(simp;done)|(simp[*];done)),H',⟨by first|omega|exact Nat.le_refl _⟩,⟨kS ay⟩,⟨wZ HB⟩⟩
  case rest=>
   clear cw;obtain⟨kq,bq,rfl,HA,eM,ay,HB⟩:=hcut;cases kq with
   |zero=>exact absurd HA.out (by simp[lh.j0])
   |succ yP=>
    have H:=HA.out;clear HA;simp only[lh.j0]at H;by_cases cc:bq=true
    ·subst cc;rw[if_pos rfl]at H;obtain rfl:=vU H;go_wp2;go_ret;exact vZ HB
    ·replace cc:=uZ cc;subst cc;rw[if_neg vM]at H;rcases iT H with⟨br,H⟩|⟨br,H⟩
     ·obtain⟨cx,cy⟩:=vW br;clear br;obtain⟨cz,H⟩:=iN H;have ei:=vD cz;have ej:=vC cz;try have ek:(9223372036854775807<6+ae.size)=False:=eq_false (Nat.not_lt.2 cz)
      obtain rfl:=vU H;obtain⟨du,dv,dw,dx⟩:=b2 ay;go_wp2;go_ret;exact vZ HB
     ·obtain⟨cx,cy⟩:=vV br;rcases iT H with⟨bs,H⟩|⟨bs,H⟩
      ·obtain⟨cA,cB⟩:=vW bs;clear bs;obtain⟨cC,H⟩:=iN H;have el:=vD cC;have en:=vC cC;try have eo:(9223372036854775807<4+ae.size)=False:=eq_false (Nat.not_lt.2 cC)
       obtain rfl:=vU H;obtain⟨bO,bT,bV,bZ⟩:=b2 ay;go_wp2;go_ret;exact vZ HB
      ·obtain⟨cA,cB⟩:=vV bs;obtain rfl:=vU H;obtain⟨dy,dz,dA,dB⟩:=b2 ay;go_wp2;go_ret;exact vZ HB
end Go.Proofs.YtihgpkohglcijaaGreatDoor.P
