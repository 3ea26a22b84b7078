import Derived.Test.YtihgpkohglcijaaGreatDoorPx0
import Derived.Test.YtihgpkohglcijaaGreatDoorPx1
namespace Go.Proofs.YtihgpkohglcijaaGreatDoor.P
open Go.RowKit YtihgpkohglcijaaGreatDoorW PrintWords PrintLast PrintMore
attribute [local go_sem] max2_int min2_int max_two min_two max_three min_three max_four min_four
set_option linter.unusedVariables false
set_option linter.unusedSimpArgs false
attribute [local go_sem high] xF
set_option maxHeartbeats 8000000
set_option maxRecDepth 100000
abbrev ze:Array Bool:= #[false,false,false,false,false,false,false,false,false]
abbrev BN:Array Bool:= #[true,true,true,true,true,false,false,false,false]
abbrev BO:Array Bool:= #[true,true,true,true,true,false,false,true,false]
abbrev BP:Array Bool:= #[true,true,true,true,true,true,false,false,false]
abbrev BQ:Array Bool:= #[true,true,true,true,true,true,true,true,false]
abbrev Aq:Array Bool:= #[true,true,true,true,true,true,true,true,true]
def gR.l0:Nat→List (List Int)→Int→Int→Int→List Int→List (List Int)→Option (Int×List Int×(List (List Int)))
 |0,_,_,_,_,_,_=>none
 |k+1,x14,x15,x16,xN,xO,uJ=>if x16<x15 then(if 0≤x16 then(if x16<(x14.length:Int)then((some (([]:List Int):List Int)).bind fun aN=>(if aN.length+(kT x14 x16).length<17592186044416 then(if uJ.length<5864062014805 then(gR.l0 k x14 x15 (wrap64 (x16+1)) xN xO (uJ++ [(aN++(kT x14 x16))]))else(none))else(none)))else(none))else(none))else(some (xN,xO,uJ))
def gR.f (k:Nat) (aa:Int) (ag:List Int) (ad:List (List Int)):Option (Int×List Int×(List (List Int))):=(some (([]:List Int):List Int)).bind fun az=>(if az.length+ag.length<17592186044416 then(gR.l0 k ad (ad.length:Int) 0 aa (az++ag) ([]:List (List Int)))else(none))
theorem gR.gF:∀k,(∀y0 y1 y2 y3 y4 y5,ku (gR.l0 k y0 y1 y2 y3 y4 y5) (gR.l0 (k+1) y0 y1 y2 y3 y4 y5))
 |0=>fun _ _ _ _ _ _=> .z (by simp only[gR.l0])
 |k+1=>by
  have i0:=gR.gF k;exact fun _ _ _ _ _ _=>by unfold gR.l0;infer_instance
instance gR.mo {k a0 a1 a2}:ku (gR.f k a0 a1 a2) (gR.f (k+1) a0 a1 a2):=by have i0:=gR.gF k;unfold gR.f;infer_instance
def gR.T1:Bool×List (List Nat×List Nat):=(true,[([],[]),([0],[0]),([],[]),([],[]),([3],[3]),([2,4],[2,4]),([1,5],[1,5]),([],[]),([7,6,5,0,1,2,3,4,5,6,7],[6,7])])
def gR.B1:List Nat:=[0,1,0,0,8,28,63,0,255]
theorem gR.wP:rtab .any (opsOf Tryz.f70 1)=gR.T1:=by kernel_rfl
theorem gR.sE:waitsOk gR.T1.2 gR.B1=true:=by kernel_rfl
def gR.T5:Bool×List (List Nat×List Nat):=(true,[([],[]),([0],[0]),([],[]),([],[]),([2,3],[2,3]),([4],[4]),([1,5,4],[1,5]),([0,1,2,3,4,5,6],[]),([7,6,6,0,1,2,3,4,5,6],[6,7])])
def gR.B5:List Nat:=[0,1,0,0,12,28,63,127,255]
theorem gR.wg:rtab .any (opsOf Tryz.f70 5)=gR.T5:=by kernel_rfl
theorem gR.rU:waitsOk gR.T5.2 gR.B5=true:=by kernel_rfl
theorem gR.calls (k:Nat) (aa:Int) (aE:Option Addr) (aG:Nat) (ag:List Int) (aH:Option Addr) (aI:Nat) (ad:List (List Int)) (r1:Int) (r2:List Int) (r3:List (List Int)) (w:World) (bw:Kd.C (Kd.int .i64) w aE ag.length ag) (bx:ag.length≤aG) (bz:Kd.C (Kd.slice 3 (Kd.int .i64)) w aH ad.length ad) (bA:ad.length≤aI) (h:gR.f k aa ag ad=some (r1,r2,r3)):
  Calls Tryz.prog 70 #[.agg #[.int .i64 aa,.slice aE ag.length aG,.slice aH ad.length aI]] w fun e w'=>∃cl cE:Value,e= .returned (.agg #[.int .i64 r1,cl,cE])∧Kd.R (Kd.int .i64) 3 w' w.heap.size (fun _=>True) cl r2∧Kd.S (Kd.slice 3 (Kd.int .i64)) 23 w' w.heap.size (fun k_=>some k_≠(cl:Value).ownBlock) cE r3∧Below w.heap.size w w':=by
 have et:=Tryz.underlying26;have bh:=bm bw;have dS:=bm bx;clear bw bx;have cm:=bm bz;have dT:=bm bA;clear bz bA;have HB:=bm (Below.refl w.heap.size w);have H:=h;clear h;unfold gR.f at H;obtain⟨az,bj⟩:∃y_:List Int,y_=(([]:List Int)):=⟨_,rfl⟩;replace H:(if az.length+ag.length<17592186044416 then(gR.l0 k ad (ad.length:Int) 0 aa (az++ag) ([]:List (List Int)))else(none))=some (r1,r2,r3):=by first|(rw[bj];exact H)|exact H
 have a8:=bm bj;clear bj;obtain⟨c2,H⟩:=iN H;have bB:=bm c2;clear c2;obtain⟨ak,bk⟩:∃y_:List Int,y_=(az++ag):=⟨_,rfl⟩;rw[←bk]at H
 have bl:=bm bk;clear bk;have H':=bm H;clear H;go_enter Tryz.func70,Tryz.ntmps70;try go_wp2_with (first|(refine mK 1 #[.int .i64 aa,.slice aE ag.length aG,.slice aH ad.length aI] 26 ?_;intro aj hg _ al hb;have o:=bm (al);have dU:=bG HB hg;replace HB:=bW HB hb;clear hb al hg)|(refine mK 2 #[.int .i64 0,.slice none 0 0,.slice none 0 0] 26 ?_;intro aA hg w4 al hb;have J:=bm (al);have dV:=bG HB hg;replace HB:=bW HB hb;have cn:=bL o hg;have cp:=bM o hg;replace o:=bU o hb;clear hb al hg))
 replace o:=vC o;replace J:=vC J;replace HB:=vH HB;refine start_ (n:=9) (S:=fun w'=>w'.cell? ⟨aj,0,none⟩=some (.int .i64 aa)∧w'.cell? ⟨aj,1,none⟩=some (.slice aE ag.length aG)∧w'.cell? ⟨aj,2,none⟩=some (.slice aH ad.length aI)) (ds:=[]) ze (by kernel_rfl) rfl rfl ⟨(ja o.out 0).trans rfl,(ja o.out 1).trans rfl,(ja o.out 2).trans rfl⟩ (fun hHeld=>?_);refine with_tabW gR.wP gR.sE (fun aw cc=>?_);generalize w4.drew=w5 at o J HB hHeld⊢;refine pA 0 6 aw ?_ ?_ ?_ ?_ (pA 3 9 aw ?_ ?_ ?_ ?_ (tA 1 7 aw cc hHeld ?_ ?_ ?_ ?_ (tA 4 10 aw cc hHeld ?_ ?_ ?_ ?_ ?_)))
 all_goals first|(rintro w' ⟨_,_,_⟩;go_simp;with_reducible rfl)|(intro w';go_simp;with_reducible rfl)|(simp only[Act.put,qA,qB,qC,i64_w,i32_w];rfl)|skip
 refine join_ (σ:=Value×Value×Nat) 1 BQ (fun s_=>[(8,s_.1),(11,s_.2.1),(3,.pointer (some ⟨s_.2.2,0,none⟩)),(12,.agg #[.int .i64 aa,s_.2.1,.slice none 0 0])]) (fun s_ w'=>(w'.cell? ⟨aj,0,none⟩=some (.int .i64 aa)∧w'.cell? ⟨aj,1,none⟩=some (.slice aE ag.length aG)∧w'.cell? ⟨aj,2,none⟩=some (.slice aH ad.length aI))∧(Kd.R (Kd.int .i64) 3 w' w.heap.size (fun _=>True) s_.2.1 ak)∧(w'.heap[aj]?=some (.cells #[.int .i64 aa,.slice aE ag.length aG,.slice aH ad.length aI] 26 (0,0)))∧(w'.heap[aA]?=some (.cells #[.int .i64 0,.slice none 0 0,.slice none 0 0] 26 (0,0)))∧(w'.heap[s_.2.2]?=some (.cells #[.int .i64 0,.slice none 0 0,.slice none 0 0] 26 (0,0)))∧(w.heap.size≤s_.2.2)∧(w.heap.size≤s_.2.2)∧(aj≠s_.2.2)∧(s_.2.2≠aj)∧(aA≠s_.2.2)∧(s_.2.2≠aA)∧(Below w.heap.size w w')) ?_ ?_;rotate_left
 ·intro nT;refine two_ (i:=2) (j:=7) (Ni:=some 8) (Nj:=some 3) BN #[true,true,false,true,true,false,false,true,false] rfl rfl rfl rfl (two_of aw.out (by kernel_rfl)) (by decide) (by decide) (fun K hK=>?_) (fun K hK=>?_)
  ·skip;refine Kd.R_lit_step (Kd.int .i64) _ 3 ?hg (N:=8) ?hd (xs:=([]:List Int)) (inner:=[]) (ok:=fun _=>True) (okp:=fun _=>True) ?hr ?hp (fun _ hk=>hk) trivial (Below.refl _ _) (Nat.le_refl _) (by simp) ?_;(case hd=>rfl);(case hg=>rfl);(case hr=>first|(go_simp;done)|(go_simp;rfl));(case hp=>exact(Reps.none _ _));intro aM _ bD hb bF aQ;clear bF aQ;(first|rw[←a8.out]at bD|(simp only[Int.reduceToNat]at bD;rw[←a8.out]at bD));have ah:=vm bD HB;replace o:=bU o hb;replace J:=bU J hb;replace HB:=bW HB hb;clear hb bD;refine hK.out _ _ ⟨(ja o.out 0).trans rfl,(ja o.out 1).trans rfl,(ja o.out 2).trans rfl⟩ (fun hHeld=>?_);clear hK K;refine vQ 8 ?_
   refine two_ (i:=5) (j:=7) (Ni:=some 11) (Nj:=some 3) BP BO rfl rfl rfl rfl (two_of aw.out (by kernel_rfl)) (by decide) (by decide) (fun K hK=>?_) (fun K hK=>?_)
   ·skip;refine Kd.R_append_rows_step (Kd.int .i64) (w0:=w) w.heap.size (by rfl) (.tmp 8) (.tmp 10) 23 3 (.int .i64 0) 8 rfl Tryz.underlying23 info3 rfl (by decide) (by omega) aM az ag _ _ _ (fun _=>True) (fun _=>False) rfl rfl ?aO ?aR (fun _ _ h=>h) (fun _ h=>h.elim) ?aF ?aB ?aS ?aL ?_;(case aR=>repeat(first|exact(Kd.C_below bh.out HB.out)|(with_reducible refine Kd.C_alloc ?_ _)|(with_reducible refine Kd.C_drewN ?_ _)|(with_reducible refine Kd.C_drew ?_)));(case aB=>exact(wZ HB));(case aF=>exact(fun _ _=>trivial));(case aO=>exact(rS ah));(case aS=>exact(below_size (wZ HB)));(case aL=>have:=bB.out;omega);intro bq _ ho hb hg aT
    rw[←bl.out]at ho;replace o:=bN o hg (Kd.R_ne ah.out o.out (by decide));replace J:=bN J hg (Kd.R_ne ah.out J.out (by decide));replace HB:=bm (hb);have aq:=bm (ho);clear ah ho hb hg aT
    obtain⟨dW,dX,cF⟩:=Kd.R_slice aq.out;(first|subst cF|(injection cF with ot qa ou;have aU:=ot.symm;have aV:=ou.symm;clear ot qa ou;subst aU;subst aV));refine hK.out _ _ ⟨(ja o.out 0).trans rfl,(ja o.out 1).trans rfl,(ja o.out 2).trans rfl⟩ (fun hHeld=>?_);clear hK K;refine vQ 11 ?_
    refine pA 6 12 aw ?_ ?_ ?_ ?_ ?_
    all_goals first|(intro w';go_simp;with_reducible rfl)|(simp only[Act.put,qA,qB,qC,i64_w,i32_w];rfl)|skip
    refine oA 7 (some 3) aw (fun K hK=>?_);refine box_step ?hg (N:=3) ?hd (cs:= #[.int .i64 0,.slice none 0 0,.slice none 0 0]) (t:=26) ?hr ?_;(case hd=>rfl);(case hg=>rfl);(case hr=>first|(go_simp;done)|(go_simp;rfl));intro ai hg _ al hb;replace aq:=bR aq hb;have I:=bm (al);have aJ:=bG HB hg;have aK:=bG HB hg;replace HB:=bW HB hb;have ab:=bL o hg;have ar:=bM o hg;replace o:=bU o hb;have au:=bL J hg;have av:=bM J hg;replace J:=bU J hb;clear hb al hg;refine hK.out _ _ ⟨(ja o.out 0).trans rfl,(ja o.out 1).trans rfl,(ja o.out 2).trans rfl⟩ (fun hHeld=>?_);clear hK K;refine vQ 3 ?_
    exact norm_ (by simp only[putAll,Act.put,qA,qB,qC]) (nT (aM,.slice dW ak.length dX,ai) _ ⟨hHeld,(rS aq),(kS o),(kS J),(kS I),aJ.out,aK.out,ab.out,ar.out,au.out,av.out,(wZ HB)⟩)
   ·skip;refine box_step ?hg (N:=3) ?hd (cs:= #[.int .i64 0,.slice none 0 0,.slice none 0 0]) (t:=26) ?hr ?_;(case hd=>rfl);(case hg=>rfl);(case hr=>first|(go_simp;done)|(go_simp;rfl));intro ai hg _ al hb;replace ah:=bR ah hb;have I:=bm (al);have aJ:=bG HB hg;have aK:=bG HB hg;replace HB:=bW HB hb;have ab:=bL o hg;have ar:=bM o hg;replace o:=bU o hb;have au:=bL J hg;have av:=bM J hg;replace J:=bU J hb;clear hb al hg;refine hK.out _ _ ⟨(ja o.out 0).trans rfl,(ja o.out 1).trans rfl,(ja o.out 2).trans rfl⟩ (fun hHeld=>?_);clear hK K;refine vQ 3 ?_
    refine oA 5 (some 11) aw (fun K hK=>?_);refine Kd.R_append_rows_step (Kd.int .i64) (w0:=w) w.heap.size (by rfl) (.tmp 8) (.tmp 10) 23 3 (.int .i64 0) 8 rfl Tryz.underlying23 info3 rfl (by decide) (by omega) aM az ag _ _ _ (fun _=>True) (fun _=>False) rfl rfl ?aO ?aR (fun _ _ h=>h) (fun _ h=>h.elim) ?aF ?aB ?aS ?aL ?_;(case aR=>repeat(first|exact(Kd.C_below bh.out HB.out)|(with_reducible refine Kd.C_alloc ?_ _)|(with_reducible refine Kd.C_drewN ?_ _)|(with_reducible refine Kd.C_drew ?_)));(case aB=>exact(wZ HB));(case aF=>exact(fun _ _=>trivial));(case aO=>exact(rS ah));(case aS=>exact(below_size (wZ HB)));(case aL=>have:=bB.out;omega);intro bq _ ho hb hg aT
    rw[←bl.out]at ho;replace o:=bN o hg (Kd.R_ne ah.out o.out (by decide));replace J:=bN J hg (Kd.R_ne ah.out J.out (by decide));replace I:=bN I hg (Kd.R_ne ah.out I.out (by decide));replace HB:=bm (hb);have aq:=bm (ho);clear ah ho hb hg aT
    obtain⟨bH,bJ,bb⟩:=Kd.R_slice aq.out;(first|subst bb|(injection bb with ot qa ou;have aU:=ot.symm;have aV:=ou.symm;clear ot qa ou;subst aU;subst aV));refine hK.out _ _ ⟨(ja o.out 0).trans rfl,(ja o.out 1).trans rfl,(ja o.out 2).trans rfl⟩ (fun hHeld=>?_);clear hK K;refine vQ 11 ?_
    refine pA 6 12 aw ?_ ?_ ?_ ?_ ?_
    all_goals first|(intro w';go_simp;with_reducible rfl)|(simp only[Act.put,qA,qB,qC,i64_w,i32_w];rfl)|skip
    exact norm_ (by simp only[putAll,Act.put,qA,qB,qC]) (nT (aM,.slice bH ak.length bJ,ai) _ ⟨hHeld,(rS aq),(kS o),(kS J),(kS I),aJ.out,aK.out,ab.out,ar.out,au.out,av.out,(wZ HB)⟩)
  ·skip;refine box_step ?hg (N:=3) ?hd (cs:= #[.int .i64 0,.slice none 0 0,.slice none 0 0]) (t:=26) ?hr ?_;(case hd=>rfl);(case hg=>rfl);(case hr=>first|(go_simp;done)|(go_simp;rfl));intro ai hg _ al hb;have I:=bm (al);have aJ:=bG HB hg;have aK:=bG HB hg;replace HB:=bW HB hb;have ab:=bL o hg;have ar:=bM o hg;replace o:=bU o hb;have au:=bL J hg;have av:=bM J hg;replace J:=bU J hb;clear hb al hg;refine hK.out _ _ ⟨(ja o.out 0).trans rfl,(ja o.out 1).trans rfl,(ja o.out 2).trans rfl⟩ (fun hHeld=>?_);clear hK K;refine vQ 3 ?_
   refine oA 2 (some 8) aw (fun K hK=>?_);refine Kd.R_lit_step (Kd.int .i64) _ 3 ?hg (N:=8) ?hd (xs:=([]:List Int)) (inner:=[]) (ok:=fun _=>True) (okp:=fun _=>True) ?hr ?hp (fun _ hk=>hk) trivial (Below.refl _ _) (Nat.le_refl _) (by simp) ?_;(case hd=>rfl);(case hg=>rfl);(case hr=>first|(go_simp;done)|(go_simp;rfl));(case hp=>exact(Reps.none _ _));intro aM _ bO hb bF aQ;clear bF aQ;(first|rw[←a8.out]at bO|(simp only[Int.reduceToNat]at bO;rw[←a8.out]at bO));have ah:=vm bO HB;replace o:=bU o hb;replace J:=bU J hb;replace I:=bU I hb;replace HB:=bW HB hb;clear hb bO;refine hK.out _ _ ⟨(ja o.out 0).trans rfl,(ja o.out 1).trans rfl,(ja o.out 2).trans rfl⟩ (fun hHeld=>?_);clear hK K;refine vQ 8 ?_
   refine oA 5 (some 11) aw (fun K hK=>?_);refine Kd.R_append_rows_step (Kd.int .i64) (w0:=w) w.heap.size (by rfl) (.tmp 8) (.tmp 10) 23 3 (.int .i64 0) 8 rfl Tryz.underlying23 info3 rfl (by decide) (by omega) aM az ag _ _ _ (fun _=>True) (fun _=>False) rfl rfl ?aO ?aR (fun _ _ h=>h) (fun _ h=>h.elim) ?aF ?aB ?aS ?aL ?_;(case aR=>repeat(first|exact(Kd.C_below bh.out HB.out)|(with_reducible refine Kd.C_alloc ?_ _)|(with_reducible refine Kd.C_drewN ?_ _)|(with_reducible refine Kd.C_drew ?_)));(case aB=>exact(wZ HB));(case aF=>exact(fun _ _=>trivial));(case aO=>exact(rS ah));(case aS=>exact(below_size (wZ HB)));(case aL=>have:=bB.out;omega);intro bq _ ho hb hg aT
   rw[←bl.out]at ho;replace o:=bN o hg (Kd.R_ne ah.out o.out (by decide));replace J:=bN J hg (Kd.R_ne ah.out J.out (by decide));replace I:=bN I hg (Kd.R_ne ah.out I.out (by decide));replace HB:=bm (hb);have aq:=bm (ho);clear ah ho hb hg aT
   obtain⟨bH,bJ,bb⟩:=Kd.R_slice aq.out;(first|subst bb|(injection bb with ot qa ou;have aU:=ot.symm;have aV:=ou.symm;clear ot qa ou;subst aU;subst aV));refine hK.out _ _ ⟨(ja o.out 0).trans rfl,(ja o.out 1).trans rfl,(ja o.out 2).trans rfl⟩ (fun hHeld=>?_);clear hK K;refine vQ 11 ?_
   refine pA 6 12 aw ?_ ?_ ?_ ?_ ?_
   all_goals first|(intro w';go_simp;with_reducible rfl)|(simp only[Act.put,qA,qB,qC,i64_w,i32_w];rfl)|skip
   exact norm_ (by simp only[putAll,Act.put,qA,qB,qC]) (nT (aM,.slice bH ak.length bJ,ai) _ ⟨hHeld,(rS aq),(kS o),(kS J),(kS I),aJ.out,aK.out,ab.out,ar.out,au.out,av.out,(wZ HB)⟩)
 rintro⟨aM,bq,ai⟩ wh ⟨BB,Be,Bf,Bg,Bh,Bi,Bj,Bk,Bl,Bm,Bn,wi⟩;have aq:gm (Kd.R (Kd.int .i64) 3 wh w.heap.size (fun _=>True) bq ak):=⟨Be⟩;replace o:lE wh aj #[.int .i64 aa,.slice aE ag.length aG,.slice aH ad.length aI] 26:=⟨Bf⟩;replace J:lE wh aA #[.int .i64 0,.slice none 0 0,.slice none 0 0] 26:=⟨Bg⟩;have I:lE wh ai #[.int .i64 0,.slice none 0 0,.slice none 0 0] 26:=⟨Bh⟩;have aJ:gm (w.heap.size≤ai):=⟨Bi⟩;have aK:gm (w.heap.size≤ai):=⟨Bj⟩;have ab:gm (aj≠ai):=⟨Bk⟩;have ar:gm (ai≠aj):=⟨Bl⟩;have au:gm (aA≠ai):=⟨Bm⟩;have av:gm (ai≠aA):=⟨Bn⟩;replace HB:gm (Below w.heap.size w wh):=⟨wi⟩;clear Be Bf Bg Bh Bi Bj Bk Bl Bm Bn wi;have hHeld:wh.cell? ⟨aj,0,none⟩=some (.int .i64 aa)∧wh.cell? ⟨aj,1,none⟩=some (.slice aE ag.length aG)∧wh.cell? ⟨aj,2,none⟩=some (.slice aH ad.length aI):=BB;obtain⟨aC,aD,cf⟩:=Kd.R_slice aq.out;(first|subst cf|(injection cf with ot qa ou;have aU:=ot.symm;have aV:=ou.symm;clear ot qa ou;subst aU;subst aV));refine norm_ (a':=?_) ?_ ?_;rotate_left
 ·simp only[putAll,Act.put,qA,qB,qC];rfl
 refine oA 8 (none) aw (fun K hK=>?_);have eu:=bC I 0;have dY:=nA I.out 0;have ev:=bC I 1;have dZ:=nA I.out 1;have ew:=bC I 2;have ea:=nA I.out 2;refine skip_ (w1:=?_) (by rfl) rfl ?_ ?_;rotate_left
 ·go_simp;rfl
 refine hK.out _ _ ⟨((kp ab).trans (((kp ab).trans (((kp ab).trans (hHeld.1)))))),((kp ab).trans (((kp ab).trans (((kp ab).trans (hHeld.2.1)))))),((kp ab).trans (((kp ab).trans (((kp ab).trans (hHeld.2.2))))))⟩ (fun hHeld=>?_);clear hK K;refine done_ (done_of aw.out (by kernel_rfl)) ?_;obtain⟨_,_,_,_,_,_⟩:=b3 o;try go_wp2
 go_loopg [16] k (fun kq eb w'=>∃(an:Int) (af:List (List Int)) (ax:Value),eb= .int .i64 an∧gm (gR.l0 kq ad (ad.length:Int) an aa ak af=some (r1,r2,r3))∧gm (kq≤k)∧gm (Kd.R (Kd.int .i64) 3 w' w.heap.size (fun _=>True) (.slice aC ak.length aD) ak)∧gm (Kd.S (Kd.slice 3 (Kd.int .i64)) 23 w' w.heap.size (fun k_=>some k_≠((.slice aC ak.length aD):Value).ownBlock) ax af)∧gm (w'.heap[aj]?=some (.cells #[.int .i64 aa,(.slice aE ag.length aG),(.slice aH ad.length aI)] 26 (0,0)))∧gm (w'.heap[aA]?=some (.cells #[.int .i64 0,(.slice none 0 0),(.slice none 0 0)] 26 (0,0)))∧gm (w'.heap[ai]?=some (.cells #[.int .i64 aa,(.slice aC ak.length aD),ax] 26 (0,0)))∧gm (Below w.heap.size w w'))
 case atStart=>exact⟨(0),(([]:List (List Int))),(.slice none 0 0),(by first|rfl|(simp;done)|(simp[*];done)),H',⟨Nat.le_refl _⟩,⟨rT aq⟩,⟨by first|exact Kd.S_nil _ _ _ _ _|exact Kd.N_nil _ _ _ _ _|exact Kd.V_nil _ _ _ _ _|exact Kd.Q_nil _ _ _ _ _|exact Kd.R_nil _ _ _ _ _⟩,⟨kS o⟩,⟨kS J⟩,⟨kP I⟩,⟨wZ HB⟩⟩
 case round=>
  clear H';obtain⟨an,af,ax,rfl,HA,b1,mD,lN,o,J,I,HB⟩:=hrel;cases gk with
  |zero=>exact absurd HA.out (by simp[gR.l0])
  |succ k1=>
   have H:=HA.out;clear HA;simp only[gR.l0]at H;rcases vL H with⟨cq,H⟩|⟨cq,H⟩
   ·obtain⟨ec,H⟩:=vJ H;obtain⟨ed,H⟩:=vJ H;obtain⟨aN,bn⟩:∃y_:List Int,y_=(([]:List Int)):=⟨_,rfl⟩;replace H:(if aN.length+(kT ad an).length<17592186044416 then(if af.length<5864062014805 then(gR.l0 k1 ad (ad.length:Int) (wrap64 (an+1)) aa ak (af++ [(aN++(kT ad an))]))else(none))else(none))=some (r1,r2,r3):=by first|(rw[bn];exact H)|exact H
    have b5:=bm bn;clear bn;obtain⟨cK,H⟩:=iN H;have cr:=bm cK;clear cK;obtain⟨bc,bo⟩:∃y_:List Int,y_=(aN++(kT ad an)):=⟨_,rfl⟩;rw[←bo]at H
    have ct:=bm bo;clear bo;obtain⟨cL,H⟩:=iN H;have cu:=bm cL;clear cL;obtain⟨b6,bp⟩:∃y_:List (List Int),y_=(af++ [bc]):=⟨_,rfl⟩;rw[←bp]at H
    have cv:=bm bp;clear bp;have H':=bm H;clear H;have b7:0≤(an:Int):=jK;have b8:an<(ad.length:Int):=jK;obtain⟨ee,dE,dF,cM,aW,bd,bf⟩:=rp cm.out an b7 b8;cases cM;replace aW:=vA HB aW;have b9:=bm bf;have cN:=bm bd;clear bf bd;replace b7:=vI b7;replace b8:=vI b8;try go_wp2
    replace mD:=vD mD;replace lN:=vF lN;replace o:=vC o;replace J:=vC J;replace I:=vC I;replace HB:=vH HB;refine start_ (n:=9) (S:=fun w'=>w'.cell? ⟨ai,0,none⟩=some (.int .i64 aa)∧w'.cell? ⟨ai,1,none⟩=some (.slice aC ak.length aD)∧w'.cell? ⟨ai,2,none⟩=some (ax)) (ds:=[8]) ze (by kernel_rfl) rfl rfl ⟨(ja I.out 0).trans rfl,(ja I.out 1).trans rfl,(ja I.out 2).trans rfl⟩ (fun hHeld=>?_);refine with_tabW gR.wg gR.rU (fun aw cc=>?_);generalize wr.drew=eG at mD lN o J I HB hHeld⊢;refine pA 0 20 aw ?_ ?_ ?_ ?_ (pA 3 23 aw ?_ ?_ ?_ ?_ (tA 1 21 aw cc hHeld ?_ ?_ ?_ ?_ ?_))
    all_goals first|(rintro w' ⟨_,_,_⟩;go_simp;with_reducible rfl)|(intro w';go_simp;with_reducible rfl)|(simp only[Act.put,qA,qB,qC,i64_w,i32_w];rfl)|skip
    refine oA 2 (some 22) aw (fun K hK=>?_);refine Kd.R_lit_step (Kd.int .i64) _ 3 ?hg (N:=22) ?hd (xs:=([]:List Int)) (inner:=[]) (ok:=fun _=>True) (okp:=fun _=>True) ?hr ?hp (fun _ hk=>hk) trivial (Below.refl _ _) (Nat.le_refl _) (by simp) ?_;(case hd=>rfl);(case hg=>rfl);(case hr=>first|(go_simp;done)|(go_simp;rfl));(case hp=>exact(Reps.none _ _));intro cO _ aY hb bF aQ;clear bF aQ;(first|rw[←b5.out]at aY|(simp only[Int.reduceToNat]at aY;rw[←b5.out]at aY));replace lN:=bm (Kd.S_elder' (sS lN) (Kd.R_base aY) hb);have aZ:=bm (Kd.R_lower (Kd.R_new' aY (Kd.R_lt (rS mD))) (below_size (wZ HB)));replace mD:=bm (Kd.R_elder' (rS mD) (Kd.R_base aY) hb);replace o:=bU o hb;replace J:=bU J hb;replace I:=bU I hb;replace HB:=bW HB hb;clear hb aY;refine hK.out _ _ ⟨(ja I.out 0).trans rfl,(ja I.out 1).trans rfl,(ja I.out 2).trans rfl⟩ (fun hHeld=>?_);clear hK K;refine vQ 22 ?_
    refine oA 4 (some 24) aw (fun K hK=>?_);refine Kd.R_append_rows_step (Kd.int .i64) (w0:=w) w.heap.size (by rfl) (.tmp 22) (.tmp 23) 23 3 (.int .i64 0) 8 rfl Tryz.underlying23 info3 rfl (by decide) (by omega) cO aN (kT ad an) _ _ _ (fun k_=>some k_≠(.slice aC ak.length aD:Value).ownBlock) (fun _=>False) rfl rfl ?aO ?aR (fun _ _ h=>h) (fun _ h=>h.elim) ?aF ?aB ?aS ?aL ?_;(case aR=>repeat(first|exact(Kd.C_below b9.out HB.out)|(with_reducible refine Kd.C_alloc ?_ _)|(with_reducible refine Kd.C_drewN ?_ _)|(with_reducible refine Kd.C_drew ?_)));(case aB=>exact(wZ HB));(case aF=>exact(fun k_ hk=>Kd.fresh' (Kd.R_lt (rS mD)) k_ hk));(case aO=>exact(by(repeat apply Kd.RS);exact Kd.R_mono aZ.out (fun _ hk=>hk.2)));(case aS=>exact(below_size (wZ HB)));(case aL=>have:=cr.out;omega);intro _ _ ho hb hg aT
    rw[←ct.out]at ho;replace mD:=bm (Kd.R_after (ok:=(fun _=>True)) (rS mD) hg aT);replace lN:=bm (Kd.S_after (ok:=(fun k_=>some k_≠(.slice aC ak.length aD:Value).ownBlock)) (sS lN) hg aT);replace o:=bN o hg (Kd.R_ne aZ.out o.out (by decide));replace J:=bN J hg (Kd.R_ne aZ.out J.out (by decide));replace I:=bN I hg (Kd.R_ne aZ.out I.out (by decide));replace HB:=bm (hb);have ba:=bm (ho);clear aZ ho hb hg aT
    obtain⟨cg,ch,cj⟩:=Kd.R_slice ba.out;(first|subst cj|(injection cj with ot qa ou;have aU:=ot.symm;have aV:=ou.symm;clear ot qa ou;subst aU;subst aV));refine hK.out _ _ ⟨(ja I.out 0).trans rfl,(ja I.out 1).trans rfl,(ja I.out 2).trans rfl⟩ (fun hHeld=>?_);clear hK K;refine vQ 24 ?_
    refine oA 5 (some 25) aw (fun K hK=>?_);refine value_ (w1:=?_) (v:=?_) (by rfl) rfl ?_ ?_;rotate_left 2
    ·go_simp;constructor
     ·rfl
     ·rfl
    refine hK.out _ _ ⟨(ja (Ac I.out _) 0).trans rfl,(ja (Ac I.out _) 1).trans rfl,(ja (Ac I.out _) 2).trans rfl⟩ (fun hHeld=>?_);clear hK K;refine vQ 25 ?_
    refine oA 6 (some 26) aw (fun K hK=>?_);refine Kd.S_append_step (Kd.slice 3 (Kd.int .i64)) (w0:=w) w.heap.size (by rfl) (.tmp 21) (.tmp 25) 24 23 (.slice none 0 0) 24 rfl Tryz.underlying24 info23 rfl (by decide) (by omega) ax af bc [.slice cg bc.length ch] (fun k_=>some k_≠(.slice aC ak.length aD:Value).ownBlock) (fun k_=>some k_=(.slice cg bc.length ch:Value).ownBlock) rfl rfl ?aP (fun k_ ef=>((Kd.R_mono (ok':=fun k_=>((fun k_=>some k_≠(.slice aC ak.length aD:Value).ownBlock)) k_∧some k_≠(ax:Value).ownBlock) (Kd.R_apart' (ba.out) (Kd.S_typed lN.out) (by decide)) (fun k_ hk=>⟨hk.1,hk.2⟩))).1 k_ ef.symm) ?aF ?aO ?aB ?aS ?aL ?_;(case aP=>exact Kd.M_row (Kd.R_mono (Kd.R_tight rfl (Kd.R_mono (ok':=fun k_=>((fun k_=>some k_≠(.slice aC ak.length aD:Value).ownBlock)) k_∧some k_≠(ax:Value).ownBlock) (Kd.R_apart' (ba.out) (Kd.S_typed lN.out) (by decide)) (fun k_ hk=>⟨hk.1,hk.2⟩))) (fun _ h_=>h_)));(case aB=>exact(wZ HB));(case aF=>exact(fun k_ hk=>Kd.fresh' (Kd.R_lt (rS mD)) k_ hk));(case aO=>exact(by(repeat apply Kd.SS);exact Kd.S_mono lN.out (fun k_ hk=>⟨hk.1,fun e_=>hk.2 e_⟩)));(case aS=>exact(below_size (wZ HB)));(case aL=>have:=cu.out;omega);intro _ _ ho hb hg aT
    rw[←cv.out]at ho;replace mD:=bm (Kd.R_over' (rS mD) (Kd.S_typed (sS lN)) (by decide) hg);replace o:=bN o hg (Kd.S_ne lN.out o.out (by decide));replace J:=bN J hg (Kd.S_ne lN.out J.out (by decide));replace I:=bN I hg (Kd.S_ne lN.out I.out (by decide));replace HB:=bm (hb);have ca:=bm (ho);clear lN ba ho hb hg aT
    obtain⟨cP,cQ,ck⟩:=Kd.S_slice ca.out;(first|subst ck|(injection ck with ot qa ou;have aU:=ot.symm;have aV:=ou.symm;clear ot qa ou;subst aU;subst aV));refine hK.out _ _ ⟨(ja I.out 0).trans rfl,(ja I.out 1).trans rfl,(ja I.out 2).trans rfl⟩ (fun hHeld=>?_);clear hK K;refine vQ 26 ?_
    refine pA 7 27 aw ?_ ?_ ?_ ?_ ?_
    all_goals first|(intro w';go_simp;with_reducible rfl)|(simp only[Act.put,qA,qB,qC,i64_w,i32_w];rfl)|skip
    refine last_ (i:=8) (N:=none) Aq rfl rfl (one_of aw.out (by kernel_rfl)) (by decide) (fun K hK=>?_);have eA:=bC I 2;have eg:=nA I.out 2;refine skip_ (w1:=?_) (by rfl) rfl ?_ ?_;rotate_left
    ·go_simp;rfl
    refine hK.out _ _ ?_;clear hK K;refine done_ (done_of aw.out (by kernel_rfl)) ?_;try go_wp2
    go_roundg k1
    case measure=>have:=b1.out;omega
    case rel=>exact⟨(wrap64 (an+1)),(b6),(.slice cP b6.length cQ),(by first|rfl|(simp;done)|(simp[*];done)),H',⟨by have:=b1.out;omega⟩,⟨rT mD⟩,⟨sT ca⟩,⟨kS o⟩,⟨kS J⟩,⟨kP I⟩,⟨wZ HB⟩⟩
   ·obtain⟨rfl,rfl,rfl⟩:=s3 H;obtain⟨_,_,_,_,_,_⟩:=b3 I;obtain⟨_,_,_,_,_,_⟩:=b3 J;obtain⟨df,dh,di⟩:=Kd.S_slice lN.out;subst di;go_wp2;refine bodyPost_ret (results_cell_row rfl _ _ aA 26 #[.int .i64 aa,.slice aC ak.length aD,.slice df af.length dh] (0,0) _ rfl (kP J) Tryz.underlying26 rfl (by kernel_rfl)) rfl ?_;exact⟨_,_,by first|rfl|(simp[*,fM,fN]<;>rfl),rT mD,sT lN,wZ HB⟩
def stringslite_IndexByte.f (s:ByteArray) (c:Int):Option Int:=some (Lib.indexByte s.data.toList c.toNat.toUInt8)
theorem stringslite_IndexByte.calls (s:ByteArray) (c:Int) (r:Int) (w:World) (h:stringslite_IndexByte.f s c=some r):
  Calls Tryz.prog 157 #[.string s,.int .u8 c] w fun e w'=>e= .returned (.int .i64 r)∧Drawn0 w w':=by
 obtain rfl:=vZ h;clear h;go_enter Tryz.func157,Tryz.ntmps157;go_wp2;rw[run_callFunc_extern Tryz.func168 (by kernel_rfl) (by kernel_rfl) (by kernel_rfl) (e:=Extern.BytealgIndexByte.indexByte) (by kernel_rfl),Lib.run_indexByteString];simp only[Result.andThen];rw[Oper.upon_value];go_wp2;go_ret;exact⟨rfl,Drawn0.refl _⟩
def stringslite_Index.f (s sub:ByteArray):Option Int:=if sub.size=1 then(if s.size<9223372036854775807 then(if(sub.toList==s.toList)=true then some 0 else stringslite_IndexByte.f s (bt sub 0))else none)else none
theorem stringslite_Index.calls (s sub:ByteArray) (r:Int) (w:World) (h:stringslite_Index.f s sub=some r):
  Calls Tryz.prog 143 #[.string s,.string sub] w fun e w'=>e= .returned (.int .i64 r)∧Drawn0 w w':=by
 unfold stringslite_Index.f at h;by_cases h1:sub.size=1
 ·rw[if_pos h1]at h;by_cases h2:s.size<9223372036854775807
  ·rw[if_pos h2]at h;have eK:((sub.size:Int)==0)=false:=by rw[h1];rfl
   have eL:((sub.size:Int)==1)=true:=by rw[h1];rfl
   have eM:decide (0<sub.size)=true:=vG (by omega);have eh:(0:Int)<(sub.size:Int):=by omega
   have eN:decide ((0:Int)<(sub.size:Int))=true:=vG eh;by_cases h3:(sub.toList==s.toList)=true
   ·rw[if_pos h3]at h;obtain rfl:=vZ h;clear h h1 h2;go_enter Tryz.func143,Tryz.ntmps143;go_wp2;go_ret;exact⟨rfl,Drawn0.refl _⟩
   ·rw[if_neg h3]at h;have HI:=bm (fun(hh:0<sub.size) W=>stringslite_IndexByte.calls s ((sub[0]'hh).toNat:Int) r W (by rw[show((sub[0]'hh).toNat:Int)=bt sub 0 from bt_at sub 0 hh];exact h));have h4:(sub.toList==s.toList)=false:=uZ h3;clear h h1 h2 h3;go_enter Tryz.func143,Tryz.ntmps143;go_wp2_with fail;refine(HI.out _ _).mono ?_;rintro e w1 ⟨rfl,⟨n,rfl⟩⟩;go_wp2;go_ret;exact⟨rfl,⟨⟨n,rfl⟩⟩⟩
  ·rw[if_neg h2]at h;cases h
 ·rw[if_neg h1]at h;cases h
def stringslite_Cut.f (s sep:ByteArray):Option (ByteArray×ByteArray×Bool):=(stringslite_Index.f s sep).bind fun i=>if i<0 then some (s,(⟨#[]⟩:ByteArray),false)else if i.toNat+sep.size≤s.size then some (s.extract 0 i.toNat,s.extract (i.toNat+sep.size) s.size,true)else none
theorem stringslite_Cut.calls (s sep:ByteArray) (r1 r2:ByteArray) (r3:Bool) (w:World) (h:stringslite_Cut.f s sep=some (r1,r2,r3)):
  Calls Tryz.prog 120 #[.string s,.string sep] w fun e w'=>e= .returned (.tuple #[.string r1,.string r2,.bool r3])∧Drawn0 w w':=by
 unfold stringslite_Cut.f at h;obtain⟨i,hi,h⟩:=Option.bind_eq_some_iff.mp h;by_cases h0:i<0
 ·rw[if_pos h0]at h;obtain⟨rfl,rfl,rfl⟩:s=r1∧(⟨#[]⟩:ByteArray)=r2∧false=r3:=by simpa using h
  have HI:=bm (fun W=>stringslite_Index.calls s sep i W hi);have c1:decide (0≤i)=false:=vB (by omega);have c2:decide (i<0)=true:=vG h0;clear h hi h0;go_enter Tryz.func120,Tryz.ntmps120;go_wp2_with fail;refine(HI.out _).mono ?_;rintro e w1 ⟨rfl,⟨n,rfl⟩⟩;go_wp2;go_ret3;exact⟨rfl,⟨⟨n,rfl⟩⟩⟩
 ·rw[if_neg h0]at h;by_cases h1:i.toNat+sep.size≤s.size
  ·rw[if_pos h1]at h
   have eO:s.size<9223372036854775807:=by
    unfold stringslite_Index.f at hi;split at hi
    ·split at hi
     ·assumption
     ·cases hi
    ·cases hi
   obtain⟨rfl,rfl,rfl⟩:s.extract 0 i.toNat=r1∧s.extract (i.toNat+sep.size) s.size=r2∧true=r3:=by simpa using h
   clear h;obtain⟨n,rfl⟩:=Int.eq_ofNat_of_zero_le (by omega:0≤i);rw[Int.toNat_natCast]at h1⊢;have HI:=bm (fun W=>stringslite_Index.calls s sep n W hi);have c0:(0:Int)≤(n:Int):=by omega
   have c2:(n:Int)≤(s.size:Int):=by omega
   have c3:(0:Int)≤(n:Int)+(sep.size:Int):=by omega
   have c4:(n:Int)+(sep.size:Int)≤(s.size:Int):=by omega
   have c5:(n:Int)+(sep.size:Int)<9223372036854775807:=by omega
   clear hi h0 h1;go_enter Tryz.func120,Tryz.ntmps120;go_wp2_with fail;refine(HI.out _).mono ?_;rintro e w1 ⟨rfl,⟨m,rfl⟩⟩;go_wp2;go_quiet (fail);go_wp2;go_ret3;exact⟨rfl,Drawn0.step ⟨⟨m,rfl⟩⟩ _⟩
  ·rw[if_neg h1]at h;cases h
def strings_Cut.f (s sep:ByteArray):Option (ByteArray×ByteArray×Bool):=stringslite_Cut.f s sep
theorem strings_Cut.calls (s sep:ByteArray) (r1 r2:ByteArray) (r3:Bool) (w:World) (h:strings_Cut.f s sep=some (r1,r2,r3)):
  Calls Tryz.prog 85 #[.string s,.string sep] w fun e w'=>e= .returned (.tuple #[.string r1,.string r2,.bool r3])∧Drawn0 w w':=by
 have HI:=bm (fun W=>stringslite_Cut.calls s sep r1 r2 r3 W h);clear h;go_enter Tryz.func85,Tryz.ntmps85;go_wp2_with fail;refine(HI.out _).mono ?_;rintro e w1 ⟨rfl,⟨n,rfl⟩⟩;go_wp2;go_ret3;exact⟨rfl,⟨⟨n,rfl⟩⟩⟩
def jd.l0:Nat→ByteArray→Int→Int→Option (Bool)
 |0,_,_,_=>none
 |k+1,x0,x5,x6=>if x6<x5 then(if 0≤x6 then(if x6<(x0.size:Int)then(if(bt x0 x6)<32 then(some false)else(if(bt x0 x6)>126 then(some false)else(jd.l0 k x0 x5 (wrap64 (x6+1)))))else(none))else(none))else(some true)
def jd.f (k:Nat) (a0:ByteArray):Option (Bool):=jd.l0 k a0 (a0.size:Int) 0
theorem jd.gF:∀k,(∀y0 y1 y2,ku (jd.l0 k y0 y1 y2) (jd.l0 (k+1) y0 y1 y2))
 |0=>fun _ _ _=> .z (by simp only[jd.l0])
 |k+1=>by
  have i0:=jd.gF k;exact fun _ _ _=>by unfold jd.l0;infer_instance
instance jd.mo {k a0}:ku (jd.f k a0) (jd.f (k+1) a0):=by have i0:=jd.gF k;unfold jd.f;infer_instance
theorem jd.calls (k:Nat) (a0:ByteArray) (r:Bool) (w:World) (h:jd.f k a0=some r):
  Calls Tryz.prog 121 #[.string a0] w fun e w'=>e= .returned (.bool r)∧Drawn0 w w':=by
 have H:=h;clear h;unfold jd.f at H;have H':=bm H;clear H;go_enter Tryz.func121,Tryz.ntmps121;go_wp2;go_loopg [6] k (fun kq v6 w'=>∃(ao:Int),v6= .int .i64 ao∧gm (jd.l0 kq a0 (a0.size:Int) ao=some r)∧gm (kq≤k)∧Drawn0 w w')
 case atStart=>exact⟨(0),(by first|rfl|(simp;done)|(simp[*];done)),H',⟨Nat.le_refl _⟩,by repeat(first|exact Drawn0.refl _|apply Drawn0.step)⟩
 case round=>
  clear H';obtain⟨ao,rfl,HA,b1,⟨m1,rfl⟩⟩:=hrel;cases gk with
  |zero=>exact absurd HA.out (by simp[jd.l0])
  |succ k1=>
   have H:=HA.out;clear HA;simp only[jd.l0]at H;rcases vL H with⟨bg,H⟩|⟨bg,H⟩
   ·obtain⟨eB,H⟩:=vJ H;obtain⟨eC,H⟩:=vJ H;rcases vL H with⟨dj,H⟩|⟨dj,H⟩
    ·obtain rfl:=vZ H;have p5:0≤(ao:Int):=jK;have q5:ao<(a0.size:Int):=jK;have dk:=bt_at a0 ao;replace p5:=vI p5;replace q5:=vI q5;go_wp2;go_ret;exact vn
    ·rcases vL H with⟨a6,H⟩|⟨a6,H⟩
     ·obtain rfl:=vZ H;have p5:0≤(ao:Int):=jK;have q5:ao<(a0.size:Int):=jK;have dk:=bt_at a0 ao;replace p5:=vI p5;replace q5:=vI q5;have p7:0≤(ao:Int):=jK;have q7:ao<(a0.size:Int):=jK;have ei:=bt_at a0 ao;replace p7:=vI p7;replace q7:=vI q7;go_wp2;go_ret;exact vn
     ·have H':=bm H;clear H;have p5:0≤(ao:Int):=jK;have q5:ao<(a0.size:Int):=jK;have dk:=bt_at a0 ao;replace p5:=vI p5;replace q5:=vI q5;have p7:0≤(ao:Int):=jK;have q7:ao<(a0.size:Int):=jK;have ei:=bt_at a0 ao;replace p7:=vI p7;replace q7:=vI q7;go_wp2;go_roundg k1
      case measure=>have:=b1.out;omega
      case rel=>exact⟨(wrap64 (ao+1)),(by first|rfl|(simp;done)|(simp[*];done)),H',⟨by have:=b1.out;omega⟩,by repeat(first|exact Drawn0.refl _|apply Drawn0.step)⟩
   ·obtain rfl:=vZ H;go_wp2;go_ret;exact vn
def jh.j0:Nat→Bool→Int→ByteArray→Option (ByteArray)
 |0,_,_,_=>none
 |k+1,x7,xP,sv=>if x7=true then(some (⟨#[]⟩:ByteArray))else(if xP=0 then(if 6+sv.size≤9223372036854775807 then(some ((⟨#[102,105,114,115,116,32]⟩:ByteArray)++sv))else(none))else(if xP=1 then(if 4+sv.size≤9223372036854775807 then(some ((⟨#[97,108,108,32]⟩:ByteArray)++sv))else(none))else(some (⟨#[]⟩:ByteArray))))
def jh.f (k:Nat) (aa:Int) (ae:ByteArray):Option (ByteArray):=if(aa==2&&(ae.toList==([]:List UInt8)))=true then(some (⟨#[98,97,99,107]⟩:ByteArray))else(if ae.toList=([]:List UInt8)then(jh.j0 k true aa ae)else((jd.f k ae).bind fun a7=>(jh.j0 k (!a7) aa ae)))
theorem jh.gF:∀k,(∀y0 y1 y2,ku (jh.j0 k y0 y1 y2) (jh.j0 (k+1) y0 y1 y2))
 |0=>fun _ _ _=> .z (by simp only[jh.j0])
 |k+1=>by
  have i0:=jh.gF k;exact fun _ _ _=>by unfold jh.j0;infer_instance
instance jh.mo {k a0 a1}:ku (jh.f k a0 a1) (jh.f (k+1) a0 a1):=by have i0:=jh.gF k;unfold jh.f;infer_instance
theorem jh.calls (k:Nat) (aa:Int) (ae:ByteArray) (r:ByteArray) (w:World) (h:jh.f k aa ae=some r):
  Calls Tryz.prog 88 #[.agg #[.int .i64 aa,.string ae]] w fun e w'=>e= .returned (.string r)∧Below w.heap.size w w':=by
 have eD:=Tryz.underlying58;have HB:=bm (Below.refl w.heap.size w);have H:=h;clear h;unfold jh.f at H;rcases iT H with⟨c2,H⟩|⟨c2,H⟩
 ·have bg:(aa==2&&(ae.toList==([]:List UInt8)))=true:=c2;try have dm:(aa==2&&ae.toList.isEmpty)=true:=by have h_:=bg;(repeat rw[Hof.mZ]);exact h_
  (try(have dn:decide (aa=2&&(ae.toList==([]:List UInt8)))=true:=by simpa using c2));(try(have dp:(aa==2&&(ae.toList==([]:List UInt8)))=true:=by simpa using c2));clear c2;obtain rfl:=vZ H;go_enter Tryz.func88,Tryz.ntmps88;go_wp2_with (first|(refine mK 1 #[.int .i64 aa,.string ae] 58 ?_;intro cb hg _ al hb;have ay:=bm (al);have cw:=bG HB hg;replace HB:=bW HB hb;clear hb al hg;obtain⟨_,_,_,_⟩:=b2 ay));go_ret;exact vo HB
 ·have bg:(aa==2&&(ae.toList==([]:List UInt8)))=false:=by simpa using c2
  (try have dm:(aa==2&&ae.toList.isEmpty)=false:=by have h_:=bg;(repeat rw[Hof.mZ]);exact h_);(try(have dn:decide (aa=2&&(ae.toList==([]:List UInt8)))=false:=by simpa using c2));(try(have dp:(aa==2&&(ae.toList==([]:List UInt8)))=false:=by simpa using c2));(try(have eE:¬(aa=2&&(ae.toList==([]:List UInt8))):=by simpa using c2));clear c2;have cx:=bm H;clear H;go_enter Tryz.func88,Tryz.ntmps88;go_upto_region 3 with(first|(refine mK 1 #[.int .i64 aa,.string ae] 58 ?_;intro cb hg _ al hb;have ay:=bm (al);have cw:=bG HB hg;replace HB:=bW HB hb;clear hb al hg;obtain⟨_,_,_,_⟩:=b2 ay))
  (try simp only[Act.put,qA,qB,qC]);go_cut [7] (fun v7 wc=>∃(kq:Nat) (br:Bool),v7= .bool br∧gm (jh.j0 kq br aa ae=some r)∧gm (kq≤k)∧lE wc cb #[.int .i64 aa,.string ae] 58∧gm (Below w.heap.size w wc))
  case first=>
   have H:=cx.out;clear cx;rcases iT H with⟨c8,H⟩|⟨c8,H⟩
   ·obtain⟨a6,dq⟩:=vl c8;clear c8;(first|rw[a6]|(simp only[i64_w,i32_w];rw[a6])|skip);have H':=bm H;clear H;obtain⟨_,_,_,_⟩:=b2 ay;go_wp2;go_meet
    case rel=>exact⟨_,(true),(by first|rfl|(simp;done)|(simp[*];done)),H',⟨by first|omega|exact Nat.le_refl _⟩,⟨kS ay⟩,⟨wZ HB⟩⟩
   ·obtain⟨a6,dq⟩:=vk c8;(first|rw[a6]|(simp only[i64_w,i32_w];rw[a6])|skip);obtain⟨a7,ej,H⟩:=bE H;try dsimp only at H
    have H':=bm H;clear H;obtain⟨_,_,_,_⟩:=b2 ay;go_wp2_with (first|(go_at_call 121;(with_reducible refine(jd.calls k ae a7 _ ej.out).mono ?_);rintro e w' ⟨rfl,⟨nd,rfl⟩⟩));go_meet
    case rel=>exact⟨_,(!a7),(by first|rfl|(simp;done)|(simp[*];done)),H',⟨by first|omega|exact Nat.le_refl _⟩,⟨kS ay⟩,⟨wZ HB⟩⟩
  case rest=>
   clear cx;obtain⟨kq,br,rfl,HA,eP,ay,HB⟩:=hcut;cases kq with
   |zero=>exact absurd HA.out (by simp[jh.j0])
   |succ sl=>
    have H:=HA.out;clear HA;simp only[jh.j0]at H;by_cases cd:br=true
    ·subst cd;rw[if_pos rfl]at H;obtain rfl:=vZ H;go_wp2;go_ret;exact vo HB
    ·replace cd:=uZ cd;subst cd;rw[if_neg vR]at H;rcases iT H with⟨bs,H⟩|⟨bs,H⟩
     ·obtain⟨cy,cz⟩:=vl bs;clear bs;obtain⟨cA,H⟩:=iN H;have ek:=vI cA;have el:=vG cA;try have en:(9223372036854775807<6+ae.size)=False:=eq_false (Nat.not_lt.2 cA)
      obtain rfl:=vZ H;obtain⟨_,_,_,_⟩:=b2 ay;go_wp2;go_ret;exact vo HB
     ·obtain⟨cy,cz⟩:=vk bs;rcases iT H with⟨bu,H⟩|⟨bu,H⟩
      ·obtain⟨cB,cC⟩:=vl bu;clear bu;obtain⟨cD,H⟩:=iN H;have eo:=vI cD;have ep:=vG cD;try have er:(9223372036854775807<4+ae.size)=False:=eq_false (Nat.not_lt.2 cD)
       obtain rfl:=vZ H;obtain⟨_,_,_,_⟩:=b2 ay;go_wp2;go_ret;exact vo HB
      ·obtain⟨cB,cC⟩:=vk bu;obtain rfl:=vZ H;obtain⟨_,_,_,_⟩:=b2 ay;go_wp2;go_ret;exact vo HB
end Go.Proofs.YtihgpkohglcijaaGreatDoor.P
