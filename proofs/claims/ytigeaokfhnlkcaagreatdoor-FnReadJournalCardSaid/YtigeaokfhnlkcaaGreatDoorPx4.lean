import Derived.Test.YtigeaokfhnlkcaaGreatDoorPx0
import Derived.Test.YtigeaokfhnlkcaaGreatDoorPx1
import Derived.Test.YtigeaokfhnlkcaaGreatDoorPx3
namespace Go.Proofs.YtigeaokfhnlkcaaGreatDoor.P
open Go.RowKit YtigeaokfhnlkcaaGreatDoorW PrintWords PrintLast PrintMore
attribute [local go_sem] max2_int min2_int max_two min_two max_three min_three max_four min_four
set_option linter.unusedVariables false
set_option linter.unusedSimpArgs false
attribute [local go_sem high] wA
set_option maxHeartbeats 8000000
set_option maxRecDepth 100000
abbrev AQ:Array Bool:= #[false,false,false,false,false,false,false,false,false]
abbrev Cn:Array Bool:= #[true,true,true,true,true,false,false,false,false]
abbrev Co:Array Bool:= #[true,true,true,true,true,false,false,true,false]
abbrev Cp:Array Bool:= #[true,true,true,true,true,true,false,false,false]
abbrev Cq:Array Bool:= #[true,true,true,true,true,true,true,true,false]
abbrev Be:Array Bool:= #[true,true,true,true,true,true,true,true,true]
theorem tc (g:Nat) (lb:Array Value) (eg:∀args w,(callFunc g args).run Tryz.prog w= .ok (.enter g args) w) (p:List Int→Option Bool)
  (A:Option Addr) (c:Nat) (l:List (List Int)) (r:Bool) (w:World) (hr:Kd.C (Kd.slice 3 (Kd.int .i64)) w A l.length l) (hp:xe g lb p w) (h:Hof.zi p l=some r):
  Calls Tryz.prog 53 #[.slice A l.length c,.func (.func g) #[] lb] w fun e w'=>e= .returned (.bool r)∧Below w.heap.size w w':=by
 obtain⟨i,hi,hr'⟩:=Option.bind_eq_some_iff.mp h;obtain rfl:=oJ hr';clear h;have bB:=tJ g lb eg p A c l i w hr hp hi;clear hi hp hr hr';have HC:=bm bB;clear bB;go_enter Tryz.func53,Tryz.ntmps53;go_wp2_with (go_at_call 83;refine HC.out.mono ?_;rintro e w' ⟨rfl,hb'⟩);go_ret;exact⟨rfl,hb'⟩
def oc.no (k:Nat) (a0:Int) (x:List Int):Option Bool:=(oM.f k a0 x).bind fun b=>some (!b)
def oc.f (k:Nat) (aa:Int) (ae:List Int) (ab:List (List Int)):Option Bool:=(oM.f k aa ae).bind fun t=>if t=true then(if(ab.length:Int)≤10 then(Hof.zi (oc.no k aa) ab).bind fun b=>some (!b)else some false)else some false
theorem vx {α:Type} {p q:α→Option Bool} (h:∀x,LeO (p x) (q x)):∀(l:List α) (i:Int),LeO (Hof.uh p l i) (Hof.uh q l i)
 | [],_=>LeO.refl _
 |x::l,i=>by
  unfold Hof.uh;refine LeO.bind (h x) (fun b=>?_);split
  ·exact LeO.refl _
  ·exact vx h l (i+1)
theorem oc.mono:∀a0 a1 a2 k,LeO (oc.f k a0 a1 a2) (oc.f (k+1) a0 a1 a2):=by
 intro a0 a1 a2 k;unfold oc.f;refine LeO.bind (oM.mono _ _ _) (fun t=>LeO.ite (LeO.ite (LeO.bind ?_ (fun b=>LeO.refl _)) (LeO.refl _)) (LeO.refl _));unfold Hof.zi;refine LeO.bind (vx (fun x=>?_) _ _) (fun b=>LeO.refl _);unfold oc.no;exact LeO.bind (oM.mono _ _ _) (fun b=>LeO.refl _)
instance oc.mo {k a0 a1 a2}:ph (oc.f k a0 a1 a2) (oc.f (k+1) a0 a1 a2):=⟨oc.mono a0 a1 a2 k⟩
theorem oc.gives (k:Nat) (w:World) (B:Nat) (a0:Int) (hB:B<w.heap.size) (hc:w.cell? ⟨B,0,none⟩=some (.int .i64 a0)):xe 54 #[.pointer (some ⟨B,0,none⟩)] (oc.no k a0) w:=fun W A c l b hb hC hl hp=>by
 have hc':=(hb.cell (p:=⟨B,0,none⟩) hB).trans hc;obtain⟨t,ht,bD⟩:=Option.bind_eq_some_iff.mp hp;obtain rfl:=oJ bD;have HS:=bm (oM.calls k a0 A c l t W hC hl ht);clear hc hb hp ht bD hC hl;have hu:=Tryz.underlying26;go_enter Tryz.func54,Tryz.ntmps54;go_wp2_with fail;refine HS.out.mono ?_;rintro e w1 ⟨rfl,aJ⟩;go_wp2;go_ret;exact⟨rfl,aJ⟩
theorem oc.calls (k:Nat) (aa:Int) (aC:Option Addr) (aD:Nat) (ae:List Int) (ax:Option Addr) (ay:Nat) (ab:List (List Int)) (r:Bool) (w:World) (aQ:Kd.C (Kd.int .i64) w aC ae.length ae) (aT:ae.length≤aD) (aU:Kd.C (Kd.slice 3 (Kd.int .i64)) w ax ab.length ab) (bl:ab.length≤ay) (h:oc.f k aa ae ab=some r):
  Calls Tryz.prog 27 #[.agg #[.int .i64 aa,.slice aC ae.length aD,.slice ax ab.length ay]] w fun e w'=>e= .returned (.bool r)∧Below w.heap.size w w':=by
 have hu:=Tryz.underlying26;obtain⟨t,ht,h⟩:=Option.bind_eq_some_iff.mp h;have cn:=bm aQ;have dU:=bm aU;have HB:=bm (Below.refl w.heap.size w);have HA:=bm (xB HB.out (.cells #[.int .i64 aa,.slice aC ae.length aD,.slice ax ab.length ay] 26));have HT:=bm (fun W hR=>oM.calls k aa aC aD ae t W hR aT ht);clear aQ aU ht aT;cases t with
 |false=>
  obtain rfl:false=r:=by simpa using h
  clear h;go_enter Tryz.func27,Tryz.ntmps27;go_wp2_with fail;refine(HT.out _ (Kd.C_below cn.out HA.out)).mono ?_;rintro e w1 ⟨rfl,aJ⟩;have bn:=bm (below_then HA.out HA.out.size aJ);clear aJ;go_wp2;go_ret;exact⟨rfl,bn.out⟩
 |true=>
  rw[if_pos rfl]at h;by_cases hl:(ab.length:Int)≤10
  ·rw[if_pos hl]at h;obtain⟨b,hb,h⟩:=Option.bind_eq_some_iff.mp h;obtain rfl:=oJ h;have HC:=bm (fun W hR hp=>tc 54 #[.pointer (some ⟨w.heap.size,0,none⟩)] (Hof.enters Tryz.func54 (by kernel_rfl) rfl) (oc.no k aa) ax ay ab b W hR hp hb);clear h hb;have hl':decide ((ab.length:Int)≤10)=true:=mV hl;have dV:decide (ab.length≤10)=true:=mV (by omega);clear hl;go_enter Tryz.func27,Tryz.ntmps27;go_wp2_with fail;refine(HT.out _ (Kd.C_below cn.out HA.out)).mono ?_;rintro e w1 ⟨rfl,aJ⟩;have k0:w1.cell? ⟨w.heap.size,0,none⟩=some (.int .i64 aa):=(aJ.cell (p:=⟨w.heap.size,0,none⟩) (by simp)).trans (by simp);have k2:w1.cell? ⟨w.heap.size,2,none⟩=some (.slice ax ab.length ay):=(aJ.cell (p:=⟨w.heap.size,2,none⟩) (by simp)).trans (by simp);have hz:w.heap.size<w1.heap.size:=Nat.lt_of_lt_of_le (by simp) aJ.size;have bn:=bm (below_then HA.out HA.out.size aJ);have HG:=bm (oc.gives k w1 w.heap.size aa hz k0);clear aJ hz;go_wp2_with fail;refine(HC.out _ (Kd.C_below dU.out bn.out) HG.out).mono ?_;rintro e w2 ⟨rfl,dW⟩;go_wp2;go_ret;exact⟨rfl,below_then bn.out bn.out.size dW⟩
  ·rw[if_neg hl]at h;obtain rfl:=oJ h;clear h;have hl':decide ((ab.length:Int)≤10)=false:=mP hl;have dV:decide (ab.length≤10)=false:=mP (by omega);clear hl;go_enter Tryz.func27,Tryz.ntmps27;go_wp2_with fail;refine(HT.out _ (Kd.C_below cn.out HA.out)).mono ?_;rintro e w1 ⟨rfl,aJ⟩;have k2:w1.cell? ⟨w.heap.size,2,none⟩=some (.slice ax ab.length ay):=(aJ.cell (p:=⟨w.heap.size,2,none⟩) (by simp)).trans (by simp);have bn:=bm (below_then HA.out HA.out.size aJ);clear aJ;go_wp2;go_ret;exact⟨rfl,bn.out⟩
def kp.l0:Nat→List (List Int)→Int→Int→Int→List Int→List (List Int)→Option (Int×List Int×(List (List Int)))
 |0,_,_,_,_,_,_=>none
 |k+1,x14,x15,x16,xF,xG,vL=>if x16<x15 then(if 0≤x16 then(if x16<(x14.length:Int)then((some (([]:List Int):List Int)).bind fun aV=>(if aV.length+(oP x14 x16).length<17592186044416 then(if vL.length<5864062014805 then(kp.l0 k x14 x15 (wrap64 (x16+1)) xF xG (vL++ [(aV++(oP x14 x16))]))else(none))else(none)))else(none))else(none))else(some (xF,xG,vL))
def kp.f (k:Nat) (aa:Int) (ae:List Int) (ab:List (List Int)):Option (Int×List Int×(List (List Int))):=(some (([]:List Int):List Int)).bind fun aE=>(if aE.length+ae.length<17592186044416 then(kp.l0 k ab (ab.length:Int) 0 aa (aE++ae) ([]:List (List Int)))else(none))
theorem kp.kU:∀k,(∀y0 y1 y2 y3 y4 y5,ph (kp.l0 k y0 y1 y2 y3 y4 y5) (kp.l0 (k+1) y0 y1 y2 y3 y4 y5))
 |0=>fun _ _ _ _ _ _=> .z (by simp only[kp.l0])
 |k+1=>by
  have i0:=kp.kU k;exact fun _ _ _ _ _ _=>by unfold kp.l0;infer_instance
instance kp.mo {k a0 a1 a2}:ph (kp.f k a0 a1 a2) (kp.f (k+1) a0 a1 a2):=by have i0:=kp.kU k;unfold kp.f;infer_instance
def kp.T1:Bool×List (List Nat×List Nat):=(true,[([],[]),([0],[0]),([],[]),([],[]),([3],[3]),([2,4],[2,4]),([1,5],[1,5]),([],[]),([7,6,5,0,1,2,3,4,5,6,7],[6,7])])
def kp.B1:List Nat:=[0,1,0,0,8,28,63,0,255]
theorem kp.zm:rtab .any (opsOf Tryz.f28 1)=kp.T1:=by kernel_rfl
theorem kp.wB:waitsOk kp.T1.2 kp.B1=true:=by kernel_rfl
def kp.T5:Bool×List (List Nat×List Nat):=(true,[([],[]),([0],[0]),([],[]),([],[]),([2,3],[2,3]),([4],[4]),([1,5,4],[1,5]),([0,1,2,3,4,5,6],[]),([7,6,6,0,1,2,3,4,5,6],[6,7])])
def kp.B5:List Nat:=[0,1,0,0,12,28,63,127,255]
theorem kp.zn:rtab .any (opsOf Tryz.f28 5)=kp.T5:=by kernel_rfl
theorem kp.wC:waitsOk kp.T5.2 kp.B5=true:=by kernel_rfl
theorem kp.calls (k:Nat) (aa:Int) (aC:Option Addr) (aD:Nat) (ae:List Int) (ax:Option Addr) (ay:Nat) (ab:List (List Int)) (r1:Int) (r2:List Int) (r3:List (List Int)) (w:World) (aQ:Kd.C (Kd.int .i64) w aC ae.length ae) (aT:ae.length≤aD) (aU:Kd.C (Kd.slice 3 (Kd.int .i64)) w ax ab.length ab) (bl:ab.length≤ay) (h:kp.f k aa ae ab=some (r1,r2,r3)):
  Calls Tryz.prog 28 #[.agg #[.int .i64 aa,.slice aC ae.length aD,.slice ax ab.length ay]] w fun e w'=>∃cp cH:Value,e= .returned (.agg #[.int .i64 r1,cp,cH])∧Kd.R (Kd.int .i64) 3 w' w.heap.size (fun _=>True) cp r2∧Kd.S (Kd.slice 3 (Kd.int .i64)) 23 w' w.heap.size (fun k_=>some k_≠(cp:Value).ownBlock) cH r3∧Below w.heap.size w w':=by
 have eA:=Tryz.underlying26;have bo:=bm aQ;have dX:=bm aT;clear aQ aT;have cq:=bm aU;have dY:=bm bl;clear aU bl;have HB:=bm (Below.refl w.heap.size w);have H:=h;clear h;unfold kp.f at H;obtain⟨aE,bp⟩:∃y_:List Int,y_=(([]:List Int)):=⟨_,rfl⟩;replace H:(if aE.length+ae.length<17592186044416 then(kp.l0 k ab (ab.length:Int) 0 aa (aE++ae) ([]:List (List Int)))else(none))=some (r1,r2,r3):=by first|(rw[bp];exact H)|exact H
 have bc:=bm bp;clear bp;obtain⟨c2,H⟩:=iN H;have bF:=bm c2;clear c2;obtain⟨ak,bq⟩:∃y_:List Int,y_=(aE++ae):=⟨_,rfl⟩;rw[←bq]at H
 have br:=bm bq;clear bq;have H':=bm H;clear H;go_enter Tryz.func28,Tryz.ntmps28;try go_wp2_with (first|(refine pN 1 #[.int .i64 aa,.slice aC ae.length aD,.slice ax ab.length ay] 26 ?_;intro aj hg w3 al hb;have o:=bm (al);have dZ:=bG HB hg;replace HB:=bW HB hb;clear hb al hg)|(refine pN 2 #[.int .i64 0,.slice none 0 0,.slice none 0 0] 26 ?_;intro aG hg w4 al hb;have J:=bm (al);have ea:=bG HB hg;replace HB:=bW HB hb;have cr:=bL o hg;have ct:=bM o hg;replace o:=bU o hb;clear hb al hg))
 replace o:=mQ o;replace J:=mQ J;replace HB:=mW HB;refine start_ (n:=9) (S:=fun w'=>w'.cell? ⟨aj,0,none⟩=some (.int .i64 aa)∧w'.cell? ⟨aj,1,none⟩=some (.slice aC ae.length aD)∧w'.cell? ⟨aj,2,none⟩=some (.slice ax ab.length ay)) (ds:=[]) AQ (by kernel_rfl) rfl rfl ⟨(nD o.out 0).trans rfl,(nD o.out 1).trans rfl,(nD o.out 2).trans rfl⟩ (fun hHeld=>?_);refine with_tabW kp.zm kp.wB (fun aw cf=>?_);generalize w4.drew=w5 at o J HB hHeld⊢;refine pA 0 6 aw ?_ ?_ ?_ ?_ (pA 3 9 aw ?_ ?_ ?_ ?_ (tA 1 7 aw cf hHeld ?_ ?_ ?_ ?_ (tA 4 10 aw cf hHeld ?_ ?_ ?_ ?_ ?_)))
 all_goals first|(rintro w' ⟨s0,s1,s2⟩;go_simp;with_reducible rfl)|(intro w';go_simp;with_reducible rfl)|(simp only[Act.put,qA,qB,qC,i64_w,i32_w];rfl)|skip
 refine join_ (σ:=Value×Value×Nat) 1 Cq (fun s_=>[(8,s_.1),(11,s_.2.1),(3,.pointer (some ⟨s_.2.2,0,none⟩)),(12,.agg #[.int .i64 aa,s_.2.1,.slice none 0 0])]) (fun s_ w'=>(w'.cell? ⟨aj,0,none⟩=some (.int .i64 aa)∧w'.cell? ⟨aj,1,none⟩=some (.slice aC ae.length aD)∧w'.cell? ⟨aj,2,none⟩=some (.slice ax ab.length ay))∧(Kd.R (Kd.int .i64) 3 w' w.heap.size (fun _=>True) s_.2.1 ak)∧(w'.heap[aj]?=some (.cells #[.int .i64 aa,.slice aC ae.length aD,.slice ax ab.length ay] 26 (0,0)))∧(w'.heap[aG]?=some (.cells #[.int .i64 0,.slice none 0 0,.slice none 0 0] 26 (0,0)))∧(w'.heap[s_.2.2]?=some (.cells #[.int .i64 0,.slice none 0 0,.slice none 0 0] 26 (0,0)))∧(w.heap.size≤s_.2.2)∧(w.heap.size≤s_.2.2)∧(aj≠s_.2.2)∧(s_.2.2≠aj)∧(aG≠s_.2.2)∧(s_.2.2≠aG)∧(Below w.heap.size w w')) ?_ ?_;rotate_left
 ·intro qw;refine two_ (i:=2) (j:=7) (Ni:=some 8) (Nj:=some 3) Cn #[true,true,false,true,true,false,false,true,false] rfl rfl rfl rfl (two_of aw.out (by kernel_rfl)) (by decide) (by decide) (fun K hK=>?_) (fun K hK=>?_)
  ·skip;refine Kd.R_lit_step (Kd.int .i64) _ 3 ?hg (N:=8) ?hd (xs:=([]:List Int)) (inner:=[]) (ok:=fun _=>True) (okp:=fun _=>True) ?hr ?hp (fun _ hk=>hk) trivial (Below.refl _ _) (Nat.le_refl _) (by simp) ?_;(case hd=>rfl);(case hg=>rfl);(case hr=>first|(go_simp;done)|(go_simp;rfl));(case hp=>exact(Reps.none _ _));intro aN w6 bH hb bJ aW;clear bJ aW;(first|rw[←bc.out]at bH|(simp only[Int.reduceToNat]at bH;rw[←bc.out]at bH));have ah:=rL bH HB;replace o:=bU o hb;replace J:=bU J hb;replace HB:=bW HB hb;clear hb bH;refine hK.out _ _ ⟨(nD o.out 0).trans rfl,(nD o.out 1).trans rfl,(nD o.out 2).trans rfl⟩ (fun hHeld=>?_);clear hK K;refine nm 8 ?_
   refine two_ (i:=5) (j:=7) (Ni:=some 11) (Nj:=some 3) Cp Co rfl rfl rfl rfl (two_of aw.out (by kernel_rfl)) (by decide) (by decide) (fun K hK=>?_) (fun K hK=>?_)
   ·skip;refine Kd.R_append_rows_step (Kd.int .i64) (w0:=w) w.heap.size (by rfl) (.tmp 8) (.tmp 10) 23 3 (.int .i64 0) 8 rfl Tryz.underlying23 info3 rfl (by decide) (by omega) aN aE ae _ _ _ (fun _=>True) (fun _=>False) rfl rfl ?aO ?aR (fun _ _ h=>h) (fun _ h=>h.elim) ?aF ?aB ?aS ?aL ?_;(case aR=>repeat(first|exact(Kd.C_below bo.out HB.out)|(with_reducible refine Kd.C_alloc ?_ _)|(with_reducible refine Kd.C_drewN ?_ _)|(with_reducible refine Kd.C_drew ?_)));(case aB=>exact(wZ HB));(case aF=>exact(fun _ _=>trivial));(case aO=>exact(rS ah));(case aS=>exact(below_size (wZ HB)));(case aL=>have:=bF.out;omega);intro v175 w8 ho hb hg aY
    rw[←br.out]at ho;replace o:=bN o hg (Kd.R_ne ah.out o.out (by decide));replace J:=bN J hg (Kd.R_ne ah.out J.out (by decide));replace HB:=bm (hb);have aq:=bm (ho);clear ah ho hb hg aY
    obtain⟨eb,ec,cI⟩:=Kd.R_slice aq.out;(first|subst cI|(injection cI with qk rn ql;have aZ:=qk.symm;have a6:=ql.symm;clear qk rn ql;subst aZ;subst a6));refine hK.out _ _ ⟨(nD o.out 0).trans rfl,(nD o.out 1).trans rfl,(nD o.out 2).trans rfl⟩ (fun hHeld=>?_);clear hK K;refine nm 11 ?_
    refine pA 6 12 aw ?_ ?_ ?_ ?_ ?_
    all_goals first|(intro w';go_simp;with_reducible rfl)|(simp only[Act.put,qA,qB,qC,i64_w,i32_w];rfl)|skip
    refine oA 7 (some 3) aw (fun K hK=>?_);refine box_step ?hg (N:=3) ?hd (cs:= #[.int .i64 0,.slice none 0 0,.slice none 0 0]) (t:=26) ?hr ?_;(case hd=>rfl);(case hg=>rfl);(case hr=>first|(go_simp;done)|(go_simp;rfl));intro ai hg eK al hb;replace aq:=bR aq hb;have I:=bm (al);have aK:=bG HB hg;have aM:=bG HB hg;replace HB:=bW HB hb;have ad:=bL o hg;have ar:=bM o hg;replace o:=bU o hb;have au:=bL J hg;have av:=bM J hg;replace J:=bU J hb;clear hb al hg;refine hK.out _ _ ⟨(nD o.out 0).trans rfl,(nD o.out 1).trans rfl,(nD o.out 2).trans rfl⟩ (fun hHeld=>?_);clear hK K;refine nm 3 ?_
    exact norm_ (by simp only[putAll,Act.put,qA,qB,qC]) (qw (aN,.slice eb ak.length ec,ai) _ ⟨hHeld,(rS aq),(kS o),(kS J),(kS I),aK.out,aM.out,ad.out,ar.out,au.out,av.out,(wZ HB)⟩)
   ·skip;refine box_step ?hg (N:=3) ?hd (cs:= #[.int .i64 0,.slice none 0 0,.slice none 0 0]) (t:=26) ?hr ?_;(case hd=>rfl);(case hg=>rfl);(case hr=>first|(go_simp;done)|(go_simp;rfl));intro ai hg w8 al hb;replace ah:=bR ah hb;have I:=bm (al);have aK:=bG HB hg;have aM:=bG HB hg;replace HB:=bW HB hb;have ad:=bL o hg;have ar:=bM o hg;replace o:=bU o hb;have au:=bL J hg;have av:=bM J hg;replace J:=bU J hb;clear hb al hg;refine hK.out _ _ ⟨(nD o.out 0).trans rfl,(nD o.out 1).trans rfl,(nD o.out 2).trans rfl⟩ (fun hHeld=>?_);clear hK K;refine nm 3 ?_
    refine oA 5 (some 11) aw (fun K hK=>?_);refine Kd.R_append_rows_step (Kd.int .i64) (w0:=w) w.heap.size (by rfl) (.tmp 8) (.tmp 10) 23 3 (.int .i64 0) 8 rfl Tryz.underlying23 info3 rfl (by decide) (by omega) aN aE ae _ _ _ (fun _=>True) (fun _=>False) rfl rfl ?aO ?aR (fun _ _ h=>h) (fun _ h=>h.elim) ?aF ?aB ?aS ?aL ?_;(case aR=>repeat(first|exact(Kd.C_below bo.out HB.out)|(with_reducible refine Kd.C_alloc ?_ _)|(with_reducible refine Kd.C_drewN ?_ _)|(with_reducible refine Kd.C_drew ?_)));(case aB=>exact(wZ HB));(case aF=>exact(fun _ _=>trivial));(case aO=>exact(rS ah));(case aS=>exact(below_size (wZ HB)));(case aL=>have:=bF.out;omega);intro v175 w9 ho hb hg aY
    rw[←br.out]at ho;replace o:=bN o hg (Kd.R_ne ah.out o.out (by decide));replace J:=bN J hg (Kd.R_ne ah.out J.out (by decide));replace I:=bN I hg (Kd.R_ne ah.out I.out (by decide));replace HB:=bm (hb);have aq:=bm (ho);clear ah ho hb hg aY
    obtain⟨bO,bT,bf⟩:=Kd.R_slice aq.out;(first|subst bf|(injection bf with qk rn ql;have aZ:=qk.symm;have a6:=ql.symm;clear qk rn ql;subst aZ;subst a6));refine hK.out _ _ ⟨(nD o.out 0).trans rfl,(nD o.out 1).trans rfl,(nD o.out 2).trans rfl⟩ (fun hHeld=>?_);clear hK K;refine nm 11 ?_
    refine pA 6 12 aw ?_ ?_ ?_ ?_ ?_
    all_goals first|(intro w';go_simp;with_reducible rfl)|(simp only[Act.put,qA,qB,qC,i64_w,i32_w];rfl)|skip
    exact norm_ (by simp only[putAll,Act.put,qA,qB,qC]) (qw (aN,.slice bO ak.length bT,ai) _ ⟨hHeld,(rS aq),(kS o),(kS J),(kS I),aK.out,aM.out,ad.out,ar.out,au.out,av.out,(wZ HB)⟩)
  ·skip;refine box_step ?hg (N:=3) ?hd (cs:= #[.int .i64 0,.slice none 0 0,.slice none 0 0]) (t:=26) ?hr ?_;(case hd=>rfl);(case hg=>rfl);(case hr=>first|(go_simp;done)|(go_simp;rfl));intro ai hg w6 al hb;have I:=bm (al);have aK:=bG HB hg;have aM:=bG HB hg;replace HB:=bW HB hb;have ad:=bL o hg;have ar:=bM o hg;replace o:=bU o hb;have au:=bL J hg;have av:=bM J hg;replace J:=bU J hb;clear hb al hg;refine hK.out _ _ ⟨(nD o.out 0).trans rfl,(nD o.out 1).trans rfl,(nD o.out 2).trans rfl⟩ (fun hHeld=>?_);clear hK K;refine nm 3 ?_
   refine oA 2 (some 8) aw (fun K hK=>?_);refine Kd.R_lit_step (Kd.int .i64) _ 3 ?hg (N:=8) ?hd (xs:=([]:List Int)) (inner:=[]) (ok:=fun _=>True) (okp:=fun _=>True) ?hr ?hp (fun _ hk=>hk) trivial (Below.refl _ _) (Nat.le_refl _) (by simp) ?_;(case hd=>rfl);(case hg=>rfl);(case hr=>first|(go_simp;done)|(go_simp;rfl));(case hp=>exact(Reps.none _ _));intro aN w7 bV hb bJ aW;clear bJ aW;(first|rw[←bc.out]at bV|(simp only[Int.reduceToNat]at bV;rw[←bc.out]at bV));have ah:=rL bV HB;replace o:=bU o hb;replace J:=bU J hb;replace I:=bU I hb;replace HB:=bW HB hb;clear hb bV;refine hK.out _ _ ⟨(nD o.out 0).trans rfl,(nD o.out 1).trans rfl,(nD o.out 2).trans rfl⟩ (fun hHeld=>?_);clear hK K;refine nm 8 ?_
   refine oA 5 (some 11) aw (fun K hK=>?_);refine Kd.R_append_rows_step (Kd.int .i64) (w0:=w) w.heap.size (by rfl) (.tmp 8) (.tmp 10) 23 3 (.int .i64 0) 8 rfl Tryz.underlying23 info3 rfl (by decide) (by omega) aN aE ae _ _ _ (fun _=>True) (fun _=>False) rfl rfl ?aO ?aR (fun _ _ h=>h) (fun _ h=>h.elim) ?aF ?aB ?aS ?aL ?_;(case aR=>repeat(first|exact(Kd.C_below bo.out HB.out)|(with_reducible refine Kd.C_alloc ?_ _)|(with_reducible refine Kd.C_drewN ?_ _)|(with_reducible refine Kd.C_drew ?_)));(case aB=>exact(wZ HB));(case aF=>exact(fun _ _=>trivial));(case aO=>exact(rS ah));(case aS=>exact(below_size (wZ HB)));(case aL=>have:=bF.out;omega);intro v175 w9 ho hb hg aY
   rw[←br.out]at ho;replace o:=bN o hg (Kd.R_ne ah.out o.out (by decide));replace J:=bN J hg (Kd.R_ne ah.out J.out (by decide));replace I:=bN I hg (Kd.R_ne ah.out I.out (by decide));replace HB:=bm (hb);have aq:=bm (ho);clear ah ho hb hg aY
   obtain⟨bO,bT,bf⟩:=Kd.R_slice aq.out;(first|subst bf|(injection bf with qk rn ql;have aZ:=qk.symm;have a6:=ql.symm;clear qk rn ql;subst aZ;subst a6));refine hK.out _ _ ⟨(nD o.out 0).trans rfl,(nD o.out 1).trans rfl,(nD o.out 2).trans rfl⟩ (fun hHeld=>?_);clear hK K;refine nm 11 ?_
   refine pA 6 12 aw ?_ ?_ ?_ ?_ ?_
   all_goals first|(intro w';go_simp;with_reducible rfl)|(simp only[Act.put,qA,qB,qC,i64_w,i32_w];rfl)|skip
   exact norm_ (by simp only[putAll,Act.put,qA,qB,qC]) (qw (aN,.slice bO ak.length bT,ai) _ ⟨hHeld,(rS aq),(kS o),(kS J),(kS I),aK.out,aM.out,ad.out,ar.out,au.out,av.out,(wZ HB)⟩)
 rintro⟨aN,v175,ai⟩ wD ⟨zo,xH,xI,xJ,xK,xL,xM,xN,xO,xP,xQ,tv⟩;have aq:kn (Kd.R (Kd.int .i64) 3 wD w.heap.size (fun _=>True) v175 ak):=⟨xH⟩;replace o:pK wD aj #[.int .i64 aa,.slice aC ae.length aD,.slice ax ab.length ay] 26:=⟨xI⟩;replace J:pK wD aG #[.int .i64 0,.slice none 0 0,.slice none 0 0] 26:=⟨xJ⟩;have I:pK wD ai #[.int .i64 0,.slice none 0 0,.slice none 0 0] 26:=⟨xK⟩;have aK:kn (w.heap.size≤ai):=⟨xL⟩;have aM:kn (w.heap.size≤ai):=⟨xM⟩;have ad:kn (aj≠ai):=⟨xN⟩;have ar:kn (ai≠aj):=⟨xO⟩;have au:kn (aG≠ai):=⟨xP⟩;have av:kn (ai≠aG):=⟨xQ⟩;replace HB:kn (Below w.heap.size w wD):=⟨tv⟩;clear xH xI xJ xK xL xM xN xO xP xQ tv;have hHeld:wD.cell? ⟨aj,0,none⟩=some (.int .i64 aa)∧wD.cell? ⟨aj,1,none⟩=some (.slice aC ae.length aD)∧wD.cell? ⟨aj,2,none⟩=some (.slice ax ab.length ay):=zo;obtain⟨aH,aI,ch⟩:=Kd.R_slice aq.out;(first|subst ch|(injection ch with qk rn ql;have aZ:=qk.symm;have a6:=ql.symm;clear qk rn ql;subst aZ;subst a6));refine norm_ (a':=?_) ?_ ?_;rotate_left
 ·simp only[putAll,Act.put,qA,qB,qC];rfl
 refine oA 8 (none) aw (fun K hK=>?_);have eB:=bC I 0;have ed:=rl I.out 0;have eC:=bC I 1;have ee:=rl I.out 1;have eD:=bC I 2;have ef:=rl I.out 2;refine skip_ (w1:=?_) (by rfl) rfl ?_ ?_;rotate_left
 ·go_simp;rfl
 refine hK.out _ _ ⟨((pX ad).trans (((pX ad).trans (((pX ad).trans (hHeld.1)))))),((pX ad).trans (((pX ad).trans (((pX ad).trans (hHeld.2.1)))))),((pX ad).trans (((pX ad).trans (((pX ad).trans (hHeld.2.2))))))⟩ (fun hHeld=>?_);clear hK K;refine done_ (done_of aw.out (by kernel_rfl)) ?_;obtain⟨bZ,b0,cJ,b1,b4,cK⟩:=b3 o;try go_wp2
 go_loopg [16] k (fun kq eh w'=>∃(an:Int) (ag:List (List Int)) (az:Value),eh= .int .i64 an∧kn (kp.l0 kq ab (ab.length:Int) an aa ak ag=some (r1,r2,r3))∧kn (kq≤k)∧kn (Kd.R (Kd.int .i64) 3 w' w.heap.size (fun _=>True) (.slice aH ak.length aI) ak)∧kn (Kd.S (Kd.slice 3 (Kd.int .i64)) 23 w' w.heap.size (fun k_=>some k_≠((.slice aH ak.length aI):Value).ownBlock) az ag)∧kn (w'.heap[aj]?=some (.cells #[.int .i64 aa,(.slice aC ae.length aD),(.slice ax ab.length ay)] 26 (0,0)))∧kn (w'.heap[aG]?=some (.cells #[.int .i64 0,(.slice none 0 0),(.slice none 0 0)] 26 (0,0)))∧kn (w'.heap[ai]?=some (.cells #[.int .i64 aa,(.slice aH ak.length aI),az] 26 (0,0)))∧kn (Below w.heap.size w w'))
 case atStart=>exact⟨(0),(([]:List (List Int))),(.slice none 0 0),(by first|rfl|(simp;done)|(simp[*];done)),H',⟨Nat.le_refl _⟩,⟨rT aq⟩,⟨by first|exact Kd.S_nil _ _ _ _ _|exact Kd.N_nil _ _ _ _ _|exact Kd.V_nil _ _ _ _ _|exact Kd.Q_nil _ _ _ _ _|exact Kd.R_nil _ _ _ _ _⟩,⟨kS o⟩,⟨kS J⟩,⟨kP I⟩,⟨wZ HB⟩⟩
 case round=>
  clear H';obtain⟨an,ag,az,rfl,HA,b5,pL,pw,o,J,I,HB⟩:=hrel;cases gk with
  |zero=>exact absurd HA.out (by simp[kp.l0])
  |succ k1=>
   have H:=HA.out;clear HA;simp only[kp.l0]at H;rcases nA H with⟨cu,H⟩|⟨cu,H⟩
   ·obtain⟨ei,H⟩:=mY H;obtain⟨ej,H⟩:=mY H;obtain⟨aV,bs⟩:∃y_:List Int,y_=(([]:List Int)):=⟨_,rfl⟩;replace H:(if aV.length+(oP ab an).length<17592186044416 then(if ag.length<5864062014805 then(kp.l0 k1 ab (ab.length:Int) (wrap64 (an+1)) aa ak (ag++ [(aV++(oP ab an))]))else(none))else(none))=some (r1,r2,r3):=by first|(rw[bs];exact H)|exact H
    have b7:=bm bs;clear bs;obtain⟨cN,H⟩:=iN H;have cv:=bm cN;clear cN;obtain⟨bg,bu⟩:∃y_:List Int,y_=(aV++(oP ab an)):=⟨_,rfl⟩;rw[←bu]at H
    have cw:=bm bu;clear bu;obtain⟨cO,H⟩:=iN H;have cx:=bm cO;clear cO;obtain⟨b8,bw⟩:∃y_:List (List Int),y_=(ag++ [bg]):=⟨_,rfl⟩;rw[←bw]at H
    have cy:=bm bw;clear bw;have H':=bm H;clear H;have b9:0≤(an:Int):=nY;have ca:an<(ab.length:Int):=nY;obtain⟨ek,dG,dH,cP,a7,bh,bj⟩:=tt cq.out an b9 ca;cases cP;replace a7:=mO HB a7;have cb:=bm bj;have cQ:=bm bh;clear bj bh;replace b9:=mX b9;replace ca:=mX ca;try go_wp2
    replace pL:=mR pL;replace pw:=mU pw;replace o:=mQ o;replace J:=mQ J;replace I:=mQ I;replace HB:=mW HB;refine start_ (n:=9) (S:=fun w'=>w'.cell? ⟨ai,0,none⟩=some (.int .i64 aa)∧w'.cell? ⟨ai,1,none⟩=some (.slice aH ak.length aI)∧w'.cell? ⟨ai,2,none⟩=some (az)) (ds:=[8]) AQ (by kernel_rfl) rfl rfl ⟨(nD I.out 0).trans rfl,(nD I.out 1).trans rfl,(nD I.out 2).trans rfl⟩ (fun hHeld=>?_);refine with_tabW kp.zn kp.wC (fun aw cf=>?_);generalize wr.drew=eL at pL pw o J I HB hHeld⊢;refine pA 0 20 aw ?_ ?_ ?_ ?_ (pA 3 23 aw ?_ ?_ ?_ ?_ (tA 1 21 aw cf hHeld ?_ ?_ ?_ ?_ ?_))
    all_goals first|(rintro w' ⟨s0,s1,s2⟩;go_simp;with_reducible rfl)|(intro w';go_simp;with_reducible rfl)|(simp only[Act.put,qA,qB,qC,i64_w,i32_w];rfl)|skip
    refine oA 2 (some 22) aw (fun K hK=>?_);refine Kd.R_lit_step (Kd.int .i64) _ 3 ?hg (N:=22) ?hd (xs:=([]:List Int)) (inner:=[]) (ok:=fun _=>True) (okp:=fun _=>True) ?hr ?hp (fun _ hk=>hk) trivial (Below.refl _ _) (Nat.le_refl _) (by simp) ?_;(case hd=>rfl);(case hg=>rfl);(case hr=>first|(go_simp;done)|(go_simp;rfl));(case hp=>exact(Reps.none _ _));intro cR eM a8 hb bJ aW;clear bJ aW;(first|rw[←b7.out]at a8|(simp only[Int.reduceToNat]at a8;rw[←b7.out]at a8));replace pw:=bm (Kd.S_elder' (sS pw) (Kd.R_base a8) hb);have ba:=bm (Kd.R_lower (Kd.R_new' a8 (Kd.R_lt (rS pL))) (below_size (wZ HB)));replace pL:=bm (Kd.R_elder' (rS pL) (Kd.R_base a8) hb);replace o:=bU o hb;replace J:=bU J hb;replace I:=bU I hb;replace HB:=bW HB hb;clear hb a8;refine hK.out _ _ ⟨(nD I.out 0).trans rfl,(nD I.out 1).trans rfl,(nD I.out 2).trans rfl⟩ (fun hHeld=>?_);clear hK K;refine nm 22 ?_
    refine oA 4 (some 24) aw (fun K hK=>?_);refine Kd.R_append_rows_step (Kd.int .i64) (w0:=w) w.heap.size (by rfl) (.tmp 22) (.tmp 23) 23 3 (.int .i64 0) 8 rfl Tryz.underlying23 info3 rfl (by decide) (by omega) cR aV (oP ab an) _ _ _ (fun k_=>some k_≠(.slice aH ak.length aI:Value).ownBlock) (fun _=>False) rfl rfl ?aO ?aR (fun _ _ h=>h) (fun _ h=>h.elim) ?aF ?aB ?aS ?aL ?_;(case aR=>repeat(first|exact(Kd.C_below cb.out HB.out)|(with_reducible refine Kd.C_alloc ?_ _)|(with_reducible refine Kd.C_drewN ?_ _)|(with_reducible refine Kd.C_drew ?_)));(case aB=>exact(wZ HB));(case aF=>exact(fun k_ hk=>Kd.fresh' (Kd.R_lt (rS pL)) k_ hk));(case aO=>exact(by(repeat apply Kd.RS);exact Kd.R_mono ba.out (fun _ hk=>hk.2)));(case aS=>exact(below_size (wZ HB)));(case aL=>have:=cv.out;omega);intro v183 eN ho hb hg aY
    rw[←cw.out]at ho;replace pL:=bm (Kd.R_after (ok:=(fun _=>True)) (rS pL) hg aY);replace pw:=bm (Kd.S_after (ok:=(fun k_=>some k_≠(.slice aH ak.length aI:Value).ownBlock)) (sS pw) hg aY);replace o:=bN o hg (Kd.R_ne ba.out o.out (by decide));replace J:=bN J hg (Kd.R_ne ba.out J.out (by decide));replace I:=bN I hg (Kd.R_ne ba.out I.out (by decide));replace HB:=bm (hb);have bd:=bm (ho);clear ba ho hb hg aY
    obtain⟨cj,ck,cl⟩:=Kd.R_slice bd.out;(first|subst cl|(injection cl with qk rn ql;have aZ:=qk.symm;have a6:=ql.symm;clear qk rn ql;subst aZ;subst a6));refine hK.out _ _ ⟨(nD I.out 0).trans rfl,(nD I.out 1).trans rfl,(nD I.out 2).trans rfl⟩ (fun hHeld=>?_);clear hK K;refine nm 24 ?_
    refine oA 5 (some 25) aw (fun K hK=>?_);refine value_ (w1:=?_) (v:=?_) (by rfl) rfl ?_ ?_;rotate_left 2
    ·go_simp;constructor
     ·rfl
     ·rfl
    refine hK.out _ _ ⟨(nD (Ah I.out _) 0).trans rfl,(nD (Ah I.out _) 1).trans rfl,(nD (Ah I.out _) 2).trans rfl⟩ (fun hHeld=>?_);clear hK K;refine nm 25 ?_
    refine oA 6 (some 26) aw (fun K hK=>?_);refine Kd.S_append_step (Kd.slice 3 (Kd.int .i64)) (w0:=w) w.heap.size (by rfl) (.tmp 21) (.tmp 25) 24 23 (.slice none 0 0) 24 rfl Tryz.underlying24 info23 rfl (by decide) (by omega) az ag bg [.slice cj bg.length ck] (fun k_=>some k_≠(.slice aH ak.length aI:Value).ownBlock) (fun k_=>some k_=(.slice cj bg.length ck:Value).ownBlock) rfl rfl ?aP (fun k_ el=>((Kd.R_mono (ok':=fun k_=>((fun k_=>some k_≠(.slice aH ak.length aI:Value).ownBlock)) k_∧some k_≠(az:Value).ownBlock) (Kd.R_apart' (bd.out) (Kd.S_typed pw.out) (by decide)) (fun k_ hk=>⟨hk.1,hk.2⟩))).1 k_ el.symm) ?aF ?aO ?aB ?aS ?aL ?_;(case aP=>exact Kd.M_row (Kd.R_mono (Kd.R_tight rfl (Kd.R_mono (ok':=fun k_=>((fun k_=>some k_≠(.slice aH ak.length aI:Value).ownBlock)) k_∧some k_≠(az:Value).ownBlock) (Kd.R_apart' (bd.out) (Kd.S_typed pw.out) (by decide)) (fun k_ hk=>⟨hk.1,hk.2⟩))) (fun _ h_=>h_)));(case aB=>exact(wZ HB));(case aF=>exact(fun k_ hk=>Kd.fresh' (Kd.R_lt (rS pL)) k_ hk));(case aO=>exact(by(repeat apply Kd.SS);exact Kd.S_mono pw.out (fun k_ hk=>⟨hk.1,fun e_=>hk.2 e_⟩)));(case aS=>exact(below_size (wZ HB)));(case aL=>have:=cx.out;omega);intro eE eO ho hb hg aY
    rw[←cy.out]at ho;replace pL:=bm (Kd.R_over' (rS pL) (Kd.S_typed (sS pw)) (by decide) hg);replace o:=bN o hg (Kd.S_ne pw.out o.out (by decide));replace J:=bN J hg (Kd.S_ne pw.out J.out (by decide));replace I:=bN I hg (Kd.S_ne pw.out I.out (by decide));replace HB:=bm (hb);have cc:=bm (ho);clear pw bd ho hb hg aY
    obtain⟨cS,cT,cm⟩:=Kd.S_slice cc.out;(first|subst cm|(injection cm with qk rn ql;have aZ:=qk.symm;have a6:=ql.symm;clear qk rn ql;subst aZ;subst a6));refine hK.out _ _ ⟨(nD I.out 0).trans rfl,(nD I.out 1).trans rfl,(nD I.out 2).trans rfl⟩ (fun hHeld=>?_);clear hK K;refine nm 26 ?_
    refine pA 7 27 aw ?_ ?_ ?_ ?_ ?_
    all_goals first|(intro w';go_simp;with_reducible rfl)|(simp only[Act.put,qA,qB,qC,i64_w,i32_w];rfl)|skip
    refine last_ (i:=8) (N:=none) Be rfl rfl (one_of aw.out (by kernel_rfl)) (by decide) (fun K hK=>?_);have eF:=bC I 2;have en:=rl I.out 2;refine skip_ (w1:=?_) (by rfl) rfl ?_ ?_;rotate_left
    ·go_simp;rfl
    refine hK.out _ _ ?_;clear hK K;refine done_ (done_of aw.out (by kernel_rfl)) ?_;try go_wp2
    go_roundg k1
    case measure=>have:=b5.out;omega
    case rel=>exact⟨(wrap64 (an+1)),(b8),(.slice cS b8.length cT),(by first|rfl|(simp;done)|(simp[*];done)),H',⟨by have:=b5.out;omega⟩,⟨rT pL⟩,⟨sT cc⟩,⟨kS o⟩,⟨kS J⟩,⟨kP I⟩,⟨wZ HB⟩⟩
   ·obtain⟨rfl,rfl,rfl⟩:=s3 H;obtain⟨cU,cV,cW,cX,da,db⟩:=b3 I;obtain⟨dc,dd,de,df,dg,dh⟩:=b3 J;obtain⟨di,dj,dk⟩:=Kd.S_slice pw.out;subst dk;go_wp2;refine bodyPost_ret (results_cell_row rfl _ _ aG 26 #[.int .i64 aa,.slice aH ak.length aI,.slice di ag.length dj] (0,0) _ rfl (kP J) Tryz.underlying26 rfl (by kernel_rfl)) rfl ?_;exact⟨_,_,by first|rfl|(simp[*,jY,jZ]<;>rfl),rT pL,sT pw,wZ HB⟩
def stringslite_IndexByte.f (s:ByteArray) (c:Int):Option Int:=some (Lib.indexByte s.data.toList c.toNat.toUInt8)
theorem stringslite_IndexByte.calls (s:ByteArray) (c:Int) (r:Int) (w:World) (h:stringslite_IndexByte.f s c=some r):
  Calls Tryz.prog 126 #[.string s,.int .u8 c] w fun e w'=>e= .returned (.int .i64 r)∧Drawn0 w w':=by
 obtain rfl:=oJ h;clear h;go_enter Tryz.func126,Tryz.ntmps126;go_wp2;rw[run_callFunc_extern Tryz.func139 (by kernel_rfl) (by kernel_rfl) (by kernel_rfl) (e:=Extern.BytealgIndexByte.indexByte) (by kernel_rfl),Lib.run_indexByteString];simp only[Result.andThen];rw[Oper.upon_value];go_wp2;go_ret;exact⟨rfl,Drawn0.refl _⟩
def stringslite_Index.f (s sub:ByteArray):Option Int:=if sub.size=1 then(if s.size<9223372036854775807 then(if(sub.toList==s.toList)=true then some 0 else stringslite_IndexByte.f s (bt sub 0))else none)else none
theorem stringslite_Index.calls (s sub:ByteArray) (r:Int) (w:World) (h:stringslite_Index.f s sub=some r):
  Calls Tryz.prog 105 #[.string s,.string sub] w fun e w'=>e= .returned (.int .i64 r)∧Drawn0 w w':=by
 unfold stringslite_Index.f at h;by_cases h1:sub.size=1
 ·rw[if_pos h1]at h;by_cases h2:s.size<9223372036854775807
  ·rw[if_pos h2]at h;have eP:((sub.size:Int)==0)=false:=by rw[h1];rfl
   have eQ:((sub.size:Int)==1)=true:=by rw[h1];rfl
   have eR:decide (0<sub.size)=true:=mV (by omega);have eo:(0:Int)<(sub.size:Int):=by omega
   have eS:decide ((0:Int)<(sub.size:Int))=true:=mV eo;by_cases h3:(sub.toList==s.toList)=true
   ·rw[if_pos h3]at h;obtain rfl:=oJ h;clear h h1 h2;go_enter Tryz.func105,Tryz.ntmps105;go_wp2;go_ret;exact⟨rfl,Drawn0.refl _⟩
   ·rw[if_neg h3]at h;have HI:=bm (fun(hh:0<sub.size) W=>stringslite_IndexByte.calls s ((sub[0]'hh).toNat:Int) r W (by rw[show((sub[0]'hh).toNat:Int)=bt sub 0 from bt_at sub 0 hh];exact h));have h4:(sub.toList==s.toList)=false:=mN h3;clear h h1 h2 h3;go_enter Tryz.func105,Tryz.ntmps105;go_wp2_with fail;refine(HI.out _ _).mono ?_;rintro e w1 ⟨rfl,⟨n,rfl⟩⟩;go_wp2;go_ret;exact⟨rfl,⟨⟨n,rfl⟩⟩⟩
  ·rw[if_neg h2]at h;cases h
 ·rw[if_neg h1]at h;cases h
def stringslite_Cut.f (s sep:ByteArray):Option (ByteArray×ByteArray×Bool):=(stringslite_Index.f s sep).bind fun i=>if i<0 then some (s,(⟨#[]⟩:ByteArray),false)else if i.toNat+sep.size≤s.size then some (s.extract 0 i.toNat,s.extract (i.toNat+sep.size) s.size,true)else none
theorem stringslite_Cut.calls (s sep:ByteArray) (r1 r2:ByteArray) (r3:Bool) (w:World) (h:stringslite_Cut.f s sep=some (r1,r2,r3)):
  Calls Tryz.prog 71 #[.string s,.string sep] w fun e w'=>e= .returned (.tuple #[.string r1,.string r2,.bool r3])∧Drawn0 w w':=by
 unfold stringslite_Cut.f at h;obtain⟨i,hi,h⟩:=Option.bind_eq_some_iff.mp h;by_cases h0:i<0
 ·rw[if_pos h0]at h;obtain⟨rfl,rfl,rfl⟩:s=r1∧(⟨#[]⟩:ByteArray)=r2∧false=r3:=by simpa using h
  have HI:=bm (fun W=>stringslite_Index.calls s sep i W hi);have c1:decide (0≤i)=false:=mP (by omega);have c2:decide (i<0)=true:=mV h0;clear h hi h0;go_enter Tryz.func71,Tryz.ntmps71;go_wp2_with fail;refine(HI.out _).mono ?_;rintro e w1 ⟨rfl,⟨n,rfl⟩⟩;go_wp2;go_ret3;exact⟨rfl,⟨⟨n,rfl⟩⟩⟩
 ·rw[if_neg h0]at h;by_cases h1:i.toNat+sep.size≤s.size
  ·rw[if_pos h1]at h
   have eT:s.size<9223372036854775807:=by
    unfold stringslite_Index.f at hi;split at hi
    ·split at hi
     ·assumption
     ·cases hi
    ·cases hi
   obtain⟨rfl,rfl,rfl⟩:s.extract 0 i.toNat=r1∧s.extract (i.toNat+sep.size) s.size=r2∧true=r3:=by simpa using h
   clear h;obtain⟨n,rfl⟩:=Int.eq_ofNat_of_zero_le (by omega:0≤i);rw[Int.toNat_natCast]at h1⊢;have HI:=bm (fun W=>stringslite_Index.calls s sep n W hi);have c0:(0:Int)≤(n:Int):=by omega
   have c2:(n:Int)≤(s.size:Int):=by omega
   have c3:(0:Int)≤(n:Int)+(sep.size:Int):=by omega
   have c4:(n:Int)+(sep.size:Int)≤(s.size:Int):=by omega
   have c5:(n:Int)+(sep.size:Int)<9223372036854775807:=by omega
   clear hi h0 h1;go_enter Tryz.func71,Tryz.ntmps71;go_wp2_with fail;refine(HI.out _).mono ?_;rintro e w1 ⟨rfl,⟨m,rfl⟩⟩;go_wp2;go_quiet (fail);go_wp2;go_ret3;exact⟨rfl,Drawn0.step ⟨⟨m,rfl⟩⟩ _⟩
  ·rw[if_neg h1]at h;cases h
def strings_Cut.f (s sep:ByteArray):Option (ByteArray×ByteArray×Bool):=stringslite_Cut.f s sep
theorem strings_Cut.calls (s sep:ByteArray) (r1 r2:ByteArray) (r3:Bool) (w:World) (h:strings_Cut.f s sep=some (r1,r2,r3)):
  Calls Tryz.prog 39 #[.string s,.string sep] w fun e w'=>e= .returned (.tuple #[.string r1,.string r2,.bool r3])∧Drawn0 w w':=by
 have HI:=bm (fun W=>stringslite_Cut.calls s sep r1 r2 r3 W h);clear h;go_enter Tryz.func39,Tryz.ntmps39;go_wp2_with fail;refine(HI.out _).mono ?_;rintro e w1 ⟨rfl,⟨n,rfl⟩⟩;go_wp2;go_ret3;exact⟨rfl,⟨⟨n,rfl⟩⟩⟩
def nI.l0:Nat→ByteArray→Int→Int→Option (Bool)
 |0,_,_,_=>none
 |k+1,x0,x5,x6=>if x6<x5 then(if 0≤x6 then(if x6<(x0.size:Int)then(if(bt x0 x6)<32 then(some false)else(if(bt x0 x6)>126 then(some false)else(nI.l0 k x0 x5 (wrap64 (x6+1)))))else(none))else(none))else(some true)
def nI.f (k:Nat) (a0:ByteArray):Option (Bool):=nI.l0 k a0 (a0.size:Int) 0
theorem nI.kU:∀k,(∀y0 y1 y2,ph (nI.l0 k y0 y1 y2) (nI.l0 (k+1) y0 y1 y2))
 |0=>fun _ _ _=> .z (by simp only[nI.l0])
 |k+1=>by
  have i0:=nI.kU k;exact fun _ _ _=>by unfold nI.l0;infer_instance
instance nI.mo {k a0}:ph (nI.f k a0) (nI.f (k+1) a0):=by have i0:=nI.kU k;unfold nI.f;infer_instance
theorem nI.calls (k:Nat) (a0:ByteArray) (r:Bool) (w:World) (h:nI.f k a0=some r):
  Calls Tryz.prog 72 #[.string a0] w fun e w'=>e= .returned (.bool r)∧Drawn0 w w':=by
 have H:=h;clear h;unfold nI.f at H;have H':=bm H;clear H;go_enter Tryz.func72,Tryz.ntmps72;go_wp2;go_loopg [6] k (fun kq v6 w'=>∃(ao:Int),v6= .int .i64 ao∧kn (nI.l0 kq a0 (a0.size:Int) ao=some r)∧kn (kq≤k)∧Drawn0 w w')
 case atStart=>exact⟨(0),(by first|rfl|(simp;done)|(simp[*];done)),H',⟨Nat.le_refl _⟩,by repeat(first|exact Drawn0.refl _|apply Drawn0.step)⟩
 case round=>
  clear H';obtain⟨ao,rfl,HA,b5,⟨m1,rfl⟩⟩:=hrel;cases gk with
  |zero=>exact absurd HA.out (by simp[nI.l0])
  |succ k1=>
   have H:=HA.out;clear HA;simp only[nI.l0]at H;rcases nA H with⟨bk,H⟩|⟨bk,H⟩
   ·obtain⟨eG,H⟩:=mY H;obtain⟨eH,H⟩:=mY H;rcases nA H with⟨dm,H⟩|⟨dm,H⟩
    ·obtain rfl:=oJ H;have p5:0≤(ao:Int):=nY;have q5:ao<(a0.size:Int):=nY;have dn:=bt_at a0 ao;replace p5:=mX p5;replace q5:=mX q5;go_wp2;go_ret;exact rq
    ·rcases nA H with⟨bb,H⟩|⟨bb,H⟩
     ·obtain rfl:=oJ H;have p5:0≤(ao:Int):=nY;have q5:ao<(a0.size:Int):=nY;have dn:=bt_at a0 ao;replace p5:=mX p5;replace q5:=mX q5;have p7:0≤(ao:Int):=nY;have q7:ao<(a0.size:Int):=nY;have ep:=bt_at a0 ao;replace p7:=mX p7;replace q7:=mX q7;go_wp2;go_ret;exact rq
     ·have H':=bm H;clear H;have p5:0≤(ao:Int):=nY;have q5:ao<(a0.size:Int):=nY;have dn:=bt_at a0 ao;replace p5:=mX p5;replace q5:=mX q5;have p7:0≤(ao:Int):=nY;have q7:ao<(a0.size:Int):=nY;have ep:=bt_at a0 ao;replace p7:=mX p7;replace q7:=mX q7;go_wp2;go_roundg k1
      case measure=>have:=b5.out;omega
      case rel=>exact⟨(wrap64 (ao+1)),(by first|rfl|(simp;done)|(simp[*];done)),H',⟨by have:=b5.out;omega⟩,by repeat(first|exact Drawn0.refl _|apply Drawn0.step)⟩
   ·obtain rfl:=oJ H;go_wp2;go_ret;exact rq
def ng.j0:Nat→Bool→Int→ByteArray→Option (ByteArray)
 |0,_,_,_=>none
 |k+1,x7,xR,ur=>if x7=true then(some (⟨#[]⟩:ByteArray))else(if xR=0 then(if 6+ur.size≤9223372036854775807 then(some ((⟨#[102,105,114,115,116,32]⟩:ByteArray)++ur))else(none))else(if xR=1 then(if 4+ur.size≤9223372036854775807 then(some ((⟨#[97,108,108,32]⟩:ByteArray)++ur))else(none))else(some (⟨#[]⟩:ByteArray))))
def ng.f (k:Nat) (aa:Int) (af:ByteArray):Option (ByteArray):=if(aa==2&&(af.toList==([]:List UInt8)))=true then(some (⟨#[98,97,99,107]⟩:ByteArray))else(if af.toList=([]:List UInt8)then(ng.j0 k true aa af)else((nI.f k af).bind fun t189=>(ng.j0 k (!t189) aa af)))
theorem ng.kU:∀k,(∀y0 y1 y2,ph (ng.j0 k y0 y1 y2) (ng.j0 (k+1) y0 y1 y2))
 |0=>fun _ _ _=> .z (by simp only[ng.j0])
 |k+1=>by
  have i0:=ng.kU k;exact fun _ _ _=>by unfold ng.j0;infer_instance
instance ng.mo {k a0 a1}:ph (ng.f k a0 a1) (ng.f (k+1) a0 a1):=by have i0:=ng.kU k;unfold ng.f;infer_instance
theorem ng.calls (k:Nat) (aa:Int) (af:ByteArray) (r:ByteArray) (w:World) (h:ng.f k aa af=some r):
  Calls Tryz.prog 43 #[.agg #[.int .i64 aa,.string af]] w fun e w'=>e= .returned (.string r)∧Below w.heap.size w w':=by
 have eI:=Tryz.underlying47;have HB:=bm (Below.refl w.heap.size w);have H:=h;clear h;unfold ng.f at H;rcases iT H with⟨c2,H⟩|⟨c2,H⟩
 ·have bk:(aa==2&&(af.toList==([]:List UInt8)))=true:=c2;try have dp:(aa==2&&af.toList.isEmpty)=true:=by have h_:=bk;(repeat rw[Hof.qd]);exact h_
  (try(have dq:decide (aa=2&&(af.toList==([]:List UInt8)))=true:=by simpa using c2));(try(have dr:(aa==2&&(af.toList==([]:List UInt8)))=true:=by simpa using c2));clear c2;obtain rfl:=oJ H;go_enter Tryz.func43,Tryz.ntmps43;go_wp2_with (first|(refine pN 1 #[.int .i64 aa,.string af] 47 ?_;intro cd hg w3 al hb;have aA:=bm (al);have cz:=bG HB hg;replace HB:=bW HB hb;clear hb al hg;obtain⟨dI,dJ,dK,dL⟩:=b2 aA));go_ret;exact rz HB
 ·have bk:(aa==2&&(af.toList==([]:List UInt8)))=false:=by simpa using c2
  (try have dp:(aa==2&&af.toList.isEmpty)=false:=by have h_:=bk;(repeat rw[Hof.qd]);exact h_);(try(have dq:decide (aa=2&&(af.toList==([]:List UInt8)))=false:=by simpa using c2));(try(have dr:(aa==2&&(af.toList==([]:List UInt8)))=false:=by simpa using c2));(try(have eJ:¬(aa=2&&(af.toList==([]:List UInt8))):=by simpa using c2));clear c2;have cA:=bm H;clear H;go_enter Tryz.func43,Tryz.ntmps43;go_upto_region 3 with(first|(refine pN 1 #[.int .i64 aa,.string af] 47 ?_;intro cd hg w6 al hb;have aA:=bm (al);have cz:=bG HB hg;replace HB:=bW HB hb;clear hb al hg;obtain⟨dM,dN,dO,dP⟩:=b2 aA))
  (try simp only[Act.put,qA,qB,qC]);go_cut [7] (fun v7 wc=>∃(kq:Nat) (bx:Bool),v7= .bool bx∧kn (ng.j0 kq bx aa af=some r)∧kn (kq≤k)∧pK wc cd #[.int .i64 aa,.string af] 47∧kn (Below w.heap.size w wc))
  case first=>
   have H:=cA.out;clear cA;rcases iT H with⟨c8,H⟩|⟨c8,H⟩
   ·obtain⟨bb,dt⟩:=nL c8;clear c8;(first|rw[bb]|(simp only[i64_w,i32_w];rw[bb])|skip);have H':=bm H;clear H;obtain⟨dQ,dR,dS,dT⟩:=b2 aA;go_wp2;go_meet
    case rel=>exact⟨_,(true),(by first|rfl|(simp;done)|(simp[*];done)),H',⟨by first|omega|exact Nat.le_refl _⟩,⟨kS aA⟩,⟨wZ HB⟩⟩
   ·obtain⟨bb,dt⟩:=nK c8;(first|rw[bb]|(simp only[i64_w,i32_w];rw[bb])|skip);obtain⟨t189,er,H⟩:=bE H;try dsimp only at H
    have H':=bm H;clear H;obtain⟨du,dv,dw,dx⟩:=b2 aA;go_wp2_with (first|(go_at_call 72;(with_reducible refine(nI.calls k af t189 _ er.out).mono ?_);rintro e w' ⟨rfl,⟨nd,rfl⟩⟩));go_meet
    case rel=>exact⟨_,(!t189),(by first|rfl|(simp;done)|(simp[*];done)),H',⟨by first|omega|exact Nat.le_refl _⟩,⟨kS aA⟩,⟨wZ HB⟩⟩
  case rest=>
   clear cA;obtain⟨kq,bx,rfl,HA,eU,aA,HB⟩:=hcut;cases kq with
   |zero=>exact absurd HA.out (by simp[ng.j0])
   |succ zk=>
    have H:=HA.out;clear HA;simp only[ng.j0]at H;by_cases cg:bx=true
    ·subst cg;rw[if_pos rfl]at H;obtain rfl:=oJ H;go_wp2;go_ret;exact rz HB
    ·replace cg:=mN cg;subst cg;rw[if_neg nz]at H;rcases iT H with⟨bz,H⟩|⟨bz,H⟩
     ·obtain⟨cB,cC⟩:=nL bz;clear bz;obtain⟨cD,H⟩:=iN H;have et:=mX cD;have eu:=mV cD;try have ev:(9223372036854775807<6+af.size)=False:=eq_false (Nat.not_lt.2 cD)
      obtain rfl:=oJ H;obtain⟨dy,dz,dA,dB⟩:=b2 aA;go_wp2;go_ret;exact rz HB
     ·obtain⟨cB,cC⟩:=nK bz;rcases iT H with⟨bA,H⟩|⟨bA,H⟩
      ·obtain⟨cE,cF⟩:=nL bA;clear bA;obtain⟨cG,H⟩:=iN H;have ew:=mX cG;have ey:=mV cG;try have ez:(9223372036854775807<4+af.size)=False:=eq_false (Nat.not_lt.2 cG)
       obtain rfl:=oJ H;obtain⟨bZ,b0,b1,b4⟩:=b2 aA;go_wp2;go_ret;exact rz HB
      ·obtain⟨cE,cF⟩:=nK bA;obtain rfl:=oJ H;obtain⟨dC,dD,dE,dF⟩:=b2 aA;go_wp2;go_ret;exact rz HB
end Go.Proofs.YtigeaokfhnlkcaaGreatDoor.P
