import Derived.Test.YtigeaokfhnlkcaaGreatDoorPx0
import Derived.Test.YtigeaokfhnlkcaaGreatDoorPx1
import Derived.Test.YtigeaokfhnlkcaaGreatDoorPx4
import Derived.Test.YtigeaokfhnlkcaaGreatDoorPx5
import Derived.Test.YtigeaokfhnlkcaaGreatDoorPx10
namespace Go.Proofs.YtigeaokfhnlkcaaGreatDoor.P
open Go.RowKit YtigeaokfhnlkcaaGreatDoorW PrintWords PrintLast PrintMore
attribute [local go_sem] max2_int min2_int max_two min_two max_three min_three max_four min_four
set_option linter.unusedVariables false
set_option linter.unusedSimpArgs false
attribute [local go_sem high] wA
set_option maxHeartbeats 8000000
set_option maxRecDepth 100000
def nw.l0:Nat→ByteArray→List (oK)→Int→Option ((List (oK))×Int)
 |0,_,_,_=>none
 |k+1,x0,x4,x5=>if 0≤x5 then(if x5≤(x0.size:Int)then((strings_Cut.f (x0.extract (x5:Int).toNat x0.size) (⟨#[10]⟩:ByteArray)).bind fun aN=>((oF.f k aN.1).bind fun aQ=>(if aN.2.2=true then(if aQ.2.2=true then(if x4.length<5864062014805 then(nw.l0 k x0 (x4++ [(⟨aQ.1,aQ.2.1⟩:oK)]) (wrap64 (x5+(wrap64 ((aN.1.size:Int)+1)))))else(none))else(some (x4,x5)))else(some (x4,x5)))))else(none))else(none)
def nw.f (k:Nat) (a0:ByteArray):Option ((List (oK))×Int):=nw.l0 k a0 (([]:List (oK))) 0
theorem nw.kU:∀k,(∀y0 y1 y2,ph (nw.l0 k y0 y1 y2) (nw.l0 (k+1) y0 y1 y2))
 |0=>fun _ _ _=> .z (by simp only[nw.l0])
 |k+1=>by
  have i0:=nw.kU k;exact fun _ _ _=>by unfold nw.l0;infer_instance
instance nw.mo {k a0}:ph (nw.f k a0) (nw.f (k+1) a0):=by have i0:=nw.kU k;unfold nw.f;infer_instance
theorem nw.calls (k:Nat) (a0:ByteArray) (r1:List (oK)) (r2:Int) (w:World) (h:nw.f k a0=some (r1,r2)):
  Calls Tryz.prog 15 #[.string a0] w fun e w'=>∃bg:Value,e= .returned (.tuple #[bg,.int .i64 r2])∧Kd.R qL 47 w' w.heap.size (fun _=>True) bg r1∧Below w.heap.size w w':=by
 have bh:=Tryz.underlying47;have HB:=bm (Below.refl w.heap.size w);have H:=h;clear h;unfold nw.f at H;obtain⟨b8,aR⟩:∃y_:List (oK),y_=(([]:List (oK))):=⟨_,rfl⟩;replace H:(nw.l0 k a0 b8 0)=some (r1,r2):=by first|(rw[aR];exact H)|exact H
 have bj:=bm aR;clear aR;have H':=bm H;clear H;go_enter Tryz.func15,Tryz.ntmps15;go_wp2_with (first|((with_reducible refine gate_dst (N:=11) rfl ?_);refine Kd.R_lit qL _ 47 ?hg (N:=11) ?hd (xs:=([]:List (oK))) (inner:=[]) (ok:=fun _=>True) (okp:=fun _=>True) ?hr ?hp (fun _ hk=>hk) trivial (Below.refl _ _) (Nat.le_refl _) (by simp) ?_;(case hd=>rfl);(case hg=>rfl);(case hr=>first|(go_simp;done)|(go_simp;rfl));(case hp=>exact(Reps.none _ _));intro dP w2 ax hb bk ay;clear bk ay;(first|rw[←bj.out]at ax|(simp only[Int.reduceToNat]at ax;rw[←bj.out]at ax));have cj:=rL ax HB;replace HB:=bW HB hb;clear hb ax));go_loopg [4,5] k (fun kq v4 v5 w'=>∃(ab:List (oK)) (j:Int),v5= .int .i64 j∧kn (nw.l0 kq a0 ab j=some (r1,r2))∧kn (kq≤k)∧kn (Kd.R qL 47 w' w.heap.size (fun _=>True) v4 ab)∧kn (Below w.heap.size w w'))
 case atStart=>exact⟨(b8),(0),(by first|rfl|(simp;done)|(simp[*];done)),H',⟨Nat.le_refl _⟩,⟨by(repeat apply Kd.RS);exact cj.out⟩,⟨wZ HB⟩⟩
 case round=>
  clear H';obtain⟨ab,j,rfl,HA,aI,pc,HB⟩:=hrel;cases gk with
  |zero=>exact absurd HA.out (by simp[nw.l0])
  |succ k1=>
   have H:=HA.out;clear HA;simp only[nw.l0]at H;obtain⟨ba,dQ,H⟩:=mZ H;obtain⟨b9,dR,H⟩:=mZ H;obtain⟨⟨ao,bl,cI⟩,A6,H⟩:=bE H;try dsimp only at H
   obtain⟨⟨al,an,ca⟩,A7,H⟩:=bE H;try dsimp only at H
   by_cases c8:cI=true
   ·subst c8;rw[if_pos rfl]at H;by_cases c9:ca=true
    ·subst c9;rw[if_pos rfl]at H;obtain⟨c10,H⟩:=iN H;have ck:=bm c10;clear c10;obtain⟨cb,aT⟩:∃y_:List (oK),y_=(ab++ [(⟨al,an⟩:oK)]):=⟨_,rfl⟩;rw[←aT]at H
     have cl:=bm aT;clear aT;have H':=bm H;clear H;go_wp2_with (first|(refine gB (some 16) Tryz.func39 #[.string (a0.extract (j:Int).toNat a0.size),.string (⟨#[10]⟩:ByteArray)] rfl ?_;(with_reducible refine(strings_Cut.calls (a0.extract (j:Int).toNat a0.size) (⟨#[10]⟩:ByteArray) ao bl true _ A6.out).mono ?_);rintro e w' ⟨rfl,⟨nd,rfl⟩⟩;refine⟨_,rfl,?_⟩;(try(rw[drewN_self wr];generalize qt:World.drewN wr _=wr;replace pc:kn (Kd.R qL 47 wr w.heap.size (fun _=>True) u4 ab):=⟨by rw[←qt];exact(rS pc)⟩;replace HB:kn (Below w.heap.size w wr):=⟨by rw[←qt];exact(wZ HB)⟩;clear qt)))|(refine gB (some 22) Tryz.func40 #[.string ao] rfl ?_;(with_reducible refine(oF.calls k1 ao al an true _ A7.out).mono ?_);rintro e ej ⟨rfl,hb⟩;refine⟨_,rfl,?_⟩;replace pc:=bR pc hb;replace HB:=bW HB hb;clear hb)|(refine pN 9 #[.int .i64 0,.string (⟨#[]⟩:ByteArray)] 47 ?_;intro aa hg ek af hb;replace pc:=bm (Kd.R_below (Kd.R_elderB (rS pc) aa (Nat.le_of_eq hg.symm)) hb);have aq:=bm (af);have bn:=bG HB hg;replace HB:=bW HB hb;clear hb af hg;obtain⟨cJ,cK,cL,cM⟩:=b2 aq)|((with_reducible refine gate_builtin (b:=.append) (xs:= #[.tmp 33,.tmp 35]) rfl ?_);at_builtin;refine Kd.R_append qL (w0:=w) w.heap.size rfl (.tmp 33) (.tmp 35) 39 47 (.agg #[(.int .i64 0),(.string ⟨#[]⟩)]) 24 rfl Tryz.underlying39 rI rfl (by decide) (by omega) u4 ab (⟨al,an⟩:oK) [.int .i64 al,.string an] (fun k_=>k_≠aa) (fun _=>False) rfl (by first|(go_simp;done)|(go_simp;rfl)) ?aP (fun _ hk=>hk.elim) ?aF ?aO ?aB ?aS ?aL ?_;(case aP=>exact qQ _ _ _ (⟨al,an⟩:oK));(case aB=>exact(wZ HB));(case aF=>exact(fun k_ hk=>Kd.freshB (g:=aa) (o:=.cells #[.int .i64 al,.string an] 47 (0,0)) (kP aq) k_ hk));(case aO=>exact(by(repeat apply Kd.RS);exact Kd.R_mono (Kd.R_far (p:=⟨aa,1,none⟩) (Kd.R_far (p:=⟨aa,0,none⟩) (Kd.R_mono pc.out (fun k_ hk=>(⟨hk,hk.2⟩:_∧k_≠aa))) (fun _ hk=>hk.2) (.int .i64 al)) (fun _ hk=>hk.2) (.string an)) (fun _ hk=>hk.1.2)));(case aS=>exact(below_size (wZ HB)));(case aL=>have:=ck.out;omega);intro dS cN ho hb hg aU;rw[←cl.out]at ho;replace aq:=bm (blk_grown (g:=aa) (o:=.cells #[.int .i64 al,.string an] 47 (0,0)) (kP aq) hg (Kd.R_away pc.out (fun _ hk=>hk.2)));replace HB:=bm (hb);have cm:=bm (ho);clear pc;clear ho hb hg aU));go_roundg k1
     case measure=>have:=aI.out;omega
     case rel=>exact⟨(cb),(wrap64 (j+(wrap64 ((ao.size:Int)+1)))),(by first|rfl|(simp;done)|(simp[*];done)),H',⟨by have:=aI.out;omega⟩,⟨by(repeat apply Kd.RS);exact Kd.R_mono cm.out (fun _ hk=>trivial)⟩,⟨wZ HB⟩⟩
    ·replace c9:=mN c9;subst c9;rw[if_neg nz]at H;obtain⟨rfl,rfl⟩:=s2 H;go_wp2_with (first|(refine gB (some 16) Tryz.func39 #[.string (a0.extract (j:Int).toNat a0.size),.string (⟨#[10]⟩:ByteArray)] rfl ?_;(with_reducible refine(strings_Cut.calls (a0.extract (j:Int).toNat a0.size) (⟨#[10]⟩:ByteArray) ao bl true _ A6.out).mono ?_);rintro e w' ⟨rfl,⟨nd,rfl⟩⟩;refine⟨_,rfl,?_⟩;(try(rw[drewN_self wr];generalize qt:World.drewN wr _=wr;replace pc:kn (Kd.R qL 47 wr w.heap.size (fun _=>True) u4 ab):=⟨by rw[←qt];exact(rS pc)⟩;replace HB:kn (Below w.heap.size w wr):=⟨by rw[←qt];exact(wZ HB)⟩;clear qt)))|(refine gB (some 22) Tryz.func40 #[.string ao] rfl ?_;(with_reducible refine(oF.calls k1 ao al an false _ A7.out).mono ?_);rintro e dG ⟨rfl,hb⟩;refine⟨_,rfl,?_⟩;replace pc:=bR pc hb;replace HB:=bW HB hb;clear hb)|(refine pN 9 #[.int .i64 0,.string (⟨#[]⟩:ByteArray)] 47 ?_;intro aa hg el af hb;replace pc:=bm (Kd.R_below (Kd.R_elderB (rS pc) aa (Nat.le_of_eq hg.symm)) hb);have aq:=bm (af);have bn:=bG HB hg;replace HB:=bW HB hb;clear hb af hg;obtain⟨cO,cP,cQ,cR⟩:=b2 aq));go_ret2;exact⟨_,by first|rfl|(simp[*,jY,jZ]<;>rfl),by(repeat apply Kd.RS);exact Kd.R_mono (Kd.R_far (p:=⟨aa,1,none⟩) (Kd.R_far (p:=⟨aa,0,none⟩) (Kd.R_mono pc.out (fun k_ hk=>(⟨hk,hk.2⟩:_∧k_≠aa))) (fun _ hk=>hk.2) (.int .i64 al)) (fun _ hk=>hk.2) (.string an)) (fun _ hk=>trivial),wZ HB⟩
   ·replace c8:=mN c8;subst c8;rw[if_neg nz]at H;obtain⟨rfl,rfl⟩:=s2 H;go_wp2_with (first|(refine gB (some 16) Tryz.func39 #[.string (a0.extract (j:Int).toNat a0.size),.string (⟨#[10]⟩:ByteArray)] rfl ?_;(with_reducible refine(strings_Cut.calls (a0.extract (j:Int).toNat a0.size) (⟨#[10]⟩:ByteArray) ao bl false _ A6.out).mono ?_);rintro e w' ⟨rfl,⟨nd,rfl⟩⟩;refine⟨_,rfl,?_⟩;(try(rw[drewN_self wr];generalize qt:World.drewN wr _=wr;replace pc:kn (Kd.R qL 47 wr w.heap.size (fun _=>True) u4 ab):=⟨by rw[←qt];exact(rS pc)⟩;replace HB:kn (Below w.heap.size w wr):=⟨by rw[←qt];exact(wZ HB)⟩;clear qt)))|(refine gB (some 22) Tryz.func40 #[.string ao] rfl ?_;(with_reducible refine(oF.calls k1 ao al an ca _ A7.out).mono ?_);rintro e dH ⟨rfl,hb⟩;refine⟨_,rfl,?_⟩;replace pc:=bR pc hb;replace HB:=bW HB hb;clear hb)|(refine pN 9 #[.int .i64 0,.string (⟨#[]⟩:ByteArray)] 47 ?_;intro aa hg dI af hb;replace pc:=bm (Kd.R_below (Kd.R_elderB (rS pc) aa (Nat.le_of_eq hg.symm)) hb);have aq:=bm (af);have bn:=bG HB hg;replace HB:=bW HB hb;clear hb af hg;obtain⟨bo,bp,bq,br⟩:=b2 aq));go_ret2;exact⟨_,by first|rfl|(simp[*,jY,jZ]<;>rfl),by(repeat apply Kd.RS);exact Kd.R_mono (Kd.R_far (p:=⟨aa,1,none⟩) (Kd.R_far (p:=⟨aa,0,none⟩) (Kd.R_mono pc.out (fun k_ hk=>(⟨hk,hk.2⟩:_∧k_≠aa))) (fun _ hk=>hk.2) (.int .i64 al)) (fun _ hk=>hk.2) (.string an)) (fun _ hk=>trivial),wZ HB⟩
mutual
def kt.j0:Nat→ByteArray→List (oK)→Option (Int×ByteArray×Bool)
 |0,_,_=>none
 |k+1,x0,x4=>if(x0.size:Int)>4 then(if 4≤(x0.size:Int)then(if x4.length<5864062014805 then(kt.j1 k x0 (x4++ [(⟨1,x0.extract 4 x0.size⟩:oK)]))else(none))else(none))else(kt.j1 k x0 x4)
def kt.j1:Nat→ByteArray→List (oK)→Option (Int×ByteArray×Bool)
 |0,_,_=>none
 |k+1,x0,x4=>kt.l0 k x0 x4 0
def kt.l0:Nat→ByteArray→List (oK)→Int→Option (Int×ByteArray×Bool)
 |0,_,_,_=>none
 |k+1,x0,x4,x5=>if x5<(x4.length:Int)then(if x0.toList=([]:List UInt8)then(kt.l0 k x0 x4 (wrap64 (x5+1)))else(if 0≤x5 then((kV.f k ((la x4 x5).f0) ((la x4 x5).f1)).bind fun aw=>(if aw.toList=x0.toList then(some ((la x4 x5).f0,(la x4 x5).f1,true))else(kt.l0 k x0 x4 (wrap64 (x5+1)))))else(none)))else(some (0,(⟨#[]⟩:ByteArray),false))
end
def kt.f (k:Nat) (a0:ByteArray):Option (Int×ByteArray×Bool):=(some (([(⟨2,(⟨#[]⟩:ByteArray)⟩:oK)]:List (oK)):List (oK))).bind fun ah=>(if(a0.size:Int)>6 then(if 6≤(a0.size:Int)then(if ah.length<5864062014805 then(kt.j0 k a0 (ah++ [(⟨0,a0.extract 6 a0.size⟩:oK)]))else(none))else(none))else(kt.j0 k a0 ah))
theorem kt.kU:∀k,(∀y0 y1,ph (kt.j0 k y0 y1) (kt.j0 (k+1) y0 y1))∧(∀y0 y1,ph (kt.j1 k y0 y1) (kt.j1 (k+1) y0 y1))∧(∀y0 y1 y2,ph (kt.l0 k y0 y1 y2) (kt.l0 (k+1) y0 y1 y2))
 |0=>⟨fun _ _=> .z (by simp only[kt.j0]),fun _ _=> .z (by simp only[kt.j1]),fun _ _ _=> .z (by simp only[kt.l0])⟩
 |k+1=>by
  have⟨i0,i1,i2⟩:=kt.kU k;exact⟨fun _ _=>by unfold kt.j0;infer_instance,fun _ _=>by unfold kt.j1;infer_instance,fun _ _ _=>by unfold kt.l0;infer_instance⟩
instance kt.mo {k a0}:ph (kt.f k a0) (kt.f (k+1) a0):=by have⟨i0,i1,i2⟩:=kt.kU k;unfold kt.f;infer_instance
theorem kt.calls (k:Nat) (a0:ByteArray) (r1:Int) (r2:ByteArray) (r3:Bool) (w:World) (h:kt.f k a0=some (r1,r2,r3)):
  Calls Tryz.prog 41 #[.string a0] w fun e w'=>e= .returned (.tuple #[.agg #[.int .i64 r1,.string r2],.bool r3])∧Below w.heap.size w w':=by
 have bh:=Tryz.underlying47;have HB:=bm (Below.refl w.heap.size w);have H:=h;clear h;unfold kt.f at H;obtain⟨ah,aV⟩:∃y_:List (oK),y_=(([(⟨2,(⟨#[]⟩:ByteArray)⟩:oK)]:List (oK))):=⟨_,rfl⟩;rw[←aV]at H
 have bs:=bm aV;clear aV;have cn:=bm H;clear H;go_enter Tryz.func41,Tryz.ntmps41;go_upto_if 10 with(first|(refine pN 2 #[.int .i64 0,.string (⟨#[]⟩:ByteArray)] 47 ?_;intro ae hg w3 af hb;have I:=bm (af);have dJ:=bG HB hg;replace HB:=bW HB hb;clear hb af hg)|((with_reducible refine gate_dst (N:=7) rfl ?_);refine Kd.R_lit qL _ 47 ?hg (N:=7) ?hd (xs:=([(⟨2,(⟨#[]⟩:ByteArray)⟩:oK)]:List (oK))) (inner:=[.int .i64 2,.string (⟨#[]⟩:ByteArray)]) (ok:=fun _=>True) (okp:=fun _=>True) ?hr ?hp (fun _ hk=>hk) trivial (Below.refl _ _) (Nat.le_refl _) (by simp) ?_;(case hd=>rfl);(case hg=>rfl);(case hr=>first|(go_simp;done)|(go_simp;rfl));(case hp=>exact(Reps.c2 (show Kd.M qL _ _ _ (⟨2,(⟨#[]⟩:ByteArray)⟩:oK) [.int .i64 2,.string (⟨#[]⟩:ByteArray)] from(qQ _ _ _ (⟨2,(⟨#[]⟩:ByteArray)⟩:oK))) (Reps.none _ _)));intro cS w4 bu hb bk ay;clear bk ay;(first|rw[←bs.out]at bu|(simp only[Int.reduceToNat]at bu;rw[←bs.out]at bu));have aK:=bm (Kd.R_lower (Kd.R_newB bu (g:=ae) (o:=.cells #[.int .i64 0,.string (⟨#[]⟩:ByteArray)] 47 (0,0)) (kS I)) (below_size (wZ HB)));replace I:=bU I hb;replace HB:=bW HB hb;clear hb bu))
 (try simp only[Act.put,qA,qB,qC]);go_cut [4] (fun v4 wc=>∃(kq:Nat) (ab:List (oK)),kn (kt.j0 kq a0 ab=some (r1,r2,r3))∧kn (kq≤k)∧kn (Kd.R qL 47 wc w.heap.size (fun k_=>k_≠ae) v4 ab)∧pK wc ae #[.int .i64 0,.string (⟨#[]⟩:ByteArray)] 47∧kn (Below w.heap.size w wc))
 case first=>
  have H:=cn.out;clear cn;rcases iT H with⟨c6,H⟩|⟨c6,H⟩
  ·have aJ:=mV c6;have cT:decide (6<a0.size)=true:=mV (by omega);clear c6;(first|rw[aJ]|(simp only[i64_w,i32_w];rw[aJ])|skip);obtain⟨bb,cc,H⟩:=mZ H;obtain⟨c8,H⟩:=iN H;have cU:=bm c8;clear c8;obtain⟨cd,aW⟩:∃y_:List (oK),y_=(ah++ [(⟨0,a0.extract 6 a0.size⟩:oK)]):=⟨_,rfl⟩;rw[←aW]at H
   have cp:=bm aW;clear aW;have H':=bm H;clear H;go_wp2_with (first|((with_reducible refine gate_builtin (b:=.append) (xs:= #[.tmp 11,.tmp 15]) rfl ?_);at_builtin;refine Kd.R_append qL (w0:=w) w.heap.size rfl (.tmp 11) (.tmp 15) 39 47 (.agg #[(.int .i64 0),(.string ⟨#[]⟩)]) 24 rfl Tryz.underlying39 rI rfl (by decide) (by omega) cS ah (⟨0,a0.extract 6 a0.size⟩:oK) [.int .i64 0,.string (a0.extract 6 a0.size)] (fun k_=>k_≠ae) (fun _=>False) rfl rfl ?aP (fun _ hk=>hk.elim) ?aF ?aO ?aB ?aS ?aL ?_;(case aP=>exact qQ _ _ _ (⟨0,a0.extract 6 a0.size⟩:oK));(case aB=>exact(wZ HB));(case aF=>exact(fun k_ hk=>Kd.freshB (g:=ae) (o:=.cells #[.int .i64 0,.string (⟨#[]⟩:ByteArray)] 47 (0,0)) (kS I) k_ hk));(case aO=>exact(by(repeat apply Kd.RS);exact Kd.R_mono aK.out (fun _ hk=>hk.2)));(case aS=>exact(below_size (wZ HB)));(case aL=>have:=cU.out;omega);intro dT w9 ho hb hg aU;rw[←cp.out]at ho;replace I:=bN I hg (Kd.R_away aK.out (fun _ hk=>hk.2));replace HB:=bm (hb);have cq:=bm (ho);clear aK;clear ho hb hg aU));go_meet
   case rel=>exact⟨_,(cd),H',⟨by first|omega|exact Nat.le_refl _⟩,⟨by(repeat apply Kd.RS);exact cq.out⟩,⟨kS I⟩,⟨wZ HB⟩⟩
  ·have aJ:=mP c6;have cT:decide (6<a0.size)=false:=mP (by omega);clear c6;(first|rw[aJ]|(simp only[i64_w,i32_w];rw[aJ])|skip);have H':=bm H;clear H;go_wp2;go_meet
   case rel=>exact⟨_,(ah),H',⟨by first|omega|exact Nat.le_refl _⟩,⟨by(repeat apply Kd.RS);exact Kd.R_mono aK.out (fun _ hk=>hk.2)⟩,⟨kS I⟩,⟨wZ HB⟩⟩
 case rest=>
  clear cn;obtain⟨kq,ab,HA,bc,pc,I,HB⟩:=hcut;cases kq with
  |zero=>exact absurd HA.out (by simp[kt.j0])
  |succ DN=>
   have H:=HA.out;clear HA;simp only[kt.j0]at H;have bw:=bm H;clear H;go_upto_if 19 with(fail)
   go_cut [4] (fun v4 wc=>∃(kq:Nat) (ai:List (oK)),kn (kt.j1 kq a0 ai=some (r1,r2,r3))∧kn (kq≤DN)∧kn (Kd.R qL 47 wc w.heap.size (fun k_=>k_≠ae) v4 ai)∧pK wc ae #[.int .i64 0,.string (⟨#[]⟩:ByteArray)] 47∧kn (Below w.heap.size w wc))
   case first=>
    have H:=bw.out;clear bw;rcases iT H with⟨bx,H⟩|⟨bx,H⟩
    ·have az:=mV bx;have cr:decide (4<a0.size)=true:=mV (by omega);clear bx;(first|rw[az]|(simp only[i64_w,i32_w];rw[az])|skip);obtain⟨dK,dL,H⟩:=mZ H;obtain⟨bz,H⟩:=iN H;have aY:=bm bz;clear bz;obtain⟨cf,aZ⟩:∃y_:List (oK),y_=(ab++ [(⟨1,a0.extract 4 a0.size⟩:oK)]):=⟨_,rfl⟩;rw[←aZ]at H
     have ct:=bm aZ;clear aZ;have H':=bm H;clear H;go_wp2_with (first|((with_reducible refine gate_builtin (b:=.append) (xs:= #[.tmp 20,.tmp 24]) rfl ?_);at_builtin;refine Kd.R_append qL (w0:=w) w.heap.size rfl (.tmp 20) (.tmp 24) 39 47 (.agg #[(.int .i64 0),(.string ⟨#[]⟩)]) 24 rfl Tryz.underlying39 rI rfl (by decide) (by omega) u4 ab (⟨1,a0.extract 4 a0.size⟩:oK) [.int .i64 1,.string (a0.extract 4 a0.size)] (fun k_=>k_≠ae) (fun _=>False) rfl rfl ?aP (fun _ hk=>hk.elim) ?aF ?aO ?aB ?aS ?aL ?_;(case aP=>exact qQ _ _ _ (⟨1,a0.extract 4 a0.size⟩:oK));(case aB=>exact(wZ HB));(case aF=>exact(fun k_ hk=>Kd.freshB (g:=ae) (o:=.cells #[.int .i64 0,.string (⟨#[]⟩:ByteArray)] 47 (0,0)) (kS I) k_ hk));(case aO=>exact(rS pc));(case aS=>exact(below_size (wZ HB)));(case aL=>have:=aY.out;omega);intro dU cN ho hb hg aU;rw[←ct.out]at ho;replace I:=bN I hg (Kd.R_away pc.out (fun _ hk=>hk));replace HB:=bm (hb);have cu:=bm (ho);clear pc;clear ho hb hg aU));go_meet
     case rel=>exact⟨_,(cf),H',⟨by have:=bc.out;first|omega|exact Nat.le_refl _⟩,⟨by(repeat apply Kd.RS);exact cu.out⟩,⟨kS I⟩,⟨wZ HB⟩⟩
    ·have az:=mP bx;have cr:decide (4<a0.size)=false:=mP (by omega);clear bx;(first|rw[az]|(simp only[i64_w,i32_w];rw[az])|skip);have H':=bm H;clear H;go_wp2;go_meet
     case rel=>exact⟨_,(ab),H',⟨by have:=bc.out;first|omega|exact Nat.le_refl _⟩,⟨by(repeat apply Kd.RS);exact pc.out⟩,⟨kS I⟩,⟨wZ HB⟩⟩
   case rest=>
    clear bw;obtain⟨kq,ai,HA,b6,pc,I,HB⟩:=hcut;cases kq with
    |zero=>exact absurd HA.out (by simp[kt.j1])
    |succ DR=>
     have H:=HA.out;clear HA;simp only[kt.j1]at H;have H':=bm H;clear H;go_wp2;go_loopg [5] DR (fun kq v5 w'=>∃(ad:Int) (aj:Int) (ak:ByteArray),v5= .int .i64 ad∧kn (kt.l0 kq a0 ai ad=some (r1,r2,r3))∧kn (kq≤DR)∧kn (Kd.R qL 47 w' w.heap.size (fun k_=>k_≠ae) u4 ai)∧kn (w'.heap[ae]?=some (.cells #[.int .i64 aj,.string ak] 47 (0,0)))∧kn (Below w.heap.size w w'))
     case atStart=>exact⟨(0),(0),((⟨#[]⟩:ByteArray)),(by first|rfl|(simp;done)|(simp[*];done)),H',⟨Nat.le_refl _⟩,⟨by(repeat apply Kd.RS);exact pc.out⟩,⟨kS I⟩,⟨wZ HB⟩⟩
     case round=>
      clear H';obtain⟨ad,aj,ak,rfl,HA,b7,pc,I,HB⟩:=hrel;cases gk with
      |zero=>exact absurd HA.out (by simp[kt.l0])
      |succ k3=>
       have H:=HA.out;clear HA;simp only[kt.l0]at H;rcases nA H with⟨cv,H⟩|⟨cv,H⟩
       ·rcases iT H with⟨bd,H⟩|⟨bd,H⟩
        ·obtain⟨cw,cx⟩:=nL bd;clear bd;have H':=bm H;clear H;obtain⟨dV,dW,cV⟩:=Kd.R_slice pc.out;subst cV;go_wp2;go_roundg k3
         case measure=>have:=bc.out;have:=b6.out;have:=b7.out;omega
         case rel=>exact⟨(wrap64 (ad+1)),(aj),(ak),(by first|rfl|(simp;done)|(simp[*];done)),H',⟨by have:=bc.out;have:=b6.out;have:=b7.out;omega⟩,⟨by(repeat apply Kd.RS);exact pc.out⟩,⟨kS I⟩,⟨wZ HB⟩⟩
        ·obtain⟨cw,cx⟩:=nK bd;obtain⟨dM,H⟩:=mY H;obtain⟨aw,cX,H⟩:=bE H;try dsimp only at H
         rcases iT H with⟨bf,H⟩|⟨bf,H⟩
         ·obtain⟨cy,cz⟩:=nL bf;clear bf;obtain⟨rfl,rfl,rfl⟩:=s3 H;obtain⟨dX,dY,da⟩:=Kd.R_slice pc.out;subst da;have aA:0≤(ad:Int):=nY;have aC:ad<(ai.length:Int):=nY;obtain⟨bB,bD,bF,bH⟩:=qg (Kd.R_reads' pc.out).2.2 ad aA aC;cases bD;replace aA:=mX aA;replace aC:=mX aC;go_wp2_with (first|(go_at_call 51;(with_reducible refine(kV.calls k3 ((la ai ad).f0) ((la ai ad).f1) aw _ cX.out).mono ?_);rintro e en ⟨rfl,hb⟩;replace pc:=bR pc hb;replace I:=bU I hb;replace HB:=bW HB hb;clear hb;have bJ:0≤(ad:Int):=nY;have bO:ad<(ai.length:Int):=nY;obtain⟨cA,db,dc,dd⟩:=qg (Kd.R_reads' pc.out).2.2 ad bJ bO;obtain rfl:bB=cA:=(by injection db);replace bJ:=mX bJ;replace bO:=mX bO;obtain⟨de,df,dg,dh⟩:=b2 I));refine bodyPost_ret (results_ct rfl _ _ ae 47 #[.int .i64 ((la ai ad).f0),.string ((la ai ad).f1)] (0,0) _ rfl (kP I) Tryz.underlying47 rfl (by kernel_rfl)) rfl ?_;exact rz HB
         ·obtain⟨cy,cz⟩:=nK bf;have H':=bm H;clear H;obtain⟨dZ,ea,di⟩:=Kd.R_slice pc.out;subst di;have aA:0≤(ad:Int):=nY;have aC:ad<(ai.length:Int):=nY;obtain⟨bB,bD,bF,bH⟩:=qg (Kd.R_reads' pc.out).2.2 ad aA aC;cases bD;replace aA:=mX aA;replace aC:=mX aC;go_wp2_with (first|(go_at_call 51;(with_reducible refine(kV.calls k3 ((la ai ad).f0) ((la ai ad).f1) aw _ cX.out).mono ?_);rintro e eo ⟨rfl,hb⟩;replace pc:=bR pc hb;replace I:=bU I hb;replace HB:=bW HB hb;clear hb));go_roundg k3
          case measure=>have:=bc.out;have:=b6.out;have:=b7.out;omega
          case rel=>exact⟨(wrap64 (ad+1)),(aj),(ak),(by first|rfl|(simp;done)|(simp[*];done)),H',⟨by have:=bc.out;have:=b6.out;have:=b7.out;omega⟩,⟨by(repeat apply Kd.RS);exact pc.out⟩,⟨kS I⟩,⟨wZ HB⟩⟩
       ·obtain⟨rfl,rfl,rfl⟩:=s3 H;obtain⟨eb,ec,dj⟩:=Kd.R_slice pc.out;subst dj;obtain⟨dk,dm,dn,dp⟩:=b2 I;go_wp2;refine bodyPost_ret (results_ct rfl _ _ ae 47 #[.int .i64 0,.string (⟨#[]⟩:ByteArray)] (0,0) _ rfl (kP I) Tryz.underlying47 rfl (by kernel_rfl)) rfl ?_;exact rz HB
def nh.l0:Nat→ByteArray→List (oK)→Int→Int→Option ((List (oK))×Int)
 |0,_,_,_,_=>none
 |k+1,x0,x4,x5,x6=>if x6<(x0.size:Int)then(if 0≤x6 then(if(bt x0 x6)=10 then(if 0≤x5 then(if x5≤x6 then(if x6≤(x0.size:Int)then((kt.f k (x0.extract (x5:Int).toNat (x6:Int).toNat)).bind fun a6=>(if a6.2.2=true then(if x4.length<5864062014805 then(nh.l0 k x0 (x4++ [(⟨a6.1,a6.2.1⟩:oK)]) (wrap64 (x6+1)) (wrap64 (x6+1)))else(none))else(some (x4,x5))))else(none))else(none))else(none))else(nh.l0 k x0 x4 x5 (wrap64 (x6+1))))else(none))else(some (x4,x5))
def nh.f (k:Nat) (a0:ByteArray):Option ((List (oK))×Int):=nh.l0 k a0 (([]:List (oK))) 0 0
theorem nh.kU:∀k,(∀y0 y1 y2 y3,ph (nh.l0 k y0 y1 y2 y3) (nh.l0 (k+1) y0 y1 y2 y3))
 |0=>fun _ _ _ _=> .z (by simp only[nh.l0])
 |k+1=>by
  have i0:=nh.kU k;exact fun _ _ _ _=>by unfold nh.l0;infer_instance
instance nh.mo {k a0}:ph (nh.f k a0) (nh.f (k+1) a0):=by have i0:=nh.kU k;unfold nh.f;infer_instance
theorem nh.calls (k:Nat) (a0:ByteArray) (r1:List (oK)) (r2:Int) (w:World) (h:nh.f k a0=some (r1,r2)):
  Calls Tryz.prog 16 #[.string a0] w fun e w'=>∃bg:Value,e= .returned (.tuple #[bg,.int .i64 r2])∧Kd.R qL 47 w' w.heap.size (fun _=>True) bg r1∧Below w.heap.size w w':=by
 have bh:=Tryz.underlying47;have HB:=bm (Below.refl w.heap.size w);have H:=h;clear h;unfold nh.f at H;obtain⟨cg,a7⟩:∃y_:List (oK),y_=(([]:List (oK))):=⟨_,rfl⟩;replace H:(nh.l0 k a0 cg 0 0)=some (r1,r2):=by first|(rw[a7];exact H)|exact H
 have bT:=bm a7;clear a7;have H':=bm H;clear H;go_enter Tryz.func16,Tryz.ntmps16;go_wp2_with (first|((with_reducible refine gate_dst (N:=9) rfl ?_);refine Kd.R_lit qL _ 47 ?hg (N:=9) ?hd (xs:=([]:List (oK))) (inner:=[]) (ok:=fun _=>True) (okp:=fun _=>True) ?hr ?hp (fun _ hk=>hk) trivial (Below.refl _ _) (Nat.le_refl _) (by simp) ?_;(case hd=>rfl);(case hg=>rfl);(case hr=>first|(go_simp;done)|(go_simp;rfl));(case hp=>exact(Reps.none _ _));intro ed w2 ax hb bk ay;clear bk ay;(first|rw[←bT.out]at ax|(simp only[Int.reduceToNat]at ax;rw[←bT.out]at ax));have cB:=rL ax HB;replace HB:=bW HB hb;clear hb ax));go_loopg [4,5,6] k (fun kq v4 v5 v6 w'=>∃(ab:List (oK)) (j:Int) (J:Int),v5= .int .i64 j∧v6= .int .i64 J∧kn (nh.l0 kq a0 ab j J=some (r1,r2))∧kn (kq≤k)∧kn (Kd.R qL 47 w' w.heap.size (fun _=>True) v4 ab)∧kn (Below w.heap.size w w'))
 case atStart=>exact⟨(cg),(0),(0),(by first|rfl|(simp;done)|(simp[*];done)),(by first|rfl|(simp;done)|(simp[*];done)),H',⟨Nat.le_refl _⟩,⟨by(repeat apply Kd.RS);exact cB.out⟩,⟨wZ HB⟩⟩
 case round=>
  clear H';obtain⟨ab,j,J,rfl,rfl,HA,aI,pc,HB⟩:=hrel;cases gk with
  |zero=>exact absurd HA.out (by simp[nh.l0])
  |succ k1=>
   have H:=HA.out;clear HA;simp only[nh.l0]at H;rcases nA H with⟨ba,H⟩|⟨ba,H⟩
   ·obtain⟨b9,H⟩:=mY H;rcases iT H with⟨c7,H⟩|⟨c7,H⟩
    ·obtain⟨bb,cc⟩:=nL c7;clear c7;obtain⟨ee,ef,H⟩:=mZ H;obtain⟨eg,eh,H⟩:=mZ H;obtain⟨dN,dO,H⟩:=mZ H;obtain⟨⟨ar,au,dq⟩,dr,H⟩:=bE H;try dsimp only at H
     by_cases aM:dq=true
     ·subst aM;rw[if_pos rfl]at H;obtain⟨bz,H⟩:=iN H;have aY:=bm bz;clear bz;obtain⟨ch,a8⟩:∃y_:List (oK),y_=(ab++ [(⟨ar,au⟩:oK)]):=⟨_,rfl⟩;rw[←a8]at H
      have cC:=bm a8;clear a8;have H':=bm H;clear H;have p6:0≤(J:Int):=nY;have q6:J<(a0.size:Int):=nY;have ds:=bt_at a0 J;replace p6:=mX p6;replace q6:=mX q6;go_wp2_with (first|((with_reducible refine gate_callee (f:=41) rfl ?_);refine gB (some 25) Tryz.func41 #[.string (a0.extract (j:Int).toNat (J:Int).toNat)] rfl ?_;(with_reducible refine(kt.calls k1 (a0.extract (j:Int).toNat (J:Int).toNat) ar au true _ dr.out).mono ?_);rintro e cN ⟨rfl,hb⟩;refine⟨_,rfl,?_⟩;replace pc:=bR pc hb;replace HB:=bW HB hb;clear hb)|((with_reducible refine gate_dst (N:=7) rfl ?_);refine pN 7 #[.int .i64 0,.string (⟨#[]⟩:ByteArray)] 47 ?_;intro ag hg dG af hb;replace pc:=bm (Kd.R_below (Kd.R_elderB (rS pc) ag (Nat.le_of_eq hg.symm)) hb);have av:=bm (af);have cD:=bG HB hg;have cE:=bG HB hg;replace HB:=bW HB hb;clear hb af hg;obtain⟨dt,du,dv,dw⟩:=b2 av)|((with_reducible refine gate_builtin (b:=.append) (xs:= #[.tmp 32,.tmp 34]) rfl ?_);at_builtin;refine Kd.R_append qL (w0:=w) w.heap.size rfl (.tmp 32) (.tmp 34) 39 47 (.agg #[(.int .i64 0),(.string ⟨#[]⟩)]) 24 rfl Tryz.underlying39 rI rfl (by decide) (by omega) u4 ab (⟨ar,au⟩:oK) [.int .i64 ar,.string au] (fun k_=>k_≠ag) (fun _=>False) rfl (by first|(go_simp;done)|(go_simp;rfl)) ?aP (fun _ hk=>hk.elim) ?aF ?aO ?aB ?aS ?aL ?_;(case aP=>exact qQ _ _ _ (⟨ar,au⟩:oK));(case aB=>exact(wZ HB));(case aF=>exact(fun k_ hk=>Kd.freshB (g:=ag) (o:=.cells #[.int .i64 ar,.string au] 47 (0,0)) (kP av) k_ hk));(case aO=>exact(by(repeat apply Kd.RS);exact Kd.R_mono (Kd.R_far (p:=⟨ag,1,none⟩) (Kd.R_far (p:=⟨ag,0,none⟩) (Kd.R_mono pc.out (fun k_ hk=>(⟨hk,hk.2⟩:_∧k_≠ag))) (fun _ hk=>hk.2) (.int .i64 ar)) (fun _ hk=>hk.2) (.string au)) (fun _ hk=>hk.1.2)));(case aS=>exact(below_size (wZ HB)));(case aL=>have:=aY.out;omega);intro ei ep ho hb hg aU;rw[←cC.out]at ho;replace av:=bm (blk_grown (g:=ag) (o:=.cells #[.int .i64 ar,.string au] 47 (0,0)) (kP av) hg (Kd.R_away pc.out (fun _ hk=>hk.2)));replace HB:=bm (hb);have cF:=bm (ho);clear pc;clear ho hb hg aU));go_roundg k1
      case measure=>have:=aI.out;omega
      case rel=>exact⟨(ch),(wrap64 (J+1)),(wrap64 (J+1)),(by first|rfl|(simp;done)|(simp[*];done)),(by first|rfl|(simp;done)|(simp[*];done)),H',⟨by have:=aI.out;omega⟩,⟨by(repeat apply Kd.RS);exact Kd.R_mono cF.out (fun _ hk=>trivial)⟩,⟨wZ HB⟩⟩
     ·replace aM:=mN aM;subst aM;rw[if_neg nz]at H;obtain⟨rfl,rfl⟩:=s2 H;have p6:0≤(J:Int):=nY;have q6:J<(a0.size:Int):=nY;have ds:=bt_at a0 J;replace p6:=mX p6;replace q6:=mX q6;go_wp2_with (first|((with_reducible refine gate_callee (f:=41) rfl ?_);refine gB (some 25) Tryz.func41 #[.string (a0.extract (j:Int).toNat (J:Int).toNat)] rfl ?_;(with_reducible refine(kt.calls k1 (a0.extract (j:Int).toNat (J:Int).toNat) ar au false _ dr.out).mono ?_);rintro e dH ⟨rfl,hb⟩;refine⟨_,rfl,?_⟩;replace pc:=bR pc hb;replace HB:=bW HB hb;clear hb)|((with_reducible refine gate_dst (N:=7) rfl ?_);refine pN 7 #[.int .i64 0,.string (⟨#[]⟩:ByteArray)] 47 ?_;intro ag hg dI af hb;replace pc:=bm (Kd.R_below (Kd.R_elderB (rS pc) ag (Nat.le_of_eq hg.symm)) hb);have av:=bm (af);have cD:=bG HB hg;have cE:=bG HB hg;replace HB:=bW HB hb;clear hb af hg;obtain⟨bo,bp,bq,br⟩:=b2 av));go_ret2;exact⟨_,by first|rfl|(simp[*,jY,jZ]<;>rfl),by(repeat apply Kd.RS);exact Kd.R_mono (Kd.R_far (p:=⟨ag,1,none⟩) (Kd.R_far (p:=⟨ag,0,none⟩) (Kd.R_mono pc.out (fun k_ hk=>(⟨hk,hk.2⟩:_∧k_≠ag))) (fun _ hk=>hk.2) (.int .i64 ar)) (fun _ hk=>hk.2) (.string au)) (fun _ hk=>trivial),wZ HB⟩
    ·obtain⟨bb,cc⟩:=nK c7;have H':=bm H;clear H;have p6:0≤(J:Int):=nY;have q6:J<(a0.size:Int):=nY;have ds:=bt_at a0 J;replace p6:=mX p6;replace q6:=mX q6;go_wp2;go_roundg k1
     case measure=>have:=aI.out;omega
     case rel=>exact⟨(ab),(j),(wrap64 (J+1)),(by first|rfl|(simp;done)|(simp[*];done)),(by first|rfl|(simp;done)|(simp[*];done)),H',⟨by have:=aI.out;omega⟩,⟨by(repeat apply Kd.RS);exact pc.out⟩,⟨wZ HB⟩⟩
   ·obtain⟨rfl,rfl⟩:=s2 H;go_wp2;go_ret2;exact⟨_,by first|rfl|(simp[*,jY,jZ]<;>rfl),by(repeat apply Kd.RS);exact pc.out,wZ HB⟩
def nN.l0:Nat→List (oK)→List (oK)→Int→Option (Bool)
 |0,_,_,_=>none
 |k+1,x0,x1,x5=>if x5<(x0.length:Int)then(if 0≤x5 then(if x5<(x1.length:Int)then(if(!(((la x0 x5).f0)==((la x1 x5).f0))||(!((((la x0 x5).f1).toList)==(((la x1 x5).f1).toList))))=true then(some false)else(nN.l0 k x0 x1 (wrap64 (x5+1))))else(none))else(none))else(some true)
def nN.f (k:Nat) (l0:List (oK)) (l1:List (oK)):Option (Bool):=if(l0.length:Int)=(l1.length:Int)then(nN.l0 k l0 l1 0)else(some false)
theorem nN.kU:∀k,(∀y0 y1 y2,ph (nN.l0 k y0 y1 y2) (nN.l0 (k+1) y0 y1 y2))
 |0=>fun _ _ _=> .z (by simp only[nN.l0])
 |k+1=>by
  have i0:=nN.kU k;exact fun _ _ _=>by unfold nN.l0;infer_instance
instance nN.mo {k a0 a1}:ph (nN.f k a0 a1) (nN.f (k+1) a0 a1):=by have i0:=nN.kU k;unfold nN.f;infer_instance
theorem nN.calls (k:Nat) (A0:Option Addr) (c0:Nat) (l0:List (oK)) (A1:Option Addr) (c1:Nat) (l1:List (oK)) (r:Bool) (w:World) (dx:Kd.C qL w A0 l0.length l0) (dy:l0.length≤c0) (dz:Kd.C qL w A1 l1.length l1) (dA:l1.length≤c1) (h:nN.f k l0 l1=some r):
  Calls Tryz.prog 17 #[.slice A0 l0.length c0,.slice A1 l1.length c1] w fun e w'=>e= .returned (.bool r)∧Drawn0 w w':=by
 have bh:=Tryz.underlying47;have dB:=bm dx;have er:=bm dy;clear dx dy;have dC:=bm dz;have et:=bm dA;clear dz dA;have H:=h;clear h;unfold nN.f at H;rcases iT H with⟨c3,H⟩|⟨c3,H⟩
 ·obtain⟨dD,dE⟩:=nL c3;have dF:(l0.length==l1.length)=true:=by first|simpa using c3|(simp at c3⊢;omega)
  clear c3;have H':=bm H;clear H;go_enter Tryz.func17,Tryz.ntmps17;go_wp2;repeat(go_quiet (fail);try go_wp2)
  go_loopg [5] k (fun kq v5 w'=>∃(j:Int),v5= .int .i64 j∧kn (nN.l0 kq l0 l1 j=some r)∧kn (kq≤k)∧Drawn0 w w')
  case atStart=>exact⟨(0),(by first|rfl|(simp;done)|(simp[*];done)),H',⟨Nat.le_refl _⟩,by repeat(first|exact Drawn0.refl _|apply Drawn0.step)⟩
  case round=>
   clear H';obtain⟨j,rfl,HA,aI,⟨m1,rfl⟩⟩:=hrel;cases gk with
   |zero=>exact absurd HA.out (by simp[nN.l0])
   |succ k1=>
    have H:=HA.out;clear HA;simp only[nN.l0]at H;rcases nA H with⟨ba,H⟩|⟨ba,H⟩
    ·obtain⟨b9,H⟩:=mY H;obtain⟨aJ,H⟩:=mY H;rcases iT H with⟨c7,H⟩|⟨c7,H⟩
     ·have bb:(!(((la l0 j).f0)==((la l1 j).f0))||(!((((la l0 j).f1).toList)==(((la l1 j).f1).toList))))=true:=c7;clear c7;obtain rfl:=oJ H;have aD:0≤(j:Int):=nY;have aE:j<(l0.length:Int):=nY;obtain⟨cG,bV,bZ,b0⟩:=qg dB.out j aD aE;cases bV;replace aD:=mX aD;replace aE:=mX aE;have aG:0≤(j:Int):=nY;have aH:j<(l1.length:Int):=nY;obtain⟨cH,b1,b4,b5⟩:=qg dC.out j aG aH;cases b1;replace aG:=mX aG;replace aH:=mX aH;go_wp2;repeat(go_quiet (fail);try go_wp2)
      go_ret;exact rq
     ·have bb:(!(((la l0 j).f0)==((la l1 j).f0))||(!((((la l0 j).f1).toList)==(((la l1 j).f1).toList))))=false:=by simpa using c7
      clear c7;have H':=bm H;clear H;have aD:0≤(j:Int):=nY;have aE:j<(l0.length:Int):=nY;obtain⟨cG,bV,bZ,b0⟩:=qg dB.out j aD aE;cases bV;replace aD:=mX aD;replace aE:=mX aE;have aG:0≤(j:Int):=nY;have aH:j<(l1.length:Int):=nY;obtain⟨cH,b1,b4,b5⟩:=qg dC.out j aG aH;cases b1;replace aG:=mX aG;replace aH:=mX aH;go_wp2;repeat(go_quiet (fail);try go_wp2)
      go_roundg k1
      case measure=>have:=aI.out;omega
      case rel=>exact⟨(wrap64 (j+1)),(by first|rfl|(simp;done)|(simp[*];done)),H',⟨by have:=aI.out;omega⟩,by repeat(first|exact Drawn0.refl _|apply Drawn0.step)⟩
    ·obtain rfl:=oJ H;go_wp2;repeat(go_quiet (fail);try go_wp2)
     go_ret;exact rq
 ·obtain⟨dD,dE⟩:=nK c3;have dF:(l0.length==l1.length)=false:=by first|simpa using c3|(simp at c3⊢;omega)
  obtain rfl:=oJ H;go_enter Tryz.func17,Tryz.ntmps17;go_wp2;repeat(go_quiet (fail);try go_wp2)
  go_ret;exact rq
end Go.Proofs.YtigeaokfhnlkcaaGreatDoor.P
