import Derived.Test.YtigeaokfhnlkcaaGreatDoorPx0
import Derived.Test.YtigeaokfhnlkcaaGreatDoorPx4
import Derived.Test.YtigeaokfhnlkcaaGreatDoorPx5
import Derived.Test.YtigeaokfhnlkcaaGreatDoorPx8
namespace Go.Proofs.YtigeaokfhnlkcaaGreatDoor.P
open Go.RowKit YtigeaokfhnlkcaaGreatDoorW PrintWords PrintLast PrintMore
attribute [local go_sem] max2_int min2_int max_two min_two max_three min_three max_four min_four
set_option linter.unusedVariables false
set_option linter.unusedSimpArgs false
set_option maxHeartbeats 8000000
set_option maxRecDepth 100000
def pD.f (k:Nat) (ad:Int) (aa:List Int) (ab:List (List Int)) (a1:ByteArray):Option (Int×List Int×(List (List Int))×ByteArray):=(oF.f k a1).bind fun ay=>(if ay.2.2=true then((ks.f k ad aa ab ay.1 ay.2.1).bind fun ag=>(if ag.2.2.2=true then(some (ag.1,ag.2.1,ag.2.2.1,(⟨#[111,107]⟩:ByteArray)))else(some (ag.1,ag.2.1,ag.2.2.1,(⟨#[110,111]⟩:ByteArray)))))else((kp.f k ad aa ab).bind fun cD=>(none)))
instance pD.mo {k a0 a1 a2 a3}:ph (pD.f k a0 a1 a2 a3) (pD.f (k+1) a0 a1 a2 a3):=by unfold pD.f;infer_instance
theorem pD.calls (k:Nat) (ad:Int) (al:Option Addr) (an:Nat) (aa:List Int) (ao:Option Addr) (aq:Nat) (ab:List (List Int)) (a1:ByteArray) (r1:Int) (r2:List Int) (r3:List (List Int)) (r4:ByteArray) (w:World) (aZ:Kd.C (Kd.int .i64) w al aa.length aa) (a6:aa.length≤an) (a7:Kd.C (Kd.slice 3 (Kd.int .i64)) w ao ab.length ab) (a8:ab.length≤aq) (h:pD.f k ad aa ab a1=some (r1,r2,r3,r4)):
  Calls Tryz.prog 29 #[.agg #[.int .i64 ad,.slice al aa.length an,.slice ao ab.length aq],.string a1] w fun e w'=>∃bw bJ:Value,e= .returned (.tuple #[.agg #[.int .i64 r1,bw,bJ],.string r4])∧Kd.R (Kd.int .i64) 3 w' w.heap.size (fun _=>True) bw r2∧Kd.S (Kd.slice 3 (Kd.int .i64)) 23 w' w.heap.size (fun k_=>some k_≠(bw:Value).ownBlock) bJ r3∧Below w.heap.size w w':=by
 have df:=Tryz.underlying26;have ga:=Tryz.underlying47;have aP:=bm aZ;have aQ:=bm a6;clear aZ a6;have aR:=bm a7;have aS:=bm a8;clear a7 a8;have HB:=bm (Below.refl w.heap.size w);have H:=h;clear h;unfold pD.f at H;obtain⟨⟨aT,aU,dg⟩,A3,H⟩:=bE H;try dsimp only at H
 by_cases c4:dg=true
 ·subst c4;rw[if_pos rfl]at H;obtain⟨⟨aV,aW,aY,dh⟩,A5,H⟩:=bE H;try dsimp only at H
  by_cases c6:dh=true
  ·subst c6;rw[if_pos rfl]at H;obtain⟨rfl,rfl,rfl,rfl⟩:=s4 H;go_enter Tryz.func29,Tryz.ntmps29;go_wp2_with (first|(refine pN 2 #[.int .i64 ad,.slice al aa.length an,.slice ao ab.length aq] 26 ?_;intro cE hg w7 J hb;have j:=bm (J);have cF:=bG HB hg;replace HB:=bW HB hb;clear hb J hg)|(refine pN 4 #[.int .i64 0,.slice none 0 0,.slice none 0 0] 26 ?_;intro au hg w8 J hb;have I:=bm (J);have cG:=bG HB hg;replace HB:=bW HB hb;have az:=bL j hg;have aA:=bM j hg;replace j:=bU j hb;clear hb J hg)|(refine gB (some 12) Tryz.func40 #[.string a1] rfl ?_;(with_reducible refine(oF.calls k a1 aT aU true _ A3.out).mono ?_);rintro e w9 ⟨rfl,hb⟩;refine⟨_,rfl,?_⟩;replace j:=bU j hb;replace I:=bU I hb;replace HB:=bW HB hb;clear hb)|(refine pN 6 #[.int .i64 0,.string (⟨#[]⟩:ByteArray)] 47 ?_;intro cH hg fh J hb;have ah:=bm (J);have cI:=bG HB hg;replace HB:=bW HB hb;have aB:=bL j hg;have aC:=bM j hg;replace j:=bU j hb;have aD:=bL I hg;have aE:=bM I hg;replace I:=bU I hb;clear hb J hg;obtain⟨_,_,_,_⟩:=nE aC aB aE aD;obtain⟨bO,bT,bV,bZ⟩:=b2 ah;obtain⟨_,_⟩:=nC az aA;obtain⟨di,dj,dk,dm,dn,dp⟩:=b3 j)|(refine gB (some 19) Tryz.func44 #[.agg #[.int .i64 ad,.slice al aa.length an,.slice ao ab.length aq],.agg #[.int .i64 aT,.string aU]] rfl ?_;(with_reducible refine(ks.calls k ad _ _ aa _ _ ab aT aU aV aW aY true _ ?_ ?_ ?_ ?_ A5.out).mono ?_);exact Kd.C_below aP.out (wZ HB);exact aQ.out;exact Kd.C_below aR.out (wZ HB);exact aS.out;rintro e fp ⟨dq,dr,rfl,bh,bj,hb⟩;refine⟨_,rfl,?_⟩;have av:=rL bh HB;have aw:=sL bj HB;replace j:=bU j hb;replace I:=bU I hb;replace ah:=bP #[.int .i64 aT,.string aU] ah hb;replace HB:=bW HB hb;clear hb;(try clear bh);(try clear bj))|(refine pN 8 #[.int .i64 0,.slice none 0 0,.slice none 0 0] 26 ?_;intro aF hg fq J hb;replace av:=bR av hb;replace aw:=bS aw hb;have ba:=bm (J);have cJ:=bG HB hg;replace HB:=bW HB hb;have aG:=bL j hg;have aH:=bM j hg;replace j:=bU j hb;have aI:=bL I hg;have aJ:=bM I hg;replace I:=bU I hb;have aK:=bL ah hg;have aL:=bM ah hg;replace ah:=bU ah hb;clear hb J hg;obtain⟨_,_,_,_,_,_⟩:=nH aH aG aJ aI aL aK;obtain⟨bk,bl,b0,b1,bn,b4⟩:=b3 ba;obtain⟨b5,b6,ds⟩:=Kd.R_slice av.out;subst ds;obtain⟨b7,b8,dt⟩:=Kd.S_slice aw.out;subst dt;obtain⟨du,dv,dw,dx,dy,dz⟩:=b3 I));refine bodyPost_ret (results_ct rfl _ _ au 26 #[.int .i64 aV,.slice b5 aW.length b6,.slice b7 aY.length b8] (0,0) _ rfl (kP I) Tryz.underlying26 rfl (by kernel_rfl)) rfl ?_;exact⟨_,_,by first|rfl|(simp[*,jY,jZ]<;>rfl),rT av,by(repeat apply Kd.SS);exact Kd.S_mono (Kd.S_far (p:=⟨au,2,none⟩) (Kd.S_far (p:=⟨au,1,none⟩) (Kd.S_far (p:=⟨au,0,none⟩) (Kd.S_far (p:=⟨aF,2,none⟩) (Kd.S_far (p:=⟨aF,1,none⟩) (Kd.S_far (p:=⟨aF,0,none⟩) (Kd.S_types (Kd.S_types aw.out ba.out (by decide)) I.out (by decide)) (fun _ hk=>hk.1.2) (.int .i64 aV)) (fun _ hk=>hk.1.2) (.slice b5 aW.length b6)) (fun _ hk=>hk.1.2) (.slice b7 aY.length b8)) (fun _ hk=>hk.2) (.int .i64 aV)) (fun _ hk=>hk.2) (.slice b5 aW.length b6)) (fun _ hk=>hk.2) (.slice b7 aY.length b8)) (fun _ hk=>hk.1.1),wZ HB⟩
  ·replace c6:=mN c6;subst c6;rw[if_neg nz]at H;obtain⟨rfl,rfl,rfl,rfl⟩:=s4 H;go_enter Tryz.func29,Tryz.ntmps29;go_wp2_with (first|(refine pN 2 #[.int .i64 ad,.slice al aa.length an,.slice ao ab.length aq] 26 ?_;intro cE hg gp J hb;have j:=bm (J);have cF:=bG HB hg;replace HB:=bW HB hb;clear hb J hg)|(refine pN 4 #[.int .i64 0,.slice none 0 0,.slice none 0 0] 26 ?_;intro au hg gq J hb;have I:=bm (J);have cG:=bG HB hg;replace HB:=bW HB hb;have az:=bL j hg;have aA:=bM j hg;replace j:=bU j hb;clear hb J hg)|(refine gB (some 12) Tryz.func40 #[.string a1] rfl ?_;(with_reducible refine(oF.calls k a1 aT aU true _ A3.out).mono ?_);rintro e gr ⟨rfl,hb⟩;refine⟨_,rfl,?_⟩;replace j:=bU j hb;replace I:=bU I hb;replace HB:=bW HB hb;clear hb)|(refine pN 6 #[.int .i64 0,.string (⟨#[]⟩:ByteArray)] 47 ?_;intro cH hg gu J hb;have ah:=bm (J);have cI:=bG HB hg;replace HB:=bW HB hb;have aB:=bL j hg;have aC:=bM j hg;replace j:=bU j hb;have aD:=bL I hg;have aE:=bM I hg;replace I:=bU I hb;clear hb J hg;obtain⟨_,_,_,_⟩:=nE aC aB aE aD;obtain⟨dA,dB,dC,dD⟩:=b2 ah;obtain⟨_,_⟩:=nC az aA;obtain⟨dE,dF,dG,dH,dI,dJ⟩:=b3 j)|(refine gB (some 19) Tryz.func44 #[.agg #[.int .i64 ad,.slice al aa.length an,.slice ao ab.length aq],.agg #[.int .i64 aT,.string aU]] rfl ?_;(with_reducible refine(ks.calls k ad _ _ aa _ _ ab aT aU aV aW aY false _ ?_ ?_ ?_ ?_ A5.out).mono ?_);exact Kd.C_below aP.out (wZ HB);exact aQ.out;exact Kd.C_below aR.out (wZ HB);exact aS.out;rintro e gv ⟨dq,dr,rfl,bh,bj,hb⟩;refine⟨_,rfl,?_⟩;have av:=rL bh HB;have aw:=sL bj HB;replace j:=bU j hb;replace I:=bU I hb;replace ah:=bP #[.int .i64 aT,.string aU] ah hb;replace HB:=bW HB hb;clear hb;(try clear bh);(try clear bj))|(refine pN 8 #[.int .i64 0,.slice none 0 0,.slice none 0 0] 26 ?_;intro aF hg gw J hb;replace av:=bR av hb;replace aw:=bS aw hb;have ba:=bm (J);have cJ:=bG HB hg;replace HB:=bW HB hb;have aG:=bL j hg;have aH:=bM j hg;replace j:=bU j hb;have aI:=bL I hg;have aJ:=bM I hg;replace I:=bU I hb;have aK:=bL ah hg;have aL:=bM ah hg;replace ah:=bU ah hb;clear hb J hg;obtain⟨_,_,_,_,_,_⟩:=nH aH aG aJ aI aL aK;obtain⟨dK,dL,dM,dN,dO,dP⟩:=b3 ba;obtain⟨b9,ca,dQ⟩:=Kd.R_slice av.out;subst dQ;obtain⟨cb,cc,dR⟩:=Kd.S_slice aw.out;subst dR;obtain⟨dS,dT,dU,dV,dW,dX⟩:=b3 I));refine bodyPost_ret (results_ct rfl _ _ au 26 #[.int .i64 aV,.slice b9 aW.length ca,.slice cb aY.length cc] (0,0) _ rfl (kP I) Tryz.underlying26 rfl (by kernel_rfl)) rfl ?_;exact⟨_,_,by first|rfl|(simp[*,jY,jZ]<;>rfl),rT av,by(repeat apply Kd.SS);exact Kd.S_mono (Kd.S_far (p:=⟨au,2,none⟩) (Kd.S_far (p:=⟨au,1,none⟩) (Kd.S_far (p:=⟨au,0,none⟩) (Kd.S_far (p:=⟨aF,2,none⟩) (Kd.S_far (p:=⟨aF,1,none⟩) (Kd.S_far (p:=⟨aF,0,none⟩) (Kd.S_types (Kd.S_types aw.out ba.out (by decide)) I.out (by decide)) (fun _ hk=>hk.1.2) (.int .i64 aV)) (fun _ hk=>hk.1.2) (.slice b9 aW.length ca)) (fun _ hk=>hk.1.2) (.slice cb aY.length cc)) (fun _ hk=>hk.2) (.int .i64 aV)) (fun _ hk=>hk.2) (.slice b9 aW.length ca)) (fun _ hk=>hk.2) (.slice cb aY.length cc)) (fun _ hk=>hk.1.1),wZ HB⟩
 ·replace c4:=mN c4;subst c4;rw[if_neg nz]at H;obtain⟨⟨gb,gf,gg⟩,gx,H⟩:=bE H;try dsimp only at H
  exact absurd H (by simp)
def oO.f (k:Nat) (ad:Int) (aa:List Int) (ab:List (List Int)) (a1:ByteArray):Option (Int×List Int×(List (List Int))×ByteArray):=(oc.f k ad aa ab).bind fun bo=>(if bo=true then((pD.f k ad aa ab a1).bind fun ax=>(some (ax.1,ax.2.1,ax.2.2.1,ax.2.2.2)))else(some (0,([]:List Int),([]:List (List Int)),(⟨#[]⟩:ByteArray))))
instance oO.mo {k a0 a1 a2 a3}:ph (oO.f k a0 a1 a2 a3) (oO.f (k+1) a0 a1 a2 a3):=by unfold oO.f;infer_instance
theorem oO.calls (k:Nat) (ad:Int) (al:Option Addr) (an:Nat) (aa:List Int) (ao:Option Addr) (aq:Nat) (ab:List (List Int)) (a1:ByteArray) (r1:Int) (r2:List Int) (r3:List (List Int)) (r4:ByteArray) (w:World) (aZ:Kd.C (Kd.int .i64) w al aa.length aa) (a6:aa.length≤an) (a7:Kd.C (Kd.slice 3 (Kd.int .i64)) w ao ab.length ab) (a8:ab.length≤aq) (h:oO.f k ad aa ab a1=some (r1,r2,r3,r4)):
  Calls Tryz.prog 13 #[.agg #[.int .i64 ad,.slice al aa.length an,.slice ao ab.length aq],.string a1] w fun e w'=>∃bw bJ:Value,e= .returned (.tuple #[.agg #[.int .i64 r1,bw,bJ],.string r4])∧Kd.R (Kd.int .i64) 3 w' w.heap.size (fun _=>True) bw r2∧Kd.S (Kd.slice 3 (Kd.int .i64)) 23 w' w.heap.size (fun k_=>some k_≠(bw:Value).ownBlock) bJ r3∧Below w.heap.size w w':=by
 have df:=Tryz.underlying26;have aP:=bm aZ;have aQ:=bm a6;clear aZ a6;have aR:=bm a7;have aS:=bm a8;clear a7 a8;have HB:=bm (Below.refl w.heap.size w);have H:=h;clear h;unfold oO.f at H;obtain⟨bo,A3,H⟩:=bE H;try dsimp only at H
 by_cases c4:bo=true
 ·subst c4;rw[if_pos rfl]at H;obtain⟨⟨cx,cy,cz,dY⟩,A5,H⟩:=bE H;try dsimp only at H
  obtain⟨rfl,rfl,rfl,rfl⟩:=s4 H;go_enter Tryz.func13,Tryz.ntmps13;go_wp2_with (first|(refine pN 2 #[.int .i64 ad,.slice al aa.length an,.slice ao ab.length aq] 26 ?_;intro cM hg w6 J hb;have ae:=bm (J);have cN:=bG HB hg;replace HB:=bW HB hb;clear hb J hg)|(refine pN 4 #[.int .i64 0,.slice none 0 0,.slice none 0 0] 26 ?_;intro bx hg w7 J hb;have aj:=bm (J);have cO:=bG HB hg;replace HB:=bW HB hb;have aM:=bL ae hg;have aN:=bM ae hg;replace ae:=bU ae hb;clear hb J hg;obtain⟨_,_⟩:=nC aM aN;obtain⟨eY,eZ,e0,e1,e2,e3⟩:=b3 ae)|(refine gB (some 7) Tryz.func27 #[.agg #[.int .i64 ad,.slice al aa.length an,.slice ao ab.length aq]] rfl ?_;(with_reducible refine(oc.calls k ad _ _ aa _ _ ab true _ ?_ ?_ ?_ ?_ A3.out).mono ?_);exact cY aP HB;exact aQ.out;exact cY aR HB;exact aS.out;rintro e fh ⟨rfl,hb⟩;refine⟨_,rfl,?_⟩;replace ae:=bU ae hb;replace aj:=bU aj hb;replace HB:=bW HB hb;clear hb;obtain⟨dZ,ea,eb,ec,ed,ee⟩:=b3 ae)|(refine gB (some 12) Tryz.func29 #[.agg #[.int .i64 ad,.slice al aa.length an,.slice ao ab.length aq],.string a1] rfl ?_;(with_reducible refine(pD.calls k ad _ _ aa _ _ ab a1 cx cy cz dY _ ?_ ?_ ?_ ?_ A5.out).mono ?_);exact cY aP HB;exact aQ.out;exact cY aR HB;exact aS.out;rintro e gy ⟨gj,gl,rfl,bh,bj,hb⟩;refine⟨_,rfl,?_⟩;have cd:=rL bh HB;have cf:=sL bj HB;replace ae:=bU ae hb;replace aj:=bU aj hb;replace HB:=bW HB hb;clear hb;(try clear bh);(try clear bj);obtain⟨bO,bT,ef,bV,bZ,eg⟩:=b3 aj;obtain⟨eh,ei,ej⟩:=Kd.R_slice cd.out;subst ej;obtain⟨ek,el,en⟩:=Kd.S_slice cf.out;subst en));refine bodyPost_ret (results_ct rfl _ _ bx 26 #[.int .i64 cx,.slice eh cy.length ei,.slice ek cz.length el] (0,0) _ rfl (kP aj) Tryz.underlying26 rfl (by kernel_rfl)) rfl ?_;exact⟨_,_,by first|rfl|(simp[*,jY,jZ]<;>rfl),rT cd,sT cf,wZ HB⟩
 ·replace c4:=mN c4;subst c4;rw[if_neg nz]at H;obtain⟨rfl,rfl,rfl,rfl⟩:=s4 H;go_enter Tryz.func13,Tryz.ntmps13;go_wp2_with (first|(refine pN 2 #[.int .i64 ad,.slice al aa.length an,.slice ao ab.length aq] 26 ?_;intro cM hg fp J hb;have ae:=bm (J);have cN:=bG HB hg;replace HB:=bW HB hb;clear hb J hg)|(refine pN 4 #[.int .i64 0,.slice none 0 0,.slice none 0 0] 26 ?_;intro bx hg fq J hb;have aj:=bm (J);have cO:=bG HB hg;replace HB:=bW HB hb;have aM:=bL ae hg;have aN:=bM ae hg;replace ae:=bU ae hb;clear hb J hg;obtain⟨_,_⟩:=nC aM aN;obtain⟨eo,ep,er,et,eu,ev⟩:=b3 ae)|(refine gB (some 7) Tryz.func27 #[.agg #[.int .i64 ad,.slice al aa.length an,.slice ao ab.length aq]] rfl ?_;(with_reducible refine(oc.calls k ad _ _ aa _ _ ab false _ ?_ ?_ ?_ ?_ A3.out).mono ?_);exact cY aP HB;exact aQ.out;exact cY aR HB;exact aS.out;rintro e gz ⟨rfl,hb⟩;refine⟨_,rfl,?_⟩;replace ae:=bU ae hb;replace aj:=bU aj hb;replace HB:=bW HB hb;clear hb;obtain⟨bk,bl,b0,b1,bn,b4⟩:=b3 aj));refine bodyPost_ret (results_ct rfl _ _ bx 26 #[.int .i64 0,.slice none 0 0,.slice none 0 0] (0,0) _ rfl (kP aj) Tryz.underlying26 rfl (by kernel_rfl)) rfl ?_;exact⟨_,_,by first|rfl|(simp[*,jY,jZ]<;>rfl),by first|exact Kd.R_nil _ _ _ _ _|exact Kd.N_nil _ _ _ _ _|exact Kd.V_nil _ _ _ _ _|exact Kd.Q_nil _ _ _ _ _|exact Kd.S_nil _ _ _ _ _,by first|exact Kd.S_nil _ _ _ _ _|exact Kd.N_nil _ _ _ _ _|exact Kd.V_nil _ _ _ _ _|exact Kd.Q_nil _ _ _ _ _|exact Kd.R_nil _ _ _ _ _,wZ HB⟩
def ja (w0 W:World) (g:Nat) (f0:List Int) (f1:Int):Prop:=∃A0 c0,W.heap[g]?=some (.cells #[.slice A0 f0.length c0,.int .i64 f1] 72 (0,0))∧w0.heap.size≤g∧Kd.C (Kd.int .u8) w0 A0 f0.length f0
theorem ja.grown {w0 W:World} {g:Nat} {f0:List Int} {f1:Int} {W1:World} {row:Option Nat} (h:ja w0 W g f0 f1) (hw:W.grownBy W1 row) (cg:some g≠row):ja w0 W1 g f0 f1:=by
 obtain⟨A0,c0,hb,hg,ak⟩:=h;exact⟨A0,c0,blk_grown hb hw cg,hg,ak⟩
theorem ja.Al {w0 W:World} {g:Nat} {f0:List Int} {f1:Int} {α:Type} {d:Kd α} {e:Nat} {base:Nat} {ok:Nat→Prop} {v:Value} {xs:List α} (h:ja w0 W g f0 f1) (ho:Kd.N d e W base ok v xs) (ht:e≠72):some g≠v.ownBlock:=by
 obtain⟨A0,c0,hb,hg,ak⟩:=h;exact Kd.N_ne ho hb ht
theorem ja.fresh {w0 W:World} {g:Nat} {f0:List Int} {f1:Int} (h:ja w0 W g f0 f1):∀k,W.heap.size≤k→k≠g:=by
 obtain⟨A0,c0,hb,hg,ak⟩:=h;exact Kd.freshB hb
theorem ja.kept {w0 W:World} {g:Nat} {f0:List Int} {f1:Int} {W1:World} {S:Nat→Prop} (h:ja w0 W g f0 f1) (hk:Kept W W1 S) (cg:¬S g):ja w0 W1 g f0 f1:=by
 obtain⟨A0,c0,hb,hg,ak⟩:=h;exact⟨A0,c0,blk_kept hb hk cg,hg,ak⟩
theorem ja.below {w0 W:World} {g:Nat} {f0:List Int} {f1:Int} {W1:World} (h:ja w0 W g f0 f1) (hw:Below W.heap.size W W1):ja w0 W1 g f0 f1:=h.grown (grown_of_below hw none) (by simp)
theorem ja.bX {w0 W:World} {g:Nat} {f0:List Int} {f1:Int} {W1:World} [s:zc W W1] (h:ja w0 W g f0 f1):ja w0 W1 g f0 f1:=h.below s.b
theorem ja.alloc {w0 W:World} {g:Nat} {f0:List Int} {f1:Int} (h:ja w0 W g f0 f1) (o:Obj):ja w0 (W.alloc o) g f0 f1:=h.below (xB (Below.refl _ _) o)
theorem ja.drewN {w0 W:World} {g:Nat} {f0:List Int} {f1:Int} (h:ja w0 W g f0 f1) (m:Nat):ja w0 (W.drewN m) g f0 f1:=h
theorem ja.drew {w0 W:World} {g:Nat} {f0:List Int} {f1:Int} (h:ja w0 W g f0 f1):ja w0 W.drew g f0 f1:=h
theorem ja.at_ {w0 W:World} {g:Nat} {f0:List Int} {f1:Int} {w':World} {m:Nat} (hq:W.drewN m=w') (h:ja w0 W g f0 f1):ja w0 w' g f0 f1:=by subst hq;exact ja.drewN h m
theorem ja.apart {w0 W:World} {g:Nat} {f0:List Int} {f1:Int} {α:Type} {d:Kd α} {e:Nat} {base:Nat} {ok:Nat→Prop} {v:Value} {xs:List α} (h:ja w0 W g f0 f1) (ho:d.R e W base ok v xs) (ht:∀q,q∈e::d.E→q≠72):d.R e W base (fun k=>ok k∧k≠g) v xs:=by
 obtain⟨A0,c0,hb,hg,ak⟩:=h;exact Kd.R_types ho hb ht
theorem ja.own_ne {w0 W:World} {g:Nat} {f0:List Int} {f1:Int} {α:Type} {d:Kd α} {e:Nat} {base:Nat} {ok:Nat→Prop} {v:Value} {xs:List α} (h:ja w0 W g f0 f1) (ho:d.R e W base ok v xs) (ht:e≠72):some g≠v.ownBlock:=by
 obtain⟨A0,c0,hb,hg,ak⟩:=h;exact Kd.R_ne ho hb ht
theorem ja.qh {w0 W:World} {g:Nat} {f0:List Int} {f1:Int} {α:Type} {d:Kd α} {e:Nat} {base:Nat} {ok:Nat→Prop} {v:Value} {xs:List α} (h:ja w0 W g f0 f1) (ho:d.Q e W base ok v xs) (ht:∀q,q∈e::d.E→q≠72):d.Q e W base (fun k=>ok k∧k≠g) v xs:=by
 obtain⟨A0,c0,hb,hg,ak⟩:=h;exact Kd.Q_types ho hb ht
theorem ja.xS {w0 W:World} {g:Nat} {f0:List Int} {f1:Int} {α:Type} {d:Kd α} {e:Nat} {base:Nat} {ok:Nat→Prop} {v:Value} {xs:List α} (h:ja w0 W g f0 f1) (ho:d.Q e W base ok v xs) (ht:e≠72):some g≠v.ownBlock:=by
 obtain⟨A0,c0,hb,hg,ak⟩:=h;exact Kd.Q_ne ho hb ht
theorem ja.zp {w0 W:World} {g:Nat} {f0:List Int} {f1:Int} {α:Type} {d:Kd α} {e:Nat} {base:Nat} {ok:Nat→Prop} {v:Value} {xs:List α} (h:ja w0 W g f0 f1) (ho:d.S e W base ok v xs) (ht:∀q,q∈e::d.E→q≠72):d.S e W base (fun k=>ok k∧k≠g) v xs:=by
 obtain⟨A0,c0,hb,hg,ak⟩:=h;exact Kd.S_types ho hb ht
theorem ja.Am {w0 W:World} {g:Nat} {f0:List Int} {f1:Int} {α:Type} {d:Kd α} {e:Nat} {base:Nat} {ok:Nat→Prop} {v:Value} {xs:List α} (h:ja w0 W g f0 f1) (ho:d.S e W base ok v xs) (ht:e≠72):some g≠v.ownBlock:=by
 obtain⟨A0,c0,hb,hg,ak⟩:=h;exact Kd.S_ne ho hb ht
theorem ja.lt {w0 W:World} {g:Nat} {f0:List Int} {f1:Int} (h:ja w0 W g f0 f1):g<W.heap.size:=by
 obtain⟨A0,c0,hb,hg,ak⟩:=h;exact yJ hb
theorem ja.ge {w0 W:World} {g:Nat} {f0:List Int} {f1:Int} (h:ja w0 W g f0 f1):w0.heap.size≤g:=by
 obtain⟨A0,c0,hb,hg,ak⟩:=h;exact hg
theorem ja.uI {w0 W:World} {g:Nat} {f0:List Int} {f1:Int} {a:Nat} {cs:Array Value} {t:TypeId} {fr:Nat×Nat} (h:ja w0 W g f0 f1) (cu:W.heap[a]?=some (.cells cs t fr)) (ht:t≠72):g≠a:=by
 obtain⟨A0,c0,hb,hg,ak⟩:=h;rintro rfl;rw[hb]at cu;injection cu with cu
 injection cu with _ ht2
 exact ht ht2.symm
theorem ja.far {w0 W:World} {g:Nat} {f0:List Int} {f1:Int} {p:Addr} (h:ja w0 W g f0 f1) (cg:g≠p.block) (u:Value):ja w0 (W.setCell p u) g f0 f1:=by
 obtain⟨A0,c0,hb,hg,ak⟩:=h;exact⟨A0,c0,Ae hb cg u,hg,ak⟩
theorem sq {W:World} {g:Nat} {A0:Option Addr} {c0:Nat} {f0:List Int} {f1:Int} (h:W.heap[g]?=some (.cells #[.slice A0 f0.length c0,.int .i64 f1] 72 (0,0))):W.cell? ⟨g,0,none⟩=some (.slice A0 f0.length c0):=(nD h 0).trans rfl
theorem sr {W:World} {g:Nat} {A0:Option Addr} {c0:Nat} {f0:List Int} {f1:Int} (h:W.heap[g]?=some (.cells #[.slice A0 f0.length c0,.int .i64 f1] 72 (0,0))):W.cell? ⟨g,1,none⟩=some (.int .i64 f1):=(nD h 1).trans rfl
theorem ja.qe {w0 W:World} {g:Nat} {f0:List Int} {f1:Int} (h:ja w0 W g f0 f1) (x:Int):ja w0 (W.setCell ⟨g,1,none⟩ (.int .i64 x)) g f0 x:=by
 obtain⟨A0,c0,hb,hg,ak⟩:=h;exact⟨A0,c0,by simpa using blk_set hb 1 (.int .i64 x),hg,ak⟩
theorem ja.new (w0 W:World) (A0:Option Addr) (c0:Nat) (f0:List Int) (f1:Int) (hB:Below w0.heap.size w0 W) (ak:Kd.C (Kd.int .u8) w0 A0 f0.length f0):ja w0 (W.alloc (.cells #[.slice A0 f0.length c0,.int .i64 f1] 72)) W.heap.size f0 f1:=⟨A0,c0,by simpa using heap_alloc_new W _,hB.size,ak⟩
theorem ja.z {w0 W W':World} {g:Nat} {f0 ew:List Int} {f1 ey:Int} (h:kn (ja w0 W g f0 f1)) (s:ja w0 W g f0 f1→ja w0 W' g ew ey:=by intro h;repeat(with_reducible first|exact h|apply ja.bX|apply ja.qe|refine ja.far ?_ aX _)):ja w0 W' g ew ey:=s h.out
theorem ja.y {w0 W W':World} {g:Nat} {f0:List Int} {f1:Int} (h:kn (ja w0 W g f0 f1)) (s:ja w0 W g f0 f1→ja w0 W' g f0 f1:=by intro h;repeat(with_reducible first|exact h|apply ja.bX|refine ja.far ?_ aX _)):ja w0 W' g f0 f1:=s h.out
def pt.f (l0:List Int):Option (List Int×Int):=if(l0.length:Int)>2000 then(if 2000≤(l0.length:Int)then(some (l0.take 2000,0))else(none))else(some (l0,0))
theorem pt.calls (A0:Option Addr) (c0:Nat) (l0:List Int) (r1:List Int) (r2:Int) (w0 w:World) (hB:Below w0.heap.size w0 w) (ak:Kd.C (Kd.int .u8) w0 A0 l0.length l0) (ez:l0.length≤c0) (h:pt.f l0=some (r1,r2)):
  Calls Tryz.prog 22 #[.slice A0 l0.length c0] w fun e w'=>∃g_:Nat,e= .returned (.pointer (some ⟨g_,0,none⟩))∧ja w0 w' g_ r1 r2∧Below w0.heap.size w0 w'∧Below w.heap.size w w':=by
 have gm:=Tryz.underlying72;have eA:=bm ak;have fI:=bm ez;clear ak ez;have bc:=bm (Below.refl w.heap.size w);have cP:=bm hB.size;have HB:=bm hB;clear hB;have H:=h;clear h;unfold pt.f at H;rcases iT H with⟨c2,H⟩|⟨c2,H⟩
 ·have ch:=mV c2;have eB:decide (2000<l0.length)=true:=mV (by omega);clear c2;obtain⟨eC,gn,H⟩:=mZ H;obtain⟨rfl,rfl⟩:=s2 H;obtain⟨gA,cA,_,cB,_⟩:=info_parts info5;obtain⟨fJ,eD,eE⟩:=print_take_of (P:=Tryz.prog) (Value.int .u8) 0 22 5 .i64 Tryz.underlying22 cA cB A0 c0 l0 2000 (by omega) (nY) fI.out;have cQ:=bm (Kd.C_of_reads (h1:=fun _=>rfl) (eD _ (Kd.reads_of_C eA.out)));have fK:=bm eE;clear eD eE cA cB;go_enter Tryz.func22,Tryz.ntmps22;go_wp2_with (first|(refine pN 10 #[.slice A0 (l0.take 2000).length c0,.int .i64 0] 72 ?_;intro bz hg w5 J hb;replace HB:=bW HB hb;have cR:=bm (J);have cS:=bG bc hg;have cT:=bm ((Nat.le_trans cP.out (by rw[hg];exact(below_size (wZ bc)):w.heap.size≤bz):w0.heap.size≤bz));replace bc:=bm (zh bc.out hb);clear hb J hg));go_ret;exact⟨_,rfl,(show ja w0 _ bz (l0.take 2000) 0 from⟨_,_,kS cR,cT.out,cQ.out⟩),wZ HB,by repeat(with_reducible first|exact bc.out|apply pS|refine oG ?_ cS.out)⟩
 ·have ch:=mP c2;have eB:decide (2000<l0.length)=false:=mP (by omega);clear c2;obtain⟨rfl,rfl⟩:=s2 H;go_enter Tryz.func22,Tryz.ntmps22;go_wp2_with (first|(refine pN 10 #[.slice A0 l0.length c0,.int .i64 0] 72 ?_;intro bA hg w6 J hb;replace HB:=bW HB hb;have cU:=bm (J);have cV:=bG bc hg;have cW:=bm ((Nat.le_trans cP.out (by rw[hg];exact(below_size (wZ bc)):w.heap.size≤bA):w0.heap.size≤bA));replace bc:=bm (zh bc.out hb);clear hb J hg));go_ret;exact⟨_,rfl,(show ja w0 _ bA l0 0 from⟨_,_,kS cU,cW.out,eA.out⟩),wZ HB,by repeat(with_reducible first|exact bc.out|apply pS|refine oG ?_ cV.out)⟩
def jT.j0:Nat→Int→Bool→List Int→Int→Option (Int×Int)
 |0,_,_,_,_=>none
 |k+1,x1,x24,x1000,pG=>if x24=true then(some (0,pG))else(if(wrap64 (pG - 1))<(x1000.length:Int)then(if 0≤(wrap64 (pG - 1))then(if x1=0 then(none)else(some (Int.tmod (wrap64 (rd x1000 (wrap64 (pG - 1)))) x1,pG)))else(none))else(if(x1000.length:Int)=0 then(none)else(if 0≤(Int.tmod (wrap64 (pG - 1)) (x1000.length:Int))then(if(Int.tmod (wrap64 (pG - 1)) (x1000.length:Int))<(x1000.length:Int)then(if 0≤(Int.tmod (wrap64 ((wrap64 ((wrap64 (pG - 1))*7))+3)) (x1000.length:Int))then(if(Int.tmod (wrap64 ((wrap64 ((wrap64 (pG - 1))*7))+3)) (x1000.length:Int))<(x1000.length:Int)then(if x1=0 then(none)else(some (Int.tmod (Go.bits .xor .i64 (wrap64 ((wrap64 ((wrap64 ((wrap64 ((wrap64 (rd x1000 (Int.tmod (wrap64 (pG - 1)) (x1000.length:Int))))*131))+(wrap64 ((wrap64 (rd x1000 (Int.tmod (wrap64 ((wrap64 ((wrap64 (pG - 1))*7))+3)) (x1000.length:Int))))*1117))))+(wrap64 ((wrap64 (pG - 1))*29))))+(wrap64 ((wrap64 (Int.tdiv (wrap64 (pG - 1)) (x1000.length:Int)))*53)))) (wrap64 (Int.tdiv (wrap64 ((wrap64 ((wrap64 ((wrap64 ((wrap64 (rd x1000 (Int.tmod (wrap64 (pG - 1)) (x1000.length:Int))))*131))+(wrap64 ((wrap64 (rd x1000 (Int.tmod (wrap64 ((wrap64 ((wrap64 (pG - 1))*7))+3)) (x1000.length:Int))))*1117))))+(wrap64 ((wrap64 (pG - 1))*29))))+(wrap64 ((wrap64 (Int.tdiv (wrap64 (pG - 1)) (x1000.length:Int)))*53)))) 64))) x1,pG)))else(none))else(none))else(none))else(none))))
def jT.f (k:Nat) (af:List Int) (ar:Int) (a1:Int):Option (Int×Int):=if a1<1 then(jT.j0 k a1 true af (wrap64 (ar+1)))else(jT.j0 k a1 ((af.length:Int)==0) af (wrap64 (ar+1)))
theorem jT.kU:∀k,(∀y0 y1 y2 y3,ph (jT.j0 k y0 y1 y2 y3) (jT.j0 (k+1) y0 y1 y2 y3))
 |0=>fun _ _ _ _=> .z (by simp only[jT.j0])
 |k+1=>by
  have i0:=jT.kU k;exact fun _ _ _ _=>by unfold jT.j0;infer_instance
instance jT.mo {k a0 a1 a2}:ph (jT.f k a0 a1 a2) (jT.f (k+1) a0 a1 a2):=by have i0:=jT.kU k;unfold jT.f;infer_instance
theorem jT.calls (k:Nat) (g:Nat) (af:List Int) (ar:Int) (a1:Int) (r1:Int) (r2:Int) (w0 w:World) (hI:ja w0 w g af ar) (hB:Below w0.heap.size w0 w) (h:jT.f k af ar a1=some (r1,r2)):
  Calls Tryz.prog 24 #[.pointer (some ⟨g,0,none⟩),.int .i64 a1] w fun e w'=>e= .returned (.int .i64 r1)∧ja w0 w' g af r2∧Below w0.heap.size w0 w'∧oe w w' g none:=by
 have aO:=bm hI;have HK:=bm (oe.refl w g none);have HL:=bm hB.size;clear hI;have cP:=bm hB.size;have HB:=bm hB;clear hB;have H:=h;clear h;unfold jT.f at H;have cX:=bm H;clear H;obtain⟨e4,e5,bF,eF,e6⟩:=aO.out;have e7:=sq bF;have e8:=sr bF;have e9:=rl bF 1;clear bF eF;go_enter Tryz.func24,Tryz.ntmps24;go_upto_region 2 with(fail)
 repeat(go_quiet (fail);go_upto_region 2 with(fail))
 go_cut [24] (fun v24 wc=>∃(kq:Nat) (bd:Bool),v24= .bool bd∧kn (jT.j0 kq a1 bd af (wrap64 (ar+1))=some (r1,r2))∧kn (kq≤k)∧kn (ja w0 wc g af (wrap64 (ar+1)))∧kn (oe w wc g none)∧kn (Below w0.heap.size w0 wc))
 case first=>
  have H:=cX.out;clear cX;rcases nA H with⟨bb,H⟩|⟨bb,H⟩
  ·(first|rw[bb]|(simp only[i64_w,i32_w];rw[bb])|skip);have H':=bm H;clear H;go_wp2;repeat(go_quiet (fail);try go_wp2)
   go_meet
   case rel=>exact⟨_,(true),(by first|rfl|(simp;done)|(simp[*];done)),H',⟨by first|omega|exact Nat.le_refl _⟩,⟨ja.z aO⟩,⟨kZ HK⟩,⟨wI HB (ja.ge aO.out)⟩⟩
  ·(first|rw[bb]|(simp only[i64_w,i32_w];rw[bb])|skip);have H':=bm H;clear H;obtain⟨fa,fb,bH,eG,fc⟩:=aO.out;have fe:=sq bH;have ff:=sr bH;have fg:=rl bH 1;clear bH eG;go_wp2;repeat(go_quiet (fail);try go_wp2)
   go_meet
   case rel=>exact⟨_,(((af.length:Int)==0)),(by first|rfl|(simp;done)|(simp[*];done)),H',⟨by first|omega|exact Nat.le_refl _⟩,⟨ja.z aO⟩,⟨kZ HK⟩,⟨wI HB (ja.ge aO.out)⟩⟩
 case rest=>
  clear cX;obtain⟨kq,bd,rfl,HA,gC,aO,HK,HB⟩:=hcut;cases kq with
  |zero=>exact absurd HA.out (by simp[jT.j0])
  |succ zl=>
   have H:=HA.out;clear HA;simp only[jT.j0]at H;by_cases c7:bd=true
   ·subst c7;rw[if_pos rfl]at H;obtain⟨rfl,rfl⟩:=s2 H;go_wp2;repeat(go_quiet (fail);try go_wp2)
    go_ret;exact⟨by first|rfl|(simp[*,jY,jZ]<;>rfl),ja.z aO,wI HB (ja.ge aO.out),kZ HK⟩
   ·replace c7:=mN c7;subst c7;rw[if_neg nz]at H;rcases nA H with⟨cC,H⟩|⟨cC,H⟩
    ·obtain⟨cv,bp⟩:∃j_:Int,(wrap64 ((wrap64 (ar+1)) - 1))=j_:=⟨_,rfl⟩;first|rw[bp]at H|simp only[bp]at H
     (try rw[bp]at cC);have fL:(IntKind.i64.wrap ((wrap64 (ar+1)) - 1))=cv:=(i64_w _).trans bp;obtain⟨fM,H⟩:=mY H;rcases iT H with⟨c1,H⟩|⟨c1,H⟩
     ·exact absurd H (by simp)
     ·obtain⟨fN,fO⟩:=nK c1;obtain⟨rfl,rfl⟩:=s2 H;obtain⟨eH,eI,bf,da,cj⟩:=aO.out;have eJ:=sq bf;have eK:=sr bf;have eL:=rl bf 1;clear bf da;have ck:0≤((cv):Int):=nY;have cl:(cv)<(af.length:Int):=nY;obtain⟨fP,eM,bq⟩:=Kd.at_int cj (cv) ck cl;cases eM;replace bq:=pw_cell_below HB.out bq;replace ck:=mX ck;replace cl:=mX cl;go_wp2;repeat(go_quiet (fail);try go_wp2)
      go_ret;exact⟨by first|rfl|(simp[jY,jZ]<;>rfl)|(simp only[←bp];first|rfl|(simp[jY,jZ]<;>rfl))|(simp[*,jY,jZ]<;>rfl),ja.z aO,wI HB (ja.ge aO.out),kZ HK⟩
    ·rcases iT H with⟨cw,H⟩|⟨cw,H⟩
     ·exact absurd H (by simp)
     ·obtain⟨fQ,fR⟩:=nK cw;have fS:¬(af= []):=fun h_=>cw (by rw[h_];rfl)
      obtain⟨cm,bB⟩:∃j_:Int,(Int.tmod (wrap64 ((wrap64 (ar+1)) - 1)) (af.length:Int))=j_:=⟨_,rfl⟩;first|rw[bB]at H|simp only[bB]at H
      obtain⟨fT,H⟩:=mY H;obtain⟨fU,H⟩:=mY H;obtain⟨cn,bD⟩:∃j_:Int,(Int.tmod (wrap64 ((wrap64 ((wrap64 ((wrap64 (ar+1)) - 1))*7))+3)) (af.length:Int))=j_:=⟨_,rfl⟩;first|rw[bD]at H|simp only[bD]at H
      obtain⟨fV,H⟩:=mY H;obtain⟨fW,H⟩:=mY H;rcases iT H with⟨db,H⟩|⟨db,H⟩
      ·exact absurd H (by simp)
      ·obtain⟨fX,fY⟩:=nK db;obtain⟨rfl,rfl⟩:=s2 H;obtain⟨eR,eS,bg,dc,br⟩:=aO.out;have bk:=sq bg;have bl:=sr bg;have bn:=rl bg 1;clear bg dc;have cp:0≤((cm):Int):=nY;have cq:(cm)<(af.length:Int):=nY;obtain⟨dd,eT,bs⟩:=Kd.at_int br (cm) cp cq;cases eT;replace bs:=pw_cell_below HB.out bs;replace cp:=mX cp;replace cq:=mX cq;have cr:0≤((cn):Int):=nY;have ct:(cn)<(af.length:Int):=nY;obtain⟨de,eU,bu⟩:=Kd.at_int br (cn) cr ct;obtain rfl:dd=de:=(by injection eU);replace bu:=pw_cell_below HB.out bu;replace cr:=mX cr;replace ct:=mX ct;go_wp2;repeat(go_quiet (fail);try go_wp2)
       go_ret;exact⟨by first|rfl|(simp[jY,jZ]<;>rfl)|(simp only[←bB,←bD];first|rfl|(simp[jY,jZ]<;>rfl))|(simp[*,jY,jZ]<;>rfl),ja.z aO,wI HB (ja.ge aO.out),kZ HK⟩
def nX.l0:Nat→ByteArray→Int→Option (Bool)
 |0,_,_=>none
 |k+1,x0,x3=>if x3<(x0.size:Int)then(if 0≤x3 then(if(bt x0 x3)<32 then(some false)else(if(bt x0 x3)>126 then(some false)else(nX.l0 k x0 (wrap64 (x3+1)))))else(none))else(some (decide ((x0.size:Int)>0)))
def nX.f (k:Nat) (a0:ByteArray):Option (Bool):=nX.l0 k a0 0
theorem nX.kU:∀k,(∀y0 y1,ph (nX.l0 k y0 y1) (nX.l0 (k+1) y0 y1))
 |0=>fun _ _=> .z (by simp only[nX.l0])
 |k+1=>by
  have i0:=nX.kU k;exact fun _ _=>by unfold nX.l0;infer_instance
instance nX.mo {k a0}:ph (nX.f k a0) (nX.f (k+1) a0):=by have i0:=nX.kU k;unfold nX.f;infer_instance
theorem nX.calls (k:Nat) (a0:ByteArray) (r:Bool) (w:World) (h:nX.f k a0=some r):
  Calls Tryz.prog 80 #[.string a0] w fun e w'=>e= .returned (.bool r)∧Drawn0 w w':=by
 have H:=h;clear h;unfold nX.f at H;have H':=bm H;clear H;go_enter Tryz.func80,Tryz.ntmps80;go_wp2;go_loopg [3] k (fun kq v3 w'=>∃(ai:Int),v3= .int .i64 ai∧kn (nX.l0 kq a0 ai=some r)∧kn (kq≤k)∧Drawn0 w w')
 case atStart=>exact⟨(0),(by first|rfl|(simp;done)|(simp[*];done)),H',⟨Nat.le_refl _⟩,by repeat(first|exact Drawn0.refl _|apply Drawn0.step)⟩
 case round=>
  clear H';obtain⟨ai,rfl,HA,eV,⟨m1,rfl⟩⟩:=hrel;cases gk with
  |zero=>exact absurd HA.out (by simp[nX.l0])
  |succ k1=>
   have H:=HA.out;clear HA;simp only[nX.l0]at H;rcases nA H with⟨ch,H⟩|⟨ch,H⟩
   ·obtain⟨eC,H⟩:=mY H;rcases nA H with⟨bb,H⟩|⟨bb,H⟩
    ·obtain rfl:=oJ H;have p4:0≤(ai:Int):=nY;have q4:ai<(a0.size:Int):=nY;have eW:=bt_at a0 ai;replace p4:=mX p4;replace q4:=mX q4;go_wp2;go_ret;exact rq
    ·rcases nA H with⟨eX,H⟩|⟨eX,H⟩
     ·obtain rfl:=oJ H;have p4:0≤(ai:Int):=nY;have q4:ai<(a0.size:Int):=nY;have eW:=bt_at a0 ai;replace p4:=mX p4;replace q4:=mX q4;have p6:0≤(ai:Int):=nY;have q6:ai<(a0.size:Int):=nY;have fZ:=bt_at a0 ai;replace p6:=mX p6;replace q6:=mX q6;go_wp2;go_ret;exact rq
     ·have H':=bm H;clear H;have p4:0≤(ai:Int):=nY;have q4:ai<(a0.size:Int):=nY;have eW:=bt_at a0 ai;replace p4:=mX p4;replace q4:=mX q4;have p6:0≤(ai:Int):=nY;have q6:ai<(a0.size:Int):=nY;have fZ:=bt_at a0 ai;replace p6:=mX p6;replace q6:=mX q6;go_wp2;go_roundg k1
      case measure=>have:=eV.out;omega
      case rel=>exact⟨(wrap64 (ai+1)),(by first|rfl|(simp;done)|(simp[*];done)),H',⟨by have:=eV.out;omega⟩,by repeat(first|exact Drawn0.refl _|apply Drawn0.step)⟩
   ·obtain rfl:=oJ H;go_wp2;go_ret;exact rq
end Go.Proofs.YtigeaokfhnlkcaaGreatDoor.P
