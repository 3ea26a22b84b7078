import Derived.Test.YtigeaokfhnlkcaaGreatDoorPx0
import Derived.Test.YtigeaokfhnlkcaaGreatDoorPx13
namespace Go.Proofs.YtigeaokfhnlkcaaGreatDoor.P
open Go.RowKit YtigeaokfhnlkcaaGreatDoorW PrintWords PrintLast PrintMore
attribute [local go_sem] max2_int min2_int max_two min_two max_three min_three max_four min_four
set_option linter.unusedVariables false
set_option linter.unusedSimpArgs false
set_option maxHeartbeats 8000000
set_option maxRecDepth 100000
abbrev AV:Array Bool:= #[false,false,false,false,false,false,false,false,false]
abbrev DH:Array Bool:= #[true,true,true,true,true,false,false,false,false]
abbrev DI:Array Bool:= #[true,true,true,true,true,false,false,true,false]
abbrev DJ:Array Bool:= #[true,true,true,true,true,true,false,false,false]
abbrev DK:Array Bool:= #[true,true,true,true,true,true,true,true,false]
abbrev Ct:Array Bool:= #[true,true,true,true,true,true,true,true,true]
def jE.l0:Nat→LI→LI→LI→Int→Int→Option LI
 |0,_,_,_,_,_=>none
 |k+1,x3,x4,x15,x16,x17=>if x17<x16 then(if 0≤x17 then(if x17<(x15.length:Int)then((iY.f k x3 (rd x15 x17)).bind fun bk=>(if x4.length<17592186044416 then(jE.l0 k x3 (x4++ [bk]) x15 x16 (wrap64 (x17+1)))else(none)))else(none))else(none))else(some x4)
def jE.f (k:Nat) (l0:LI):Option LI:=(some (([]:LI):LI)).bind fun aJ=>(if aJ.length+l0.length<17592186044416 then((po.f (aJ++l0)).bind fun aK=>((mi.f aK).bind fun av=>(jE.l0 k av (([]:LI)) l0 (l0.length:Int) 0)))else(none))
theorem jE.hZ:∀k,(∀y0 y1 y2 y3 y4,lS (jE.l0 k y0 y1 y2 y3 y4) (jE.l0 (k+1) y0 y1 y2 y3 y4))
 |0=>fun _ _ _ _ _=> .z (by simp only[jE.l0])
 |k+1=>by
  have i0:=jE.hZ k;exact fun _ _ _ _ _=>by unfold jE.l0;infer_instance
instance jE.mo {k a0}:lS (jE.f k a0) (jE.f (k+1) a0):=by have i0:=jE.hZ k;unfold jE.f;infer_instance
theorem jE.calls (k:Nat) (A0:Option Addr) (c0:Nat) (l0:LI) (r:LI) (w:World) (dm:Kd.C KI w A0 l0.length l0) (cD:l0.length≤c0) (h:jE.f k l0=some r):
  Calls Tryz.prog 82 #[.slice A0 l0.length c0] w fun e w'=>∃dn:Value,e= .returned (dn)∧Kd.R KI 3 w' w.heap.size (fun _=>True) dn r∧Below w.heap.size w w':=by
 have dp:=bm dm;have e3:=bm cD;clear dm cD;have HB:=bm (Below.refl w.heap.size w);have H:=h;clear h;unfold jE.f at H;obtain⟨aJ,bO⟩:∃y_:LI,y_=(([]:LI)):=⟨_,rfl⟩;replace H:(if aJ.length+l0.length<17592186044416 then((po.f (aJ++l0)).bind fun aK=>((mi.f aK).bind fun av=>(jE.l0 k av (([]:LI)) l0 (l0.length:Int) 0)))else(none))=some r:=by first|(rw[bO];exact H)|exact H
 have cg:=bm bO;clear bO;obtain⟨c2,H⟩:=iN H;have bu:=bm c2;clear c2;obtain⟨aW,bT⟩:∃y_:LI,y_=(aJ++l0):=⟨_,rfl⟩;rw[←bT]at H
 have cR:=bm bT;clear bT;obtain⟨aK,A3,H⟩:=bE H;try dsimp only at H
 obtain⟨av,A4,H⟩:=bE H;try dsimp only at H
 obtain⟨cH,bV⟩:∃y_:LI,y_=(([]:LI)):=⟨_,rfl⟩;replace H:(jE.l0 k av cH l0 (l0.length:Int) 0)=some r:=by first|(rw[bV];exact H)|exact H
 have ch:=bm bV;clear bV;have H':=bm H;clear H;go_enter Tryz.func82,Tryz.ntmps82;go_wp2_with (first|((with_reducible refine gate_dst (N:=7) rfl ?_);refine Kd.R_lit KI _ 3 ?hg (N:=7) ?hd (xs:=([]:LI)) (inner:=[]) (ok:=fun _=>True) (okp:=fun _=>True) ?hr ?hp (fun _ hk=>hk) trivial (Below.refl _ _) (Nat.le_refl _) (by simp) ?_;(case hd=>rfl);(case hg=>rfl);(case hr=>first|(go_simp;done)|(go_simp;rfl));(case hp=>exact(Reps.none _ _));intro dq _ cj hb bo aE;clear bo aE;(first|rw[←cg.out]at cj|(simp only[Int.reduceToNat]at cj;rw[←cg.out]at cj));have ck:=rL cj HB;replace HB:=bW HB hb;clear hb cj)|((with_reducible refine gate_builtin (b:=.append) (xs:= #[.tmp 7,.tmp 8]) rfl ?_);at_builtin;refine Kd.R_append_rows KI (w0:=w) w.heap.size rfl (.tmp 7) (.tmp 8) 23 3 (.int .i64 0) 8 rfl Tryz.underlying23 info3 rfl (by decide) (by omega) dq aJ l0 _ _ _ (fun _=>True) (fun _=>False) rfl rfl ?aO ?aR (fun _ _ h=>h) (fun _ h=>h.elim) ?aF ?aB ?aS ?aL ?_;(case aR=>repeat(first|exact(Kd.C_below dp.out HB.out)|(with_reducible refine Kd.C_alloc ?_ _)|(with_reducible refine Kd.C_drewN ?_ _)|(with_reducible refine Kd.C_drew ?_)));(case aB=>exact(wZ HB));(case aF=>exact(fun _ _=>trivial));(case aO=>exact(rS ck));(case aS=>exact(below_size (wZ HB)));(case aL=>have:=bu.out;omega);intro _ _ ho hb hg aI;rw[←cR.out]at ho;replace HB:=bm (hb);have aT:=bm (ho);clear ck;clear ho hb hg aI;obtain⟨cd,cf,er⟩:=Kd.R_slice aT.out;subst er)|(refine gB (some 11) Tryz.func111 #[.slice cd aW.length cf] rfl ?_;(refine(po.calls (fun k_=>some k_=(.slice cd aW.length cf:Value).ownBlock) (.slice cd aW.length cf) aW aK w _ ?ix ?gH A3.out).mono ?_);(case ix=>repeat(with_reducible first|exact HB.out|apply qP));(case gH=>exact Kd.R_tight rfl aT.out);rintro e _ ⟨rfl,dr,hb,cS⟩;refine⟨_,rfl,?_⟩;replace aT:=bm (Kd.R_reok rfl dr (fun k_ e_=>aT.out.1 k_ e_));replace HB:=bm (hb);(try clear hb);(try clear cS);(try clear dr))|(refine gB (some 13) Tryz.func112 #[.slice cd aW.length cf] rfl ?_;(refine(mi.calls (fun k_=>some k_=(.slice cd aW.length cf:Value).ownBlock) (.slice cd aW.length cf) aK av w _ ?ix ?gH A4.out).mono ?_);(case ix=>repeat(with_reducible first|exact HB.out|apply qP));(case gH=>exact Kd.R_tight rfl aT.out);rintro e _ ⟨cI,rfl,cl,hb,cS⟩;refine⟨_,rfl,?_⟩;have bp:=bm (Kd.R_mono (ok':=fun k_=>True) cl (fun k_ du=>trivial));replace HB:=bm (hb);clear aT;(try clear hb);(try clear cS);(try clear cl))|((with_reducible refine gate_dst (N:=14) rfl ?_);refine Kd.R_lit KI _ 3 ?hg (N:=14) ?hd (xs:=([]:LI)) (inner:=[]) (ok:=fun _=>True) (okp:=fun _=>True) ?hr ?hp (fun _ hk=>hk) trivial (Below.refl _ _) (Nat.le_refl _) (by simp) ?_;(case hd=>rfl);(case hg=>rfl);(case hr=>first|(go_simp;done)|(go_simp;rfl));(case hp=>exact(Reps.none _ _));intro _ _ bl hb bo aE;clear bo aE;(first|rw[←ch.out]at bl|(simp only[Int.reduceToNat]at bl;rw[←ch.out]at bl));have cT:=bm (Kd.R_lower (Kd.R_new' bl (Kd.R_lt (rS bp))) (below_size (wZ HB)));replace bp:=bm (Kd.R_elder' (rS bp) (Kd.R_base bl) hb);replace HB:=bW HB hb;clear hb bl));go_loopg [4,17] k (fun kq v4 et w'=>∃(bw:LI) (aD:Int),et= .int .i64 aD∧hJ (jE.l0 kq av bw l0 (l0.length:Int) aD=some r)∧hJ (kq≤k)∧hJ (Kd.R KI 3 w' w.heap.size (fun k_=>some k_≠(v4:Value).ownBlock) cI av)∧hJ (Kd.R KI 3 w' w.heap.size (fun k_=>some k_≠(cI:Value).ownBlock) v4 bw)∧hJ (Below w.heap.size w w'))
 case atStart=>exact⟨(cH),(0),eA,H',⟨Nat.le_refl _⟩,⟨by(repeat apply Kd.RS);exact Kd.R_mono bp.out (fun _ hk=>hk.2)⟩,⟨by(repeat apply Kd.RS);exact Kd.R_mono cT.out (fun _ hk=>hk.2)⟩,⟨wZ HB⟩⟩
 case round=>
  clear H';obtain⟨bw,aD,rfl,HA,cm,qV,sA,HB⟩:=hrel;cases gk with
  |zero=>exact absurd HA.out (by simp[jE.l0])
  |succ k1=>
   have H:=HA.out;clear HA;simp only[jE.l0]at H;rcases pP H with⟨cU,H⟩|⟨cU,H⟩
   ·obtain⟨eu,H⟩:=pN H;obtain⟨ev,H⟩:=pN H;obtain⟨bk,ew,H⟩:=bE H;try dsimp only at H
    obtain⟨dx,H⟩:=iN H;have cV:=bm dx;clear dx;obtain⟨cJ,bZ⟩:∃y_:LI,y_=(bw++ [bk]):=⟨_,rfl⟩;rw[←bZ]at H
    have cW:=bm bZ;clear bZ;have H':=bm H;clear H;have cp:0≤(aD:Int):=ko;have cq:aD<(l0.length:Int):=ko;obtain⟨ey,dy,aZ⟩:=Kd.at_int dp.out aD cp cq;cases dy;replace aZ:=pE HB aZ;replace cp:=pM cp;replace cq:=pM cq;obtain⟨cK,cL,dz⟩:=Kd.R_slice qV.out;subst dz;go_wp2_with (first|(refine gB (some 24) Tryz.func113 #[.slice cK av.length cL,.int .i64 (rd l0 aD)] rfl ?_;(refine(iY.calls k1 _ _ av (rd l0 aD) bk _ ?_ ?_ ew.out).mono ?_);exact cZ (Kd.R_reads' qV.out).2.2;exact(Kd.R_reads' qV.out).2.1;rintro e w' ⟨rfl,⟨nd,rfl⟩⟩;refine⟨_,rfl,?_⟩)|((with_reducible refine gate_builtin (b:=.append) (xs:= #[.tmp 21,.tmp 25]) rfl ?_);at_builtin;refine Kd.R_append KI (w0:=w) w.heap.size rfl (.tmp 21) (.tmp 25) 23 3 (.int .i64 0) 8 rfl Tryz.underlying23 info3 rfl (by decide) (by omega) u4 bw bk [.int .i64 bk] (fun k_=>some k_≠(.slice cK av.length cL:Value).ownBlock) (fun _=>False) rfl rfl ?aP (fun _ hk=>hk.elim) ?aF ?aO ?aB ?aS ?aL ?_;(case aP=>exact rfl);(case aB=>exact(wZ HB));(case aF=>exact(fun k_ hk=>Kd.fresh' (Kd.R_lt (rS qV)) k_ hk));(case aO=>exact(rS sA));(case aS=>exact(below_size (wZ HB)));(case aL=>have:=cV.out;omega);intro _ _ ho hb hg aI;rw[←cW.out]at ho;replace qV:=bm (Kd.R_after (ok:=(fun _=>True)) (by(repeat apply Kd.RS);exact Kd.R_mono qV.out (fun _ hk=>⟨trivial,hk⟩)) hg aI);replace HB:=bm (hb);have cX:=bm (ho);clear sA;clear ho hb hg aI));go_roundg k1
    case measure=>have:=cm.out;omega
    case rel=>exact⟨(cJ),(wrap64 (aD+1)),eA,H',⟨by have:=cm.out;omega⟩,⟨by(repeat apply Kd.RS);exact Kd.R_mono qV.out (fun _ hk=>hk.2)⟩,⟨rS cX⟩,⟨wZ HB⟩⟩
   ·obtain rfl:=pd H;go_wp2;go_ret;exact⟨_,eF,by(repeat apply Kd.RS);exact Kd.R_mono sA.out (fun _ hk=>trivial),wZ HB⟩
def oh.f (k:Nat) (a0:Int) (l1:LI):Option (Bool):=(kG.f k a0 l1).bind fun bx=>(if bx=true then((jE.f k l1).bind fun bn=>((iG.f k bn l1).bind fun bA=>(some bA)))else(some false))
instance oh.mo {k a0 a1}:lS (oh.f k a0 a1) (oh.f (k+1) a0 a1):=by unfold oh.f;infer_instance
theorem oh.mono:∀a0 a1 k,LeO (oh.f k a0 a1) (oh.f (k+1) a0 a1):=fun _ _ _=>oh.mo.h
theorem oh.calls (k:Nat) (a0:Int) (A1:Option Addr) (c1:Nat) (l1:LI) (r:Bool) (w:World) (dA:Kd.C KI w A1 l1.length l1) (dB:l1.length≤c1) (h:oh.f k a0 l1=some r):
  Calls Tryz.prog 52 #[.int .i64 a0,.slice A1 l1.length c1] w fun e w'=>e= .returned (.bool r)∧Below w.heap.size w w':=by
 have bB:=bm dA;have cE:=bm dB;clear dA dB;have HB:=bm (Below.refl w.heap.size w);have H:=h;clear h;unfold oh.f at H;obtain⟨bx,A3,H⟩:=bE H;try dsimp only at H
 by_cases c4:bx=true
 ·subst c4;rw[if_pos rfl]at H;obtain⟨bn,A5,H⟩:=bE H;try dsimp only at H
  obtain⟨bA,A6,H⟩:=bE H;try dsimp only at H
  obtain rfl:=pd H;go_enter Tryz.func52,Tryz.ntmps52;go_wp2_with (first|(refine gB (some 7) Tryz.func81 #[.int .i64 a0,.slice A1 l1.length c1] rfl ?_;(refine(kG.calls k a0 _ _ l1 true _ ?_ ?_ A3.out).mono ?_);exact cZ bB.out;exact cE.out;rintro e _ ⟨rfl,hb⟩;refine⟨_,rfl,?_⟩;replace HB:=bW HB hb;clear hb)|(go_at_call 82;(with_reducible refine(jE.calls k _ _ l1 bn _ ?_ ?_ A5.out).mono ?_);exact cY bB HB;exact cE.out;rintro e _ ⟨_,rfl,cl,hb⟩;have b0:=rL cl HB;replace HB:=bW HB hb;clear hb;(try clear cl);obtain⟨dC,dD,cF⟩:=Kd.R_slice b0.out;subst cF)|(go_at_call 75;(with_reducible refine(iG.calls k _ _ bn _ _ l1 bA _ ?_ ?_ ?_ ?_ A6.out).mono ?_);exact cZ (Kd.R_reads' b0.out).2.2;exact(Kd.R_reads' b0.out).2.1;exact cY bB HB;exact cE.out;rintro e w' ⟨rfl,⟨nd,rfl⟩⟩));go_ret;exact⟨eF,wZ HB⟩
 ·replace c4:=pD c4;subst c4;rw[if_neg pV]at H;obtain rfl:=pd H;go_enter Tryz.func52,Tryz.ntmps52;go_wp2_with (first|(refine gB (some 7) Tryz.func81 #[.int .i64 a0,.slice A1 l1.length c1] rfl ?_;(refine(kG.calls k a0 _ _ l1 false _ ?_ ?_ A3.out).mono ?_);exact cZ bB.out;exact cE.out;rintro e _ ⟨rfl,hb⟩;refine⟨_,rfl,?_⟩;replace HB:=bW HB hb;clear hb));go_ret;exact⟨eF,wZ HB⟩
def yj (g:Nat) (lb:Array Value) (p:LI→Option Bool) (w:World):Prop:=
 ∀(W:World) (A:Option Addr) (c:Nat) (l:LI) (b:Bool),Below w.heap.size w W→Kd.C KI W A l.length l→l.length≤c→p l=some b→
  Calls Tryz.prog g (#[.slice A l.length c]++lb) W fun e w'=>e= .returned (.bool b)∧Below W.heap.size W w'
theorem DL {w:World} {A:Option Addr} {n:Nat} {xs:LL} (h:Kd.C KS w A n xs) (i:Int) (h0:0≤i) (h1:i<n):
  ∃ad A0 c0,A=some ad∧w.cell? (ad.add i.toNat)=some (.slice A0 (xs.getD i.toNat []).length c0)∧(xs.getD i.toNat []).length≤c0∧Kd.C KI w A0 (xs.getD i.toNat []).length (xs.getD i.toNat []):=by
 obtain⟨ad,c,e,_,hK,cD⟩:=Kd.C_get h ([]:LI) i h0 h1;have hc:∀j u,c[j]?=some u→w.cell? (ad.add (i.toNat*1+j))=some u:=cD;obtain⟨A0,c0,rfl,l0,g0⟩:=hK;exact⟨ad,A0,c0,e,by have hq:=hc 0 _ rfl;rwa [Nat.mul_one,Nat.add_zero]at hq,l0,g0⟩
theorem zR {p:LI→Option Bool} {l:LL} {x:Int} (h0:0≤x) (h1:x<(l.length:Int)):
  Hof.uO p (l.drop x.toNat) x=(p (l.getD x.toNat [])).bind fun b=>if b=true then some x else Hof.uO p (l.drop (x+1).toNat) (x+1):=by
 have hl:x.toNat<l.length:=by omega
 rw[List.drop_eq_getElem_cons hl,show(x+1).toNat=x.toNat+1 from by omega,List.getD_eq_getElem?_getD,List.getElem?_eq_getElem hl];rfl
theorem uo (g:Nat) (lb:Array Value) (eg:∀args w,(callFunc g args).run Tryz.prog w= .ok (.enter g args) w) (p:LI→Option Bool)
  (A:Option Addr) (c:Nat) (l:LL) (r:Int) (w:World) (hr:Kd.C KS w A l.length l) (hp:yj g lb p w) (h:Hof.uO p l 0=some r):
  Calls Tryz.prog 83 #[.slice A l.length c,.func (.func g) #[] lb] w fun e w'=>e= .returned (.int .i64 r)∧Below w.heap.size w w':=by
 have HR:=bm hr;have HP:=bm hp;have HH:hJ (Hof.uO p (l.drop (0:Int).toNat) 0=some r):=bm h;have hlen:(l.length:Int)≤9223372036854775807:=by have:=hr.2.1;omega
 clear hr hp h;go_enter Tryz.func83,Tryz.ntmps83;go_wp2;go_loopg [5,8] l.length (fun gg _ s8 wr=>∃x:Int,0≤x∧x≤(l.length:Int)∧(l.length:Int) - x≤gg∧s8= .int .i64 x∧hJ (Below w.heap.size w wr)∧hJ (Hof.uO p (l.drop x.toNat) x=some r))
 case atStart=>exact⟨0,by omega,by omega,by omega,rfl,⟨Below.refl _ _⟩,HH⟩
 case round=>
  clear HH;obtain⟨x,dE,e5,hg,rfl,HB,HA⟩:=hrel;by_cases dF:x<(l.length:Int)
  ·obtain⟨ad,A0,c0,e,hx,da,dG⟩:=DL HR.out x dE dF;cases e;replace hx:=pE HB hx;have db:=Kd.C_below dG HB.out;obtain⟨b,hb,a6⟩:=Option.bind_eq_some_iff.mp ((zR dE dF).symm.trans HA.out);clear HA;obtain⟨y,hy⟩:∃y,y=l.getD x.toNat []:=⟨_,rfl⟩;rw[←hy]at hx da db hb;have a7:=HP.out wr A0 c0 y b HB.out db da hb;have vE:=bm a6;clear a6 hb HR HP dG db da hy;cases b with
   |true=>
    go_wp2_with fail;refine a7.mono ?_;rintro e w' ⟨rfl,hb'⟩;go_wp2_with fail;obtain rfl:x=r:=by have:=vE.out;simpa using this
    go_ret;exact⟨rfl,below_then HB.out HB.out.size hb'⟩
   |false=>
    go_wp2_with fail;refine a7.mono ?_;rintro e w' ⟨rfl,hb'⟩;go_wp2_with fail;go_roundg (l.length - (x+1).toNat)
    case measure=>omega
    case rel=>exact⟨x+1,by omega,by omega,by omega,by go_num,⟨below_then HB.out HB.out.size hb'⟩,⟨by have:=vE.out;simpa using this⟩⟩
  ·have ez:x=(l.length:Int):=by omega
   have e2:(-1:Int)=r:=by
    have:=HA.out;rw[ez,show((l.length:Int)).toNat=l.length from by omega,List.drop_length]at this;simpa [Hof.uO] using this
   clear HA;subst e2;go_wp2;go_ret;exact⟨rfl,HB.out⟩
theorem tM (g:Nat) (lb:Array Value) (eg:∀args w,(callFunc g args).run Tryz.prog w= .ok (.enter g args) w) (p:LI→Option Bool)
  (A:Option Addr) (c:Nat) (l:LL) (r:Bool) (w:World) (hr:Kd.C KS w A l.length l) (hp:yj g lb p w) (h:Hof.Ap p l=some r):
  Calls Tryz.prog 53 #[.slice A l.length c,.func (.func g) #[] lb] w fun e w'=>e= .returned (.bool r)∧Below w.heap.size w w':=by
 obtain⟨i,hi,hr'⟩:=Option.bind_eq_some_iff.mp h;obtain rfl:=pd hr';clear h;have a7:=uo g lb eg p A c l i w hr hp hi;clear hi hp hr hr';have HC:=bm a7;clear a7;go_enter Tryz.func53,Tryz.ntmps53;go_wp2_with (go_at_call 83;refine HC.out.mono ?_;rintro e w' ⟨rfl,hb'⟩);go_ret;exact⟨rfl,hb'⟩
def kH.no (k:Nat) (a0:Int) (x:LI):Option Bool:=(oh.f k a0 x).bind fun b=>some (!b)
def kH.f (k:Nat) (ab:Int) (ae:LI) (aa:LL):Option Bool:=(oh.f k ab ae).bind fun t=>if t=true then(if(aa.length:Int)≤10 then(Hof.Ap (kH.no k ab) aa).bind fun b=>some (!b)else some false)else some false
theorem wJ {α:Type} {p q:α→Option Bool} (h:∀x,LeO (p x) (q x)):∀(l:List α) (i:Int),LeO (Hof.uO p l i) (Hof.uO q l i)
 | [],_=>LeO.refl _
 |x::l,i=>by
  unfold Hof.uO;refine LeO.bind (h x) (fun b=>?_);split
  ·exact LeO.refl _
  ·exact wJ h l (i+1)
theorem kH.mono:∀a0 a1 a2 k,LeO (kH.f k a0 a1 a2) (kH.f (k+1) a0 a1 a2):=by
 intro a0 a1 a2 k;unfold kH.f;refine LeO.bind (oh.mono _ _ _) (fun t=>LeO.ite (LeO.ite (LeO.bind ?_ (fun b=>LeO.refl _)) (LeO.refl _)) (LeO.refl _));unfold Hof.Ap;refine LeO.bind (wJ (fun x=>?_) _ _) (fun b=>LeO.refl _);unfold kH.no;exact LeO.bind (oh.mono _ _ _) (fun b=>LeO.refl _)
instance kH.mo {k a0 a1 a2}:lS (kH.f k a0 a1 a2) (kH.f (k+1) a0 a1 a2):=⟨kH.mono a0 a1 a2 k⟩
theorem kH.gives (k:Nat) (w:World) (B:Nat) (a0:Int) (hB:B<w.heap.size) (hc:w.cell? ⟨B,0,none⟩=some (.int .i64 a0)):yj 54 #[.pointer (some ⟨B,0,none⟩)] (kH.no k a0) w:=fun W A c l b hb hC hl hp=>by
 have hc':=(hb.cell (p:=⟨B,0,none⟩) hB).trans hc;obtain⟨t,ht,a6⟩:=Option.bind_eq_some_iff.mp hp;obtain rfl:=pd a6;have HS:=bm (oh.calls k a0 A c l t W hC hl ht);clear hc hb hp ht a6 hC hl;have hu:=Tryz.underlying26;go_enter Tryz.func54,Tryz.ntmps54;go_wp2_with fail;refine HS.out.mono ?_;rintro e w1 ⟨rfl,aQ⟩;go_wp2;go_ret;exact⟨rfl,aQ⟩
theorem kH.calls (k:Nat) (ab:Int) (az:Option Addr) (aA:Nat) (ae:LI) (aw:Option Addr) (ax:Nat) (aa:LL) (r:Bool) (w:World) (a8:Kd.C KI w az ae.length ae) (ba:ae.length≤aA) (bb:Kd.C KS w aw aa.length aa) (b1:aa.length≤ax) (h:kH.f k ab ae aa=some r):
  Calls Tryz.prog 27 #[.agg #[.int .i64 ab,.slice az ae.length aA,.slice aw aa.length ax]] w fun e w'=>e= .returned (.bool r)∧Below w.heap.size w w':=by
 have hu:=Tryz.underlying26;obtain⟨t,ht,h⟩:=Option.bind_eq_some_iff.mp h;have bB:=bm a8;have eB:=bm bb;have HB:=bm (Below.refl w.heap.size w);have HA:=bm (zK HB.out (.cells #[.int .i64 ab,.slice az ae.length aA,.slice aw aa.length ax] 26));have HT:=bm (fun W hR=>oh.calls k ab az aA ae t W hR ba ht);clear a8 bb ht ba;cases t with
 |false=>
  obtain rfl:false=r:=by simpa using h
  clear h;go_enter Tryz.func27,Tryz.ntmps27;go_wp2_with fail;refine(HT.out _ (Kd.C_below bB.out HA.out)).mono ?_;rintro e w1 ⟨rfl,aQ⟩;have b4:=bm (below_then HA.out HA.out.size aQ);clear aQ;go_wp2;go_ret;exact⟨rfl,b4.out⟩
 |true=>
  rw[if_pos rfl]at h;by_cases hl:(aa.length:Int)≤10
  ·rw[if_pos hl]at h;obtain⟨b,hb,h⟩:=Option.bind_eq_some_iff.mp h;obtain rfl:=pd h;have HC:=bm (fun W hR hp=>tM 54 #[.pointer (some ⟨w.heap.size,0,none⟩)] (Hof.enters Tryz.func54 (by kernel_rfl) rfl) (kH.no k ab) aw ax aa b W hR hp hb);clear h hb;have hl':decide ((aa.length:Int)≤10)=true:=pK hl;have eC:decide (aa.length≤10)=true:=pK (by omega);clear hl;go_enter Tryz.func27,Tryz.ntmps27;go_wp2_with fail;refine(HT.out _ (Kd.C_below bB.out HA.out)).mono ?_;rintro e w1 ⟨rfl,aQ⟩;have k0:w1.cell? ⟨w.heap.size,0,none⟩=some (.int .i64 ab):=(aQ.cell (p:=⟨w.heap.size,0,none⟩) (by simp)).trans (by simp);have k2:w1.cell? ⟨w.heap.size,2,none⟩=some (.slice aw aa.length ax):=(aQ.cell (p:=⟨w.heap.size,2,none⟩) (by simp)).trans (by simp);have hz:w.heap.size<w1.heap.size:=Nat.lt_of_lt_of_le (by simp) aQ.size;have b4:=bm (below_then HA.out HA.out.size aQ);have HG:=bm (kH.gives k w1 w.heap.size ab hz k0);clear aQ hz;go_wp2_with fail;refine(HC.out _ (Kd.C_below eB.out b4.out) HG.out).mono ?_;rintro e _ ⟨rfl,eD⟩;go_wp2;go_ret;exact⟨rfl,below_then b4.out b4.out.size eD⟩
  ·rw[if_neg hl]at h;obtain rfl:=pd h;clear h;have hl':decide ((aa.length:Int)≤10)=false:=pF hl;have eC:decide (aa.length≤10)=false:=pF (by omega);clear hl;go_enter Tryz.func27,Tryz.ntmps27;go_wp2_with fail;refine(HT.out _ (Kd.C_below bB.out HA.out)).mono ?_;rintro e w1 ⟨rfl,aQ⟩;have k2:w1.cell? ⟨w.heap.size,2,none⟩=some (.slice aw aa.length ax):=(aQ.cell (p:=⟨w.heap.size,2,none⟩) (by simp)).trans (by simp);have b4:=bm (below_then HA.out HA.out.size aQ);clear aQ;go_wp2;go_ret;exact⟨rfl,b4.out⟩
def ig.l0:Nat→LL→Int→Int→Int→LI→LL→Option (Int×LI×LL)
 |0,_,_,_,_,_,_=>none
 |k+1,x14,x15,x16,zb,zc,xc=>if x16<x15 then(if 0≤x16 then(if x16<(x14.length:Int)then((some (([]:LI):LI)).bind fun bc=>(if bc.length+(ox x14 x16).length<17592186044416 then(if xc.length<5864062014805 then(ig.l0 k x14 x15 (wrap64 (x16+1)) zb zc (xc++ [(bc++(ox x14 x16))]))else(none))else(none)))else(none))else(none))else(some (zb,zc,xc))
def ig.f (k:Nat) (ab:Int) (ae:LI) (aa:LL):Option (Int×LI×LL):=(some (([]:LI):LI)).bind fun aG=>(if aG.length+ae.length<17592186044416 then(ig.l0 k aa (aa.length:Int) 0 ab (aG++ae) ([]:LL))else(none))
theorem ig.hZ:∀k,(∀y0 y1 y2 y3 y4 y5,lS (ig.l0 k y0 y1 y2 y3 y4 y5) (ig.l0 (k+1) y0 y1 y2 y3 y4 y5))
 |0=>fun _ _ _ _ _ _=> .z (by simp only[ig.l0])
 |k+1=>by
  have i0:=ig.hZ k;exact fun _ _ _ _ _ _=>by unfold ig.l0;infer_instance
instance ig.mo {k a0 a1 a2}:lS (ig.f k a0 a1 a2) (ig.f (k+1) a0 a1 a2):=by have i0:=ig.hZ k;unfold ig.f;infer_instance
def ig.T1:Bool×List (List Nat×List Nat):=(true,[([],[]),([0],[0]),([],[]),([],[]),([3],[3]),([2,4],[2,4]),([1,5],[1,5]),([],[]),([7,6,5,0,1,2,3,4,5,6,7],[6,7])])
def ig.B1:List Nat:=[0,1,0,0,8,28,63,0,255]
theorem ig.yg:rtab .any (opsOf Tryz.f28 1)=ig.T1:=by kernel_rfl
theorem ig.vy:waitsOk ig.T1.2 ig.B1=true:=by kernel_rfl
def ig.T5:Bool×List (List Nat×List Nat):=(true,[([],[]),([0],[0]),([],[]),([],[]),([2,3],[2,3]),([4],[4]),([1,5,4],[1,5]),([0,1,2,3,4,5,6],[]),([7,6,6,0,1,2,3,4,5,6],[6,7])])
def ig.B5:List Nat:=[0,1,0,0,12,28,63,127,255]
theorem ig.xH:rtab .any (opsOf Tryz.f28 5)=ig.T5:=by kernel_rfl
theorem ig.uD:waitsOk ig.T5.2 ig.B5=true:=by kernel_rfl
theorem ig.calls (k:Nat) (ab:Int) (az:Option Addr) (aA:Nat) (ae:LI) (aw:Option Addr) (ax:Nat) (aa:LL) (r1:Int) (r2:LI) (r3:LL) (w:World) (a8:Kd.C KI w az ae.length ae) (ba:ae.length≤aA) (bb:Kd.C KS w aw aa.length aa) (b1:aa.length≤ax) (h:ig.f k ab ae aa=some (r1,r2,r3)):
  Calls Tryz.prog 28 #[.agg #[.int .i64 ab,.slice az ae.length aA,.slice aw aa.length ax]] w fun e w'=>∃dc dH:Value,e= .returned (.agg #[.int .i64 r1,dc,dH])∧Kd.R KI 3 w' w.heap.size (fun _=>True) dc r2∧Kd.S KS 23 w' w.heap.size (fun k_=>some k_≠(dc:Value).ownBlock) dH r3∧Below w.heap.size w w':=by
 have eV:=Tryz.underlying26;have b5:=bm a8;have eE:=bm ba;clear a8 ba;have dd:=bm bb;have eG:=bm b1;clear bb b1;have HB:=bm (Below.refl w.heap.size w);have H:=h;clear h;unfold ig.f at H;obtain⟨aG,b6⟩:∃y_:LI,y_=(([]:LI)):=⟨_,rfl⟩;replace H:(if aG.length+ae.length<17592186044416 then(ig.l0 k aa (aa.length:Int) 0 ab (aG++ae) ([]:LL))else(none))=some (r1,r2,r3):=by first|(rw[b6];exact H)|exact H
 have br:=bm b6;clear b6;obtain⟨c2,H⟩:=iN H;have bu:=bm c2;clear c2;obtain⟨ak,b7⟩:∃y_:LI,y_=(aG++ae):=⟨_,rfl⟩;rw[←b7]at H
 have b8:=bm b7;clear b7;have H':=bm H;clear H;go_enter Tryz.func28,Tryz.ntmps28;try go_wp2_with (first|(refine re 1 #[.int .i64 ab,.slice az ae.length aA,.slice aw aa.length ax] 26 ?_;intro aj hg _ aC hb;have o:=bm (aC);have eH:=bG HB hg;replace HB:=bW HB hb;clear hb aC hg)|(refine re 2 #[.int .i64 0,.slice none 0 0,.slice none 0 0] 26 ?_;intro aH hg w4 aC hb;have J:=bm (aC);have eI:=bG HB hg;replace HB:=bW HB hb;have de:=bL o hg;have df:=bM o hg;replace o:=bU o hb;clear hb aC hg))
 replace o:=pG o;replace J:=pG J;replace HB:=pL HB;refine start_ (n:=9) (S:=fun w'=>w'.cell? ⟨aj,0,none⟩=some (.int .i64 ab)∧w'.cell? ⟨aj,1,none⟩=some (.slice az ae.length aA)∧w'.cell? ⟨aj,2,none⟩=some (.slice aw aa.length ax)) (ds:=[]) AV (by kernel_rfl) rfl rfl ⟨bz o 0,bz o 1,bz o 2⟩ (fun hHeld=>?_);refine with_tabW ig.yg ig.vy (fun au cG=>?_);generalize w4.drew=w5 at o J HB hHeld⊢;refine pA 0 6 au ?_ ?_ ?_ ?_ (pA 3 9 au ?_ ?_ ?_ ?_ (tA 1 7 au cG hHeld ?_ ?_ ?_ ?_ (tA 4 10 au cG hHeld ?_ ?_ ?_ ?_ ?_)))
 all_goals first|(rintro w' ⟨_,_,_⟩;go_simp;with_reducible rfl)|(intro w';go_simp;with_reducible rfl)|(simp only[Act.put,qA,qB,qC,i64_w,i32_w];rfl)|skip
 refine join_ (σ:=Value×Value×Nat) 1 DK (fun s_=>[(8,s_.1),(11,s_.2.1),(3,.pointer (some ⟨s_.2.2,0,none⟩)),(12,.agg #[.int .i64 ab,s_.2.1,.slice none 0 0])]) (fun s_ w'=>(w'.cell? ⟨aj,0,none⟩=some (.int .i64 ab)∧w'.cell? ⟨aj,1,none⟩=some (.slice az ae.length aA)∧w'.cell? ⟨aj,2,none⟩=some (.slice aw aa.length ax))∧(Kd.R KI 3 w' w.heap.size (fun _=>True) s_.2.1 ak)∧(w'.heap[aj]?=some (.cells #[.int .i64 ab,.slice az ae.length aA,.slice aw aa.length ax] 26 (0,0)))∧(w'.heap[aH]?=some (.cells #[.int .i64 0,.slice none 0 0,.slice none 0 0] 26 (0,0)))∧(w'.heap[s_.2.2]?=some (.cells #[.int .i64 0,.slice none 0 0,.slice none 0 0] 26 (0,0)))∧(w.heap.size≤s_.2.2)∧(w.heap.size≤s_.2.2)∧(aj≠s_.2.2)∧(s_.2.2≠aj)∧(aH≠s_.2.2)∧(s_.2.2≠aH)∧(Below w.heap.size w w')) ?_ ?_;rotate_left
 ·intro qU;refine two_ (i:=2) (j:=7) (Ni:=some 8) (Nj:=some 3) DH #[true,true,false,true,true,false,false,true,false] rfl rfl rfl rfl (two_of au.out (by kernel_rfl)) (by decide) (by decide) (fun K hK=>?_) (fun K hK=>?_)
  ·skip;refine Kd.R_lit_step KI _ 3 ?hg (N:=8) ?hd (xs:=([]:LI)) (inner:=[]) (ok:=fun _=>True) (okp:=fun _=>True) ?hr ?hp (fun _ hk=>hk) trivial (Below.refl _ _) (Nat.le_refl _) (by simp) ?_;(case hd=>rfl);(case hg=>rfl);(case hr=>first|(go_simp;done)|(go_simp;rfl));(case hp=>exact(Reps.none _ _));intro aY _ cr hb bo aE;clear bo aE;(first|rw[←br.out]at cr|(simp only[Int.reduceToNat]at cr;rw[←br.out]at cr));have ah:=rL cr HB;replace o:=bU o hb;replace J:=bU J hb;replace HB:=bW HB hb;clear hb cr;refine hK.out _ _ ⟨bz o 0,bz o 1,bz o 2⟩ (fun hHeld=>?_);clear hK K;refine pU 8 ?_
   refine two_ (i:=5) (j:=7) (Ni:=some 11) (Nj:=some 3) DJ DI rfl rfl rfl rfl (two_of au.out (by kernel_rfl)) (by decide) (by decide) (fun K hK=>?_) (fun K hK=>?_)
   ·skip;refine Kd.R_append_rows_step KI (w0:=w) w.heap.size (by rfl) (.tmp 8) (.tmp 10) 23 3 (.int .i64 0) 8 rfl Tryz.underlying23 info3 rfl (by decide) (by omega) aY aG ae _ _ _ (fun _=>True) (fun _=>False) rfl rfl ?aO ?aR (fun _ _ h=>h) (fun _ h=>h.elim) ?aF ?aB ?aS ?aL ?_;(case aR=>repeat(first|exact(Kd.C_below b5.out HB.out)|(with_reducible refine Kd.C_alloc ?_ _)|(with_reducible refine Kd.C_drewN ?_ _)|(with_reducible refine Kd.C_drew ?_)));(case aB=>exact(wZ HB));(case aF=>exact(fun _ _=>trivial));(case aO=>exact(rS ah));(case aS=>exact(below_size (wZ HB)));(case aL=>have:=bu.out;omega);intro cc _ ho hb hg aI
    rw[←b8.out]at ho;replace o:=bN o hg (Kd.R_ne ah.out o.out (by decide));replace J:=bN J hg (Kd.R_ne ah.out J.out (by decide));replace HB:=bm (hb);have an:=bm (ho);clear ah ho hb hg aI
    obtain⟨dC,dD,cF⟩:=Kd.R_slice an.out;(first|subst cF|(injection cF with rh sE rj;have bd:=rh.symm;have bf:=rj.symm;clear rh sE rj;subst bd;subst bf));refine hK.out _ _ ⟨bz o 0,bz o 1,bz o 2⟩ (fun hHeld=>?_);clear hK K;refine pU 11 ?_
    refine pA 6 12 au ?_ ?_ ?_ ?_ ?_
    all_goals first|(intro w';go_simp;with_reducible rfl)|(simp only[Act.put,qA,qB,qC,i64_w,i32_w];rfl)|skip
    refine oA 7 (some 3) au (fun K hK=>?_);refine box_step ?hg (N:=3) ?hd (cs:= #[.int .i64 0,.slice none 0 0,.slice none 0 0]) (t:=26) ?hr ?_;(case hd=>rfl);(case hg=>rfl);(case hr=>first|(go_simp;done)|(go_simp;rfl));intro ai hg _ aC hb;replace an:=bR an hb;have I:=bm (aC);have aU:=bG HB hg;have aV:=bG HB hg;replace HB:=bW HB hb;have ag:=bL o hg;have ao:=bM o hg;replace o:=bU o hb;have aq:=bL J hg;have ar:=bM J hg;replace J:=bU J hb;clear hb aC hg;refine hK.out _ _ ⟨bz o 0,bz o 1,bz o 2⟩ (fun hHeld=>?_);clear hK K;refine pU 3 ?_
    exact norm_ (by simp only[putAll,Act.put,qA,qB,qC]) (qU (aY,.slice dC ak.length dD,ai) _ ⟨hHeld,(rS an),(kS o),(kS J),(kS I),aU.out,aV.out,ag.out,ao.out,aq.out,ar.out,(wZ HB)⟩)
   ·skip;refine box_step ?hg (N:=3) ?hd (cs:= #[.int .i64 0,.slice none 0 0,.slice none 0 0]) (t:=26) ?hr ?_;(case hd=>rfl);(case hg=>rfl);(case hr=>first|(go_simp;done)|(go_simp;rfl));intro ai hg _ aC hb;replace ah:=bR ah hb;have I:=bm (aC);have aU:=bG HB hg;have aV:=bG HB hg;replace HB:=bW HB hb;have ag:=bL o hg;have ao:=bM o hg;replace o:=bU o hb;have aq:=bL J hg;have ar:=bM J hg;replace J:=bU J hb;clear hb aC hg;refine hK.out _ _ ⟨bz o 0,bz o 1,bz o 2⟩ (fun hHeld=>?_);clear hK K;refine pU 3 ?_
    refine oA 5 (some 11) au (fun K hK=>?_);refine Kd.R_append_rows_step KI (w0:=w) w.heap.size (by rfl) (.tmp 8) (.tmp 10) 23 3 (.int .i64 0) 8 rfl Tryz.underlying23 info3 rfl (by decide) (by omega) aY aG ae _ _ _ (fun _=>True) (fun _=>False) rfl rfl ?aO ?aR (fun _ _ h=>h) (fun _ h=>h.elim) ?aF ?aB ?aS ?aL ?_;(case aR=>repeat(first|exact(Kd.C_below b5.out HB.out)|(with_reducible refine Kd.C_alloc ?_ _)|(with_reducible refine Kd.C_drewN ?_ _)|(with_reducible refine Kd.C_drew ?_)));(case aB=>exact(wZ HB));(case aF=>exact(fun _ _=>trivial));(case aO=>exact(rS ah));(case aS=>exact(below_size (wZ HB)));(case aL=>have:=bu.out;omega);intro cc _ ho hb hg aI
    rw[←b8.out]at ho;replace o:=bN o hg (Kd.R_ne ah.out o.out (by decide));replace J:=bN J hg (Kd.R_ne ah.out J.out (by decide));replace I:=bN I hg (Kd.R_ne ah.out I.out (by decide));replace HB:=bm (hb);have an:=bm (ho);clear ah ho hb hg aI
    obtain⟨ct,cu,bD⟩:=Kd.R_slice an.out;(first|subst bD|(injection bD with rh sE rj;have bd:=rh.symm;have bf:=rj.symm;clear rh sE rj;subst bd;subst bf));refine hK.out _ _ ⟨bz o 0,bz o 1,bz o 2⟩ (fun hHeld=>?_);clear hK K;refine pU 11 ?_
    refine pA 6 12 au ?_ ?_ ?_ ?_ ?_
    all_goals first|(intro w';go_simp;with_reducible rfl)|(simp only[Act.put,qA,qB,qC,i64_w,i32_w];rfl)|skip
    exact norm_ (by simp only[putAll,Act.put,qA,qB,qC]) (qU (aY,.slice ct ak.length cu,ai) _ ⟨hHeld,(rS an),(kS o),(kS J),(kS I),aU.out,aV.out,ag.out,ao.out,aq.out,ar.out,(wZ HB)⟩)
  ·skip;refine box_step ?hg (N:=3) ?hd (cs:= #[.int .i64 0,.slice none 0 0,.slice none 0 0]) (t:=26) ?hr ?_;(case hd=>rfl);(case hg=>rfl);(case hr=>first|(go_simp;done)|(go_simp;rfl));intro ai hg _ aC hb;have I:=bm (aC);have aU:=bG HB hg;have aV:=bG HB hg;replace HB:=bW HB hb;have ag:=bL o hg;have ao:=bM o hg;replace o:=bU o hb;have aq:=bL J hg;have ar:=bM J hg;replace J:=bU J hb;clear hb aC hg;refine hK.out _ _ ⟨bz o 0,bz o 1,bz o 2⟩ (fun hHeld=>?_);clear hK K;refine pU 3 ?_
   refine oA 2 (some 8) au (fun K hK=>?_);refine Kd.R_lit_step KI _ 3 ?hg (N:=8) ?hd (xs:=([]:LI)) (inner:=[]) (ok:=fun _=>True) (okp:=fun _=>True) ?hr ?hp (fun _ hk=>hk) trivial (Below.refl _ _) (Nat.le_refl _) (by simp) ?_;(case hd=>rfl);(case hg=>rfl);(case hr=>first|(go_simp;done)|(go_simp;rfl));(case hp=>exact(Reps.none _ _));intro aY _ cv hb bo aE;clear bo aE;(first|rw[←br.out]at cv|(simp only[Int.reduceToNat]at cv;rw[←br.out]at cv));have ah:=rL cv HB;replace o:=bU o hb;replace J:=bU J hb;replace I:=bU I hb;replace HB:=bW HB hb;clear hb cv;refine hK.out _ _ ⟨bz o 0,bz o 1,bz o 2⟩ (fun hHeld=>?_);clear hK K;refine pU 8 ?_
   refine oA 5 (some 11) au (fun K hK=>?_);refine Kd.R_append_rows_step KI (w0:=w) w.heap.size (by rfl) (.tmp 8) (.tmp 10) 23 3 (.int .i64 0) 8 rfl Tryz.underlying23 info3 rfl (by decide) (by omega) aY aG ae _ _ _ (fun _=>True) (fun _=>False) rfl rfl ?aO ?aR (fun _ _ h=>h) (fun _ h=>h.elim) ?aF ?aB ?aS ?aL ?_;(case aR=>repeat(first|exact(Kd.C_below b5.out HB.out)|(with_reducible refine Kd.C_alloc ?_ _)|(with_reducible refine Kd.C_drewN ?_ _)|(with_reducible refine Kd.C_drew ?_)));(case aB=>exact(wZ HB));(case aF=>exact(fun _ _=>trivial));(case aO=>exact(rS ah));(case aS=>exact(below_size (wZ HB)));(case aL=>have:=bu.out;omega);intro cc _ ho hb hg aI
   rw[←b8.out]at ho;replace o:=bN o hg (Kd.R_ne ah.out o.out (by decide));replace J:=bN J hg (Kd.R_ne ah.out J.out (by decide));replace I:=bN I hg (Kd.R_ne ah.out I.out (by decide));replace HB:=bm (hb);have an:=bm (ho);clear ah ho hb hg aI
   obtain⟨ct,cu,bD⟩:=Kd.R_slice an.out;(first|subst bD|(injection bD with rh sE rj;have bd:=rh.symm;have bf:=rj.symm;clear rh sE rj;subst bd;subst bf));refine hK.out _ _ ⟨bz o 0,bz o 1,bz o 2⟩ (fun hHeld=>?_);clear hK K;refine pU 11 ?_
   refine pA 6 12 au ?_ ?_ ?_ ?_ ?_
   all_goals first|(intro w';go_simp;with_reducible rfl)|(simp only[Act.put,qA,qB,qC,i64_w,i32_w];rfl)|skip
   exact norm_ (by simp only[putAll,Act.put,qA,qB,qC]) (qU (aY,.slice ct ak.length cu,ai) _ ⟨hHeld,(rS an),(kS o),(kS J),(kS I),aU.out,aV.out,ag.out,ao.out,aq.out,ar.out,(wZ HB)⟩)
 rintro⟨aY,cc,ai⟩ bq ⟨zN,Ax,Ay,Az,AA,AB,AD,AE,AF,AG,yW,tZ⟩;have an:hJ (Kd.R KI 3 bq w.heap.size (fun _=>True) cc ak):=⟨Ax⟩;replace o:oI bq aj #[.int .i64 ab,.slice az ae.length aA,.slice aw aa.length ax] 26:=⟨Ay⟩;replace J:oI bq aH #[.int .i64 0,.slice none 0 0,.slice none 0 0] 26:=⟨Az⟩;have I:oI bq ai #[.int .i64 0,.slice none 0 0,.slice none 0 0] 26:=⟨AA⟩;have aU:hJ (w.heap.size≤ai):=⟨AB⟩;have aV:hJ (w.heap.size≤ai):=⟨AD⟩;have ag:hJ (aj≠ai):=⟨AE⟩;have ao:hJ (ai≠aj):=⟨AF⟩;have aq:hJ (aH≠ai):=⟨AG⟩;have ar:hJ (ai≠aH):=⟨yW⟩;replace HB:hJ (Below w.heap.size w bq):=⟨tZ⟩;clear Ax Ay Az AA AB AD AE AF AG yW tZ;have hHeld:bq.cell? ⟨aj,0,none⟩=some (.int .i64 ab)∧bq.cell? ⟨aj,1,none⟩=some (.slice az ae.length aA)∧bq.cell? ⟨aj,2,none⟩=some (.slice aw aa.length ax):=zN;obtain⟨aM,aN,cM⟩:=Kd.R_slice an.out;(first|subst cM|(injection cM with rh sE rj;have bd:=rh.symm;have bf:=rj.symm;clear rh sE rj;subst bd;subst bf));refine norm_ (a':=?_) ?_ ?_;rotate_left
 ·simp only[putAll,Act.put,qA,qB,qC];rfl
 refine oA 8 (none) au (fun K hK=>?_);have eW:=bC I 0;have eJ:=qZ I.out 0;have eX:=bC I 1;have eK:=qZ I.out 1;have eY:=bC I 2;have eL:=qZ I.out 2;refine skip_ (w1:=?_) (by rfl) rfl ?_ ?_;rotate_left
 ·go_simp;rfl
 refine hK.out _ _ ⟨k3 ag hHeld.1,k3 ag hHeld.2.1,k3 ag hHeld.2.2⟩ (fun hHeld=>?_);clear hK K;refine done_ (done_of au.out (by kernel_rfl)) ?_;obtain⟨_,_,_,_,_,_⟩:=b3 o;try go_wp2
 go_loopg [16] k (fun kq eM w'=>∃(al:Int) (af:LL) (ay:Value),eM= .int .i64 al∧hJ (ig.l0 kq aa (aa.length:Int) al ab ak af=some (r1,r2,r3))∧hJ (kq≤k)∧hJ (Kd.R KI 3 w' w.heap.size (fun _=>True) (.slice aM ak.length aN) ak)∧hJ (Kd.S KS 23 w' w.heap.size (fun k_=>some k_≠((.slice aM ak.length aN):Value).ownBlock) ay af)∧hJ (w'.heap[aj]?=some (.cells #[.int .i64 ab,(.slice az ae.length aA),(.slice aw aa.length ax)] 26 (0,0)))∧hJ (w'.heap[aH]?=some (.cells #[.int .i64 0,(.slice none 0 0),(.slice none 0 0)] 26 (0,0)))∧hJ (w'.heap[ai]?=some (.cells #[.int .i64 ab,(.slice aM ak.length aN),ay] 26 (0,0)))∧hJ (Below w.heap.size w w'))
 case atStart=>exact⟨(0),(([]:LL)),(.slice none 0 0),eA,H',⟨Nat.le_refl _⟩,⟨rT an⟩,⟨by first|exact Kd.S_nil _ _ _ _ _|exact Kd.N_nil _ _ _ _ _|exact Kd.V_nil _ _ _ _ _|exact Kd.Q_nil _ _ _ _ _|exact Kd.R_nil _ _ _ _ _⟩,⟨kS o⟩,⟨kS J⟩,⟨kP I⟩,⟨wZ HB⟩⟩
 case round=>
  clear H';obtain⟨al,af,ay,rfl,HA,cm,qo,py,o,J,I,HB⟩:=hrel;cases gk with
  |zero=>exact absurd HA.out (by simp[ig.l0])
  |succ k1=>
   have H:=HA.out;clear HA;simp only[ig.l0]at H;rcases pP H with⟨dg,H⟩|⟨dg,H⟩
   ·obtain⟨eN,H⟩:=pN H;obtain⟨eO,H⟩:=pN H;obtain⟨bc,b9⟩:∃y_:LI,y_=(([]:LI)):=⟨_,rfl⟩;replace H:(if bc.length+(ox aa al).length<17592186044416 then(if af.length<5864062014805 then(ig.l0 k1 aa (aa.length:Int) (wrap64 (al+1)) ab ak (af++ [(bc++(ox aa al))]))else(none))else(none))=some (r1,r2,r3):=by first|(rw[b9];exact H)|exact H
    have cx:=bm b9;clear b9;obtain⟨dQ,H⟩:=iN H;have dh:=bm dQ;clear dQ;obtain⟨bF,ca⟩:∃y_:LI,y_=(bc++(ox aa al)):=⟨_,rfl⟩;rw[←ca]at H
    have di:=bm ca;clear ca;obtain⟨dR,H⟩:=iN H;have dj:=bm dR;clear dR;obtain⟨cy,cb⟩:∃y_:LL,y_=(af++ [bF]):=⟨_,rfl⟩;rw[←cb]at H
    have dk:=bm cb;clear cb;have H':=bm H;clear H;have cz:0≤(al:Int):=ko;have cA:al<(aa.length:Int):=ko;obtain⟨eP,eo,ep,dS,bg,bH,bJ⟩:=tY dd.out al cz cA;cases dS;replace bg:=pE HB bg;have cB:=bm bJ;have dT:=bm bH;clear bJ bH;replace cz:=pM cz;replace cA:=pM cA;try go_wp2
    replace qo:=pH qo;replace py:=pJ py;replace o:=pG o;replace J:=pG J;replace I:=pG I;replace HB:=pL HB;refine start_ (n:=9) (S:=fun w'=>w'.cell? ⟨ai,0,none⟩=some (.int .i64 ab)∧w'.cell? ⟨ai,1,none⟩=some (.slice aM ak.length aN)∧w'.cell? ⟨ai,2,none⟩=some (ay)) (ds:=[8]) AV (by kernel_rfl) rfl rfl ⟨bz I 0,bz I 1,bz I 2⟩ (fun hHeld=>?_);refine with_tabW ig.xH ig.uD (fun au cG=>?_);generalize wr.drew=e6 at qo py o J I HB hHeld⊢;refine pA 0 20 au ?_ ?_ ?_ ?_ (pA 3 23 au ?_ ?_ ?_ ?_ (tA 1 21 au cG hHeld ?_ ?_ ?_ ?_ ?_))
    all_goals first|(rintro w' ⟨_,_,_⟩;go_simp;with_reducible rfl)|(intro w';go_simp;with_reducible rfl)|(simp only[Act.put,qA,qB,qC,i64_w,i32_w];rfl)|skip
    refine oA 2 (some 22) au (fun K hK=>?_);refine Kd.R_lit_step KI _ 3 ?hg (N:=22) ?hd (xs:=([]:LI)) (inner:=[]) (ok:=fun _=>True) (okp:=fun _=>True) ?hr ?hp (fun _ hk=>hk) trivial (Below.refl _ _) (Nat.le_refl _) (by simp) ?_;(case hd=>rfl);(case hg=>rfl);(case hr=>first|(go_simp;done)|(go_simp;rfl));(case hp=>exact(Reps.none _ _));intro dU _ bh hb bo aE;clear bo aE;(first|rw[←cx.out]at bh|(simp only[Int.reduceToNat]at bh;rw[←cx.out]at bh));replace py:=bm (Kd.S_elder' (sS py) (Kd.R_base bh) hb);have bj:=bm (Kd.R_lower (Kd.R_new' bh (Kd.R_lt (rS qo))) (below_size (wZ HB)));replace qo:=bm (Kd.R_elder' (rS qo) (Kd.R_base bh) hb);replace o:=bU o hb;replace J:=bU J hb;replace I:=bU I hb;replace HB:=bW HB hb;clear hb bh;refine hK.out _ _ ⟨bz I 0,bz I 1,bz I 2⟩ (fun hHeld=>?_);clear hK K;refine pU 22 ?_
    refine oA 4 (some 24) au (fun K hK=>?_);refine Kd.R_append_rows_step KI (w0:=w) w.heap.size (by rfl) (.tmp 22) (.tmp 23) 23 3 (.int .i64 0) 8 rfl Tryz.underlying23 info3 rfl (by decide) (by omega) dU bc (ox aa al) _ _ _ (fun k_=>some k_≠(.slice aM ak.length aN:Value).ownBlock) (fun _=>False) rfl rfl ?aO ?aR (fun _ _ h=>h) (fun _ h=>h.elim) ?aF ?aB ?aS ?aL ?_;(case aR=>repeat(first|exact(Kd.C_below cB.out HB.out)|(with_reducible refine Kd.C_alloc ?_ _)|(with_reducible refine Kd.C_drewN ?_ _)|(with_reducible refine Kd.C_drew ?_)));(case aB=>exact(wZ HB));(case aF=>exact(fun k_ hk=>Kd.fresh' (Kd.R_lt (rS qo)) k_ hk));(case aO=>exact(by(repeat apply Kd.RS);exact Kd.R_mono bj.out (fun _ hk=>hk.2)));(case aS=>exact(below_size (wZ HB)));(case aL=>have:=dh.out;omega);intro _ _ ho hb hg aI
    rw[←di.out]at ho;replace qo:=bm (Kd.R_after (ok:=(fun _=>True)) (rS qo) hg aI);replace py:=bm (Kd.S_after (ok:=(fun k_=>some k_≠(.slice aM ak.length aN:Value).ownBlock)) (sS py) hg aI);replace o:=bN o hg (Kd.R_ne bj.out o.out (by decide));replace J:=bN J hg (Kd.R_ne bj.out J.out (by decide));replace I:=bN I hg (Kd.R_ne bj.out I.out (by decide));replace HB:=bm (hb);have bs:=bm (ho);clear bj ho hb hg aI
    obtain⟨cN,cO,cP⟩:=Kd.R_slice bs.out;(first|subst cP|(injection cP with rh sE rj;have bd:=rh.symm;have bf:=rj.symm;clear rh sE rj;subst bd;subst bf));refine hK.out _ _ ⟨bz I 0,bz I 1,bz I 2⟩ (fun hHeld=>?_);clear hK K;refine pU 24 ?_
    refine oA 5 (some 25) au (fun K hK=>?_);refine value_ (w1:=?_) (v:=?_) (by rfl) rfl ?_ ?_;rotate_left 2
    ·go_simp;constructor
     ·rfl
     ·rfl
    refine hK.out _ _ ⟨(yc (Ck I.out _) 0).trans rfl,(yc (Ck I.out _) 1).trans rfl,(yc (Ck I.out _) 2).trans rfl⟩ (fun hHeld=>?_);clear hK K;refine pU 25 ?_
    refine oA 6 (some 26) au (fun K hK=>?_);refine Kd.S_append_step KS (w0:=w) w.heap.size (by rfl) (.tmp 21) (.tmp 25) 24 23 (.slice none 0 0) 24 rfl Tryz.underlying24 info23 rfl (by decide) (by omega) ay af bF [.slice cN bF.length cO] (fun k_=>some k_≠(.slice aM ak.length aN:Value).ownBlock) (fun k_=>some k_=(.slice cN bF.length cO:Value).ownBlock) rfl rfl ?aP (fun k_ du=>((Kd.R_mono (ok':=fun k_=>((fun k_=>some k_≠(.slice aM ak.length aN:Value).ownBlock)) k_∧some k_≠(ay:Value).ownBlock) (Kd.R_apart' (bs.out) (Kd.S_typed py.out) (by decide)) (fun k_ hk=>⟨hk.1,hk.2⟩))).1 k_ du.symm) ?aF ?aO ?aB ?aS ?aL ?_;(case aP=>exact Kd.M_row (Kd.R_mono (Kd.R_tight rfl (Kd.R_mono (ok':=fun k_=>((fun k_=>some k_≠(.slice aM ak.length aN:Value).ownBlock)) k_∧some k_≠(ay:Value).ownBlock) (Kd.R_apart' (bs.out) (Kd.S_typed py.out) (by decide)) (fun k_ hk=>⟨hk.1,hk.2⟩))) (fun _ h_=>h_)));(case aB=>exact(wZ HB));(case aF=>exact(fun k_ hk=>Kd.fresh' (Kd.R_lt (rS qo)) k_ hk));(case aO=>exact(by(repeat apply Kd.SS);exact Kd.S_mono py.out (fun k_ hk=>⟨hk.1,fun e_=>hk.2 e_⟩)));(case aS=>exact(below_size (wZ HB)));(case aL=>have:=dj.out;omega);intro _ _ ho hb hg aI
    rw[←dk.out]at ho;replace qo:=bm (Kd.R_over' (rS qo) (Kd.S_typed (sS py)) (by decide) hg);replace o:=bN o hg (Kd.S_ne py.out o.out (by decide));replace J:=bN J hg (Kd.S_ne py.out J.out (by decide));replace I:=bN I hg (Kd.S_ne py.out I.out (by decide));replace HB:=bm (hb);have cC:=bm (ho);clear py bs ho hb hg aI
    obtain⟨dV,dW,cQ⟩:=Kd.S_slice cC.out;(first|subst cQ|(injection cQ with rh sE rj;have bd:=rh.symm;have bf:=rj.symm;clear rh sE rj;subst bd;subst bf));refine hK.out _ _ ⟨bz I 0,bz I 1,bz I 2⟩ (fun hHeld=>?_);clear hK K;refine pU 26 ?_
    refine pA 7 27 au ?_ ?_ ?_ ?_ ?_
    all_goals first|(intro w';go_simp;with_reducible rfl)|(simp only[Act.put,qA,qB,qC,i64_w,i32_w];rfl)|skip
    refine last_ (i:=8) (N:=none) Ct rfl rfl (one_of au.out (by kernel_rfl)) (by decide) (fun K hK=>?_);have e1:=bC I 2;have eQ:=qZ I.out 2;refine skip_ (w1:=?_) (by rfl) rfl ?_ ?_;rotate_left
    ·go_simp;rfl
    refine hK.out _ _ ?_;clear hK K;refine done_ (done_of au.out (by kernel_rfl)) ?_;try go_wp2
    go_roundg k1
    case measure=>have:=cm.out;omega
    case rel=>exact⟨(wrap64 (al+1)),(cy),(.slice dV cy.length dW),eA,H',⟨by have:=cm.out;omega⟩,⟨rT qo⟩,⟨sT cC⟩,⟨kS o⟩,⟨kS J⟩,⟨kP I⟩,⟨wZ HB⟩⟩
   ·obtain⟨rfl,rfl,rfl⟩:=s3 H;obtain⟨_,_,_,_,_,_⟩:=b3 I;obtain⟨_,_,_,_,_,_⟩:=b3 J;obtain⟨ek,el,en⟩:=Kd.S_slice py.out;subst en;go_wp2;refine bodyPost_ret (results_cell_row rfl _ _ aH 26 #[.int .i64 ab,.slice aM ak.length aN,.slice ek af.length el] (0,0) _ rfl (kP J) Tryz.underlying26 rfl (by kernel_rfl)) rfl ?_;exact⟨_,_,eF,rT qo,sT py,wZ HB⟩
def stringslite_IndexByte.f (s:BA) (c:Int):Option Int:=some (Lib.indexByte s.data.toList c.toNat.toUInt8)
theorem stringslite_IndexByte.calls (s:BA) (c:Int) (r:Int) (w:World) (h:stringslite_IndexByte.f s c=some r):
  Calls Tryz.prog 126 #[.string s,.int .u8 c] w fun e w'=>e= .returned (.int .i64 r)∧Drawn0 w w':=by
 obtain rfl:=pd h;clear h;go_enter Tryz.func126,Tryz.ntmps126;go_wp2;rw[run_callFunc_extern Tryz.func139 (by kernel_rfl) (by kernel_rfl) (by kernel_rfl) (e:=Extern.BytealgIndexByte.indexByte) (by kernel_rfl),Lib.run_indexByteString];simp only[Result.andThen];rw[Oper.upon_value];go_wp2;go_ret;exact⟨rfl,Drawn0.refl _⟩
end Go.Proofs.YtigeaokfhnlkcaaGreatDoor.P
