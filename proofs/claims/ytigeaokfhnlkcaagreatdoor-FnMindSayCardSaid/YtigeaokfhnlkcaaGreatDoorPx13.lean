import Derived.Test.YtigeaokfhnlkcaaGreatDoorPx0
import Derived.Test.YtigeaokfhnlkcaaGreatDoorPx2
import Derived.Test.YtigeaokfhnlkcaaGreatDoorPx10
import Derived.Test.YtigeaokfhnlkcaaGreatDoorPx12
namespace Go.Proofs.YtigeaokfhnlkcaaGreatDoor.P
open Go.RowKit YtigeaokfhnlkcaaGreatDoorW PrintWords PrintLast PrintMore
attribute [local go_sem] max2_int min2_int max_two min_two max_three min_three max_four min_four
set_option linter.unusedVariables false
set_option linter.unusedSimpArgs false
set_option maxHeartbeats 8000000
set_option maxRecDepth 100000
def jL.l0:Nat→List BA→Int→LI→Int→Int→LI→LL→Option (Int×LI×LL×List BA)
 |0,_,_,_,_,_,_,_=>none
 |k+1,x6,x7,xb,za,uW,uX,uY=>if x7>0 then((iW.f k xb za uW uX uY).bind fun b0=>(if x6.length<8796093022208 then(jL.l0 k (x6++ [b0.1]) (wrap64 (x7 - 1)) xb b0.2 uW uX uY)else(none)))else((jl.f k xb za 30).bind fun cM=>(if cM.1=true then(if 41≤17592186044416 then(some (uW,uX,uY,(List.replicate 41 (⟨#[]⟩:BA))))else(none))else(some (uW,uX,uY,x6))))
def jL.f (k:Nat) (l0:LI):Option (Int×LI×LL×List BA):=(qY.f l0).bind fun aw=>((jO.f k aw.1 aw.2 12).bind fun ax=>((gp.f k aw.1 ax.2.2.2 7).bind fun aA=>(jL.l0 k (([]:List BA)) aA.1 aw.1 aA.2 ax.1 ax.2.1 ax.2.2.1)))
theorem jL.hZ:∀k,(∀y0 y1 y2 y3 y4 y5 y6,lS (jL.l0 k y0 y1 y2 y3 y4 y5 y6) (jL.l0 (k+1) y0 y1 y2 y3 y4 y5 y6))
 |0=>fun _ _ _ _ _ _ _=> .z (by simp only[jL.l0])
 |k+1=>by
  have i0:=jL.hZ k;exact fun _ _ _ _ _ _ _=>by unfold jL.l0;infer_instance
instance jL.mo {k a0}:lS (jL.f k a0) (jL.f (k+1) a0):=by have i0:=jL.hZ k;unfold jL.f;infer_instance
theorem jL.calls (k:Nat) (A0:Option Addr) (c0:Nat) (l0:LI) (r1:Int) (r2:LI) (r3:LL) (r4:List BA) (w:World) (aK:Kd.C (Kd.int .u8) w A0 l0.length l0) (aM:l0.length≤c0) (h:jL.f k l0=some (r1,r2,r3,r4)):
  Calls Tryz.prog 5 #[.slice A0 l0.length c0] w fun e w'=>∃cN dm dn:Value,e= .returned (.tuple #[.agg #[.int .i64 r1,cN,dm],dn])∧Kd.R KI 3 w' w.heap.size (fun _=>True) cN r2∧Kd.Q KS 23 w' w.heap.size (fun k_=>some k_≠(cN:Value).ownBlock) dm r3∧Kd.R Kd.string 9 w' w.heap.size (fun _=>True) dn r4∧Below w.heap.size w w':=by
 have e7:=Tryz.underlying26;have aT:=bm aK;have b1:=bm aM;clear aK aM;have HB:=bm (Below.refl w.heap.size w);have H:=h;clear h;unfold jL.f at H;obtain⟨⟨ah,cF⟩,A2,H⟩:=bE H;try dsimp only at H
 obtain⟨⟨ao,al,an,aN⟩,A3,H⟩:=bE H;try dsimp only at H
 obtain⟨cG,bx⟩:∃y_:List BA,y_=(([]:List BA)):=⟨_,rfl⟩;replace H:((gp.f k ah aN 7).bind fun aA=>(jL.l0 k cG aA.1 ah aA.2 ao al an))=some (r1,r2,r3,r4):=by first|(rw[bx];exact H)|exact H
 have b4:=bm bx;clear bx;obtain⟨⟨cH,cI⟩,A4,H⟩:=bE H;try dsimp only at H
 have H':=bm H;clear H;go_enter Tryz.func5,Tryz.ntmps5;go_wp2_with (first|(refine re 2 #[.int .i64 0,.slice none 0 0,.slice none 0 0] 26 ?_;intro au hg _ bn hb;have ab:=bm (bn);have aU:=bG HB hg;replace HB:=bW HB hb;clear hb bn hg)|(refine gB (some 9) Tryz.func22 #[.slice A0 l0.length c0] rfl ?_;(refine(qY.calls _ _ l0 ah cF w _ ?ix ?gH ?qt A2.out).mono ?_);(case ix=>repeat(with_reducible first|exact HB.out|apply qP|refine mj ?_ aU.out));(case gH=>exact aT.out);(case qt=>exact b1.out);rintro e _ ⟨ag,rfl,hi,hb,cC⟩;refine⟨_,rfl,?_⟩;replace HB:=bm (hb);have I:=bm (hi);have J:=bm (fl.yf hi (EL (g:=au) (o:=.cells #[.int .i64 0,.slice none 0 0,.slice none 0 0] 26 (0,0)) (kS ab) cC) (by decide));have ak:=bm (Ne.symm (fl.yf hi (EL (g:=au) (o:=.cells #[.int .i64 0,.slice none 0 0,.slice none 0 0] 26 (0,0)) (kS ab) cC) (by decide)));replace ab:=bm (EL (g:=au) (o:=.cells #[.int .i64 0,.slice none 0 0,.slice none 0 0] 26 (0,0)) (kS ab) cC);clear hb cC hi)|(refine gB (some 11) Tryz.func23 #[.pointer (some ⟨ag,0,none⟩),.int .i64 12] rfl ?_;(refine(jO.calls k ag ah cF 12 ao al an aN w _ ?ix ?gH A3.out).mono ?_);(case ix=>repeat(with_reducible first|exact I.out|apply fl.bX|apply fl.qw|refine fl.far ?_ J.out _));(case gH=>repeat(with_reducible first|exact HB.out|apply qP|refine mj ?_ (fl.ge I.out)|refine mj ?_ aU.out));rintro e _ ⟨_,_,rfl,bd,dp,hi,hb,hk⟩;refine⟨_,rfl,?_⟩;replace ab:=bI ab hk ak;have aC:=bm (Kd.R_lower bd (below_size (wI HB (fl.ge I.out))));have aD:=bm (Kd.Q_lower dp (below_size (wI HB (fl.ge I.out))));replace HB:=bm (hb);replace I:=bm (hi);clear hb hk hi;clear bd dp)|(refine re 5 #[.int .i64 0,.slice none 0 0,.slice none 0 0] 26 ?_;intro aq hg w8 bn hb;replace aC:=bR aC hb;replace aD:=bQ aD hb;have af:=bm (bn);have et:=bm ((by rw[hg];exact(below_size (wI HB (fl.ge I.out))):w.heap.size≤aq));have bj:=bm ((by rw[hg];exact(below_size (wI HB (fl.ge I.out))):w.heap.size≤aq));replace HB:=td HB (fl.ge I.out) hb;have ay:=bL ab hg;have az:=bM ab hg;replace ab:=bU ab hb;have aa:=bm ((by rw[hg];exact Nat.ne_of_lt (fl.lt (show fl w _ ag ah aN from by repeat(with_reducible first|exact I.out|apply fl.bX|apply fl.qw|refine fl.far ?_ J.out _))):ag≠aq));have ai:=bm ((by rw[hg];exact Nat.ne_of_gt (fl.lt (show fl w _ ag ah aN from by repeat(with_reducible first|exact I.out|apply fl.bX|apply fl.qw|refine fl.far ?_ J.out _))):aq≠ag));replace I:=bm (fl.below (by repeat(with_reducible first|exact I.out|apply fl.bX|apply fl.qw|refine fl.far ?_ J.out _)) hb);clear hb bn hg;obtain⟨_,_,_,_⟩:=pY az ay ai aa;obtain⟨_,_,_,_,_,_⟩:=b3 af;obtain⟨aE,aG,dw⟩:=Kd.R_slice aC.out;subst dw;obtain⟨aI,aJ,dx,_⟩:=Kd.Q_slice aD.out;subst dx)|((with_reducible refine gate_dst (N:=12) rfl ?_);refine Kd.R_lit Kd.string _ 9 ?hg (N:=12) ?hd (xs:=([]:List BA)) (inner:=[]) (ok:=fun _=>True) (okp:=fun _=>True) ?hr ?hp (fun _ hk=>hk) trivial (Below.refl _ _) (Nat.le_refl _) (by simp) ?_;(case hd=>rfl);(case hg=>rfl);(case hr=>first|(go_simp;done)|(go_simp;rfl));(case hp=>exact(Reps.none _ _));intro _ _ bo hb cO bA;clear cO bA;(first|rw[←b4.out]at bo|(simp only[Int.reduceToNat]at bo;rw[←b4.out]at bo));replace aC:=bm (Kd.R_below (rT aC) hb);replace aD:=bm (Kd.Q_below (by(repeat apply Kd.QS);exact(Kd.Q_mono (Kd.Q_far (p:=⟨aq,2,none⟩) (Kd.Q_far (p:=⟨aq,1,none⟩) (Kd.Q_far (p:=⟨aq,0,none⟩) (Kd.Q_types aD.out af.out (by decide)) (fun _ hk=>hk.2) (.int .i64 ao)) (fun _ hk=>hk.2) (.slice aE al.length aG)) (fun _ hk=>hk.2) (.slice aI an.length aJ)) (fun _ h_=>h_.1))) hb);have bB:=bm (Kd.R_lower bo (below_size (wI HB (fl.ge I.out))));replace ab:=bU ab hb;replace af:=bP #[.int .i64 ao,.slice aE al.length aG,.slice aI an.length aJ] af hb;replace HB:=td HB (fl.ge I.out) hb;replace I:=bm (fl.below (show fl w (((w8.setCell ⟨aq,0,none⟩ (.int .i64 ao)).setCell ⟨aq,1,none⟩ (.slice aE al.length aG)).setCell ⟨aq,2,none⟩ (.slice aI an.length aJ)) ag ah aN from by repeat(with_reducible first|exact I.out|apply fl.bX|apply fl.qw|refine fl.far ?_ J.out _|refine fl.far ?_ aa.out _)) hb);clear hb bo)|(refine gB (some 14) Tryz.func24 #[.pointer (some ⟨ag,0,none⟩),.int .i64 7] rfl ?_;(refine(gp.calls k ag ah aN 7 cH cI w _ ?ix ?gH A4.out).mono ?_);(case ix=>repeat(with_reducible first|exact I.out|apply fl.bX|apply fl.qw|refine fl.far ?_ J.out _|refine fl.far ?_ aa.out _));(case gH=>repeat(with_reducible first|exact HB.out|apply qP|refine mj ?_ (fl.ge I.out)|refine mj ?_ aU.out|refine mj ?_ bj.out));rintro e _ ⟨rfl,hi,hb,hk⟩;refine⟨_,rfl,?_⟩;replace ab:=bI ab hk ak;replace aC:=bm (Kd.R_mono (Kd.R_keep (fl.apart (show fl w _ ag ah aN from by repeat(with_reducible first|exact I.out|apply fl.bX|apply fl.qw|refine fl.far ?_ J.out _|refine fl.far ?_ aa.out _)) (rS aC) (by decide)) hk (fun _ h=>h.2)) (fun _ h=>h.1));replace aD:=bm (Kd.Q_mono (Kd.Q_keep (fl.rf (show fl w _ ag ah aN from by repeat(with_reducible first|exact I.out|apply fl.bX|apply fl.qw|refine fl.far ?_ J.out _|refine fl.far ?_ aa.out _)) (qS aD) (by decide)) hk (fun _ h=>h.2)) (fun _ h=>h.1));replace af:=bI af hk ai;replace bB:=bm (Kd.R_mono (Kd.R_keep (fl.apart (show fl w _ ag ah aN from by repeat(with_reducible first|exact I.out|apply fl.bX|apply fl.qw|refine fl.far ?_ J.out _|refine fl.far ?_ aa.out _)) (rS bB) (by decide)) hk (fun _ h=>h.2)) (fun _ h=>h.1));replace HB:=bm (hb);replace I:=bm (hi);clear hb hk hi))
 go_loopg [6,7] k (fun kq v6 v7 w'=>∃(bp:List BA) (bq:Int) (ad:Int),v7= .int .i64 bq∧hJ (jL.l0 kq bp bq ah ad ao al an=some (r1,r2,r3,r4))∧hJ (kq≤k)∧hJ (Kd.R Kd.string 9 w' w.heap.size (fun _=>True) v6 bp)∧hJ (Kd.R KI 3 w' w.heap.size (fun _=>True) (.slice aE al.length aG) al)∧hJ (Kd.Q KS 23 w' w.heap.size (fun k_=>some k_≠((.slice aE al.length aG):Value).ownBlock) (.slice aI an.length aJ) an)∧hJ (w'.heap[au]?=some (.cells #[.int .i64 0,(.slice none 0 0),(.slice none 0 0)] 26 (0,0)))∧hJ (w'.heap[aq]?=some (.cells #[.int .i64 ao,(.slice aE al.length aG),(.slice aI an.length aJ)] 26 (0,0)))∧hJ (fl w w' ag ah ad)∧hJ (Below w.heap.size w w'))
 case atStart=>exact⟨(cG),(cH),(cI),eA,H',⟨Nat.le_refl _⟩,⟨rS bB⟩,⟨rS aC⟩,⟨qS aD⟩,⟨kS ab⟩,⟨kS af⟩,⟨by repeat(with_reducible first|exact I.out|apply fl.bX|apply fl.qw|refine fl.far ?_ J.out _|refine fl.far ?_ aa.out _)⟩,⟨wI HB (fl.ge I.out)⟩⟩
 case round=>
  clear H';obtain⟨bp,bq,ad,rfl,HA,aQ,oJ,qc,qi,ab,af,I,HB⟩:=hrel;cases gk with
  |zero=>exact absurd HA.out (by simp[jL.l0])
  |succ k1=>
   have H:=HA.out;clear HA;simp only[jL.l0]at H;rcases pP H with⟨cP,H⟩|⟨cP,H⟩
   ·obtain⟨⟨bO,b6⟩,ey,H⟩:=bE H;try dsimp only at H
    obtain⟨dy,H⟩:=iN H;have cQ:=bm dy;clear dy;obtain⟨cJ,bD⟩:∃y_:List BA,y_=(bp++ [bO]):=⟨_,rfl⟩;rw[←bD]at H
    have cR:=bm bD;clear bD;have H':=bm H;clear H;obtain⟨_,_,_,_⟩:=pY az ay ai aa;obtain⟨_,_,_,_,_,_⟩:=b3 af;go_wp2_with (first|(refine gB (some 22) Tryz.func25 #[.pointer (some ⟨ag,0,none⟩),.agg #[.int .i64 ao,.slice aE al.length aG,.slice aI an.length aJ]] rfl ?_;(refine(iW.calls k1 ag ah ad ao _ _ al _ _ an bO b6 w _ ?ix ?gH ?qt ?qD ?sF ?sG ?vz ey.out).mono ?_);(case ix=>repeat(with_reducible first|exact I.out|apply fl.bX|apply fl.qw|refine fl.far ?_ J.out _|refine fl.far ?_ aa.out _));(case gH=>repeat(with_reducible first|exact HB.out|apply qP|refine mj ?_ (fl.ge I.out)|refine mj ?_ aU.out|refine mj ?_ bj.out));(case qt=>exact cZ (Kd.R_reads' qc.out).2.2);(case qD=>exact(Kd.R_reads' qc.out).2.1);(case sF=>exact far_slice (fl.own_ne I.out qc.out (by decide)));(case sG=>exact Kd.C_foot_ownQ (fl.rf (show fl w _ ag ah ad from by repeat(with_reducible first|exact I.out|apply fl.bX|apply fl.qw|refine fl.far ?_ J.out _|refine fl.far ?_ aa.out _)) (qS qi) (by decide)) (fun _ h_=>h_.2));(case vz=>exact(Kd.Q_reads' qi.out).2.1);rintro e _ ⟨rfl,hi,hb,hk⟩;refine⟨_,rfl,?_⟩;replace oJ:=bm (Kd.R_mono (Kd.R_keep (fl.apart (show fl w _ ag ah ad from by repeat(with_reducible first|exact I.out|apply fl.bX|apply fl.qw|refine fl.far ?_ J.out _|refine fl.far ?_ aa.out _)) (rS oJ) (by decide)) hk (fun _ h=>h.2)) (fun _ h=>h.1));replace qc:=bm (Kd.R_mono (Kd.R_keep (fl.apart (show fl w _ ag ah ad from by repeat(with_reducible first|exact I.out|apply fl.bX|apply fl.qw|refine fl.far ?_ J.out _|refine fl.far ?_ aa.out _)) (rS qc) (by decide)) hk (fun _ h=>h.2)) (fun _ h=>h.1));replace qi:=bm (Kd.Q_mono (Kd.Q_keep (fl.rf (show fl w _ ag ah ad from by repeat(with_reducible first|exact I.out|apply fl.bX|apply fl.qw|refine fl.far ?_ J.out _|refine fl.far ?_ aa.out _)) (qS qi) (by decide)) hk (fun _ h=>h.2)) (fun _ h=>h.1));replace ab:=bI ab hk ak;replace af:=bI af hk ai;replace HB:=bm (hb);replace I:=bm (hi);clear hb hk hi)|((with_reducible refine gate_builtin (b:=.append) (xs:= #[.tmp 19,.tmp 23]) rfl ?_);at_builtin;refine Kd.R_append Kd.string (w0:=w) w.heap.size rfl (.tmp 19) (.tmp 23) 27 9 (.string ⟨#[]⟩) 16 rfl Tryz.underlying27 info9 rfl (by decide) (by omega) u6 bp bO [.string bO] (fun _=>True) (fun _=>False) rfl rfl ?aP (fun _ hk=>hk.elim) ?aF ?aO ?aB ?aS ?aL ?_;(case aP=>exact rfl);(case aB=>exact(wI HB (fl.ge I.out)));(case aF=>exact(fun _ _=>trivial));(case aO=>exact(rS oJ));(case aS=>exact(below_size (wI HB (fl.ge I.out))));(case aL=>have:=cQ.out;omega);intro _ _ ho hb hg b7;rw[←cR.out]at ho;replace qc:=bm (Kd.R_over' (rS qc) (Kd.R_typed (rS oJ)) (by decide) hg);replace qi:=bm (Kd.Q_over' (qS qi) (Kd.R_typed (rS oJ)) (by decide) hg);replace ab:=bN ab hg (Kd.R_ne oJ.out ab.out (by decide));replace af:=bN af hg (Kd.R_ne oJ.out af.out (by decide));replace I:=bm (fl.grown (by repeat(with_reducible first|exact I.out|apply fl.bX|apply fl.qw|refine fl.far ?_ J.out _|refine fl.far ?_ aa.out _)) hg (fl.own_ne I.out oJ.out (by decide)));replace HB:=bm (hb);have cS:=bm (ho);clear oJ;clear ho hb hg b7))
    go_roundg k1
    case measure=>have:=aQ.out;omega
    case rel=>exact⟨(cJ),(wrap64 (bq - 1)),(b6),eA,H',⟨by have:=aQ.out;omega⟩,⟨rS cS⟩,⟨rS qc⟩,⟨qS qi⟩,⟨kS ab⟩,⟨kS af⟩,⟨by repeat(with_reducible first|exact I.out|apply fl.bX|apply fl.qw|refine fl.far ?_ J.out _|refine fl.far ?_ aa.out _)⟩,⟨wI HB (fl.ge I.out)⟩⟩
   ·obtain⟨⟨dF,cK⟩,dG,H⟩:=bE H;try dsimp only at H
    by_cases cD:dF=true
    ·subst cD;rw[if_pos rfl]at H;obtain⟨eE,eG,H⟩:=pO H;obtain⟨dH,bF⟩:∃y_:List BA,y_=(List.replicate 41 (⟨#[]⟩:BA)):=⟨_,rfl⟩;rw[←bF]at H
     have b8:=bm bF;clear bF;obtain⟨rfl,rfl,rfl,rfl⟩:=s4 H;go_wp2_with (first|(refine gB (some 26) Tryz.func26 #[.pointer (some ⟨ag,0,none⟩),.int .i64 30] rfl ?_;(refine(jl.calls k1 ag ah ad 30 true cK w _ ?ix ?gH dG.out).mono ?_);(case ix=>repeat(with_reducible first|exact I.out|apply fl.bX|apply fl.qw|refine fl.far ?_ J.out _|refine fl.far ?_ aa.out _));(case gH=>repeat(with_reducible first|exact HB.out|apply qP|refine mj ?_ (fl.ge I.out)|refine mj ?_ aU.out|refine mj ?_ bj.out));rintro e _ ⟨rfl,hi,hb,hk⟩;refine⟨_,rfl,?_⟩;replace oJ:=bm (Kd.R_mono (Kd.R_keep (fl.apart (show fl w _ ag ah ad from by repeat(with_reducible first|exact I.out|apply fl.bX|apply fl.qw|refine fl.far ?_ J.out _|refine fl.far ?_ aa.out _)) (rS oJ) (by decide)) hk (fun _ h=>h.2)) (fun _ h=>h.1));replace qc:=bm (Kd.R_mono (Kd.R_keep (fl.apart (show fl w _ ag ah ad from by repeat(with_reducible first|exact I.out|apply fl.bX|apply fl.qw|refine fl.far ?_ J.out _|refine fl.far ?_ aa.out _)) (rS qc) (by decide)) hk (fun _ h=>h.2)) (fun _ h=>h.1));replace qi:=bm (Kd.Q_mono (Kd.Q_keep (fl.rf (show fl w _ ag ah ad from by repeat(with_reducible first|exact I.out|apply fl.bX|apply fl.qw|refine fl.far ?_ J.out _|refine fl.far ?_ aa.out _)) (qS qi) (by decide)) hk (fun _ h=>h.2)) (fun _ h=>h.1));replace ab:=bI ab hk ak;replace af:=bI af hk ai;replace HB:=bm (hb);replace I:=bm (hi);clear hb hk hi)|((with_reducible refine gate_dst (N:=27) rfl ?_);refine Kd.R_make Kd.string _ 9 rfl (N:=27) rfl 27 _ _ rfl 41 rfl rfl Tryz.underlying27 (.string ⟨#[]⟩) 16 info9 rfl (by decide) (by omega) (⟨#[]⟩:BA) (ok:=fun _=>True) (okp:=fun _=>True) rfl (fun _ hk=>hk) trivial (by omega) (by omega) (Below.refl _ _) (Nat.le_refl _) ?_;intro _ _ bf hb cO bA;clear cO bA;(first|rw[←b8.out]at bf|(simp only[Int.reduceToNat]at bf;rw[←b8.out]at bf));replace qc:=bR qc hb;replace qi:=bQ qi hb;have cU:=bm (Kd.R_lower (Kd.R_new' bf (Kd.R_lt (rS oJ))) (below_size (wI HB (fl.ge I.out))));replace oJ:=bm (Kd.R_elder' (rS oJ) (Kd.R_base bf) hb);replace ab:=bU ab hb;replace af:=bU af hb;replace HB:=td HB (fl.ge I.out) hb;replace I:=bm (fl.below (by repeat(with_reducible first|exact I.out|apply fl.bX|apply fl.qw|refine fl.far ?_ J.out _|refine fl.far ?_ aa.out _)) hb);clear hb bf;obtain⟨_,_,_,_⟩:=pY az ay ai aa;obtain⟨_,_,_,_,_,_⟩:=b3 af;obtain⟨_,_⟩:=pW ak J;obtain⟨_,_,_,_,_,_⟩:=b3 ab));refine rE #[.int .i64 ao,.slice aE al.length aG,.slice aI an.length aJ] (kP ab) Tryz.underlying26 ?_;exact⟨_,_,_,eF,rT qc,by(repeat apply Kd.QS);exact Kd.Q_mono (Kd.Q_far (p:=⟨au,2,none⟩) (Kd.Q_far (p:=⟨au,1,none⟩) (Kd.Q_far (p:=⟨au,0,none⟩) (Kd.Q_types qi.out ab.out (by decide)) (fun _ hk=>hk.2) (.int .i64 ao)) (fun _ hk=>hk.2) (.slice aE al.length aG)) (fun _ hk=>hk.2) (.slice aI an.length aJ)) (fun _ hk=>hk.1),rT cU,wI HB (fl.ge I.out)⟩
    ·replace cD:=pD cD;subst cD;rw[if_neg pV]at H;obtain⟨rfl,rfl,rfl,rfl⟩:=s4 H;go_wp2_with (first|(refine gB (some 26) Tryz.func26 #[.pointer (some ⟨ag,0,none⟩),.int .i64 30] rfl ?_;(refine(jl.calls k1 ag ah ad 30 false cK w _ ?ix ?gH dG.out).mono ?_);(case ix=>repeat(with_reducible first|exact I.out|apply fl.bX|apply fl.qw|refine fl.far ?_ J.out _|refine fl.far ?_ aa.out _));(case gH=>repeat(with_reducible first|exact HB.out|apply qP|refine mj ?_ (fl.ge I.out)|refine mj ?_ aU.out|refine mj ?_ bj.out));rintro e _ ⟨rfl,hi,hb,hk⟩;refine⟨_,rfl,?_⟩;replace oJ:=bm (Kd.R_mono (Kd.R_keep (fl.apart (show fl w _ ag ah ad from by repeat(with_reducible first|exact I.out|apply fl.bX|apply fl.qw|refine fl.far ?_ J.out _|refine fl.far ?_ aa.out _)) (rS oJ) (by decide)) hk (fun _ h=>h.2)) (fun _ h=>h.1));replace qc:=bm (Kd.R_mono (Kd.R_keep (fl.apart (show fl w _ ag ah ad from by repeat(with_reducible first|exact I.out|apply fl.bX|apply fl.qw|refine fl.far ?_ J.out _|refine fl.far ?_ aa.out _)) (rS qc) (by decide)) hk (fun _ h=>h.2)) (fun _ h=>h.1));replace qi:=bm (Kd.Q_mono (Kd.Q_keep (fl.rf (show fl w _ ag ah ad from by repeat(with_reducible first|exact I.out|apply fl.bX|apply fl.qw|refine fl.far ?_ J.out _|refine fl.far ?_ aa.out _)) (qS qi) (by decide)) hk (fun _ h=>h.2)) (fun _ h=>h.1));replace ab:=bI ab hk ak;replace af:=bI af hk ai;replace HB:=bm (hb);replace I:=bm (hi);clear hb hk hi;obtain⟨_,_,_,_⟩:=pY az ay ai aa;obtain⟨_,_,_,_,_,_⟩:=b3 af;obtain⟨_,_⟩:=pW ak J;obtain⟨_,_,_,_,_,_⟩:=b3 ab));refine rE #[.int .i64 ao,.slice aE al.length aG,.slice aI an.length aJ] (kP ab) Tryz.underlying26 ?_;exact⟨_,_,_,eF,rT qc,by(repeat apply Kd.QS);exact Kd.Q_mono (Kd.Q_far (p:=⟨au,2,none⟩) (Kd.Q_far (p:=⟨au,1,none⟩) (Kd.Q_far (p:=⟨au,0,none⟩) (Kd.Q_types qi.out ab.out (by decide)) (fun _ hk=>hk.2) (.int .i64 ao)) (fun _ hk=>hk.2) (.slice aE al.length aG)) (fun _ hk=>hk.2) (.slice aI an.length aJ)) (fun _ hk=>hk.1),rT oJ,wI HB (fl.ge I.out)⟩
def iG.l0:Nat→LI→LI→Int→Int→Option (Bool)
 |0,_,_,_,_=>none
 |k+1,x0,x1,x12,uE=>if uE<x12 then(if 0≤uE then(if uE<(x0.length:Int)then(if uE<(x1.length:Int)then(if(rd x0 uE)=(rd x1 uE)then(iG.l0 k x0 x1 x12 (wrap64 (uE+1)))else(some false))else(none))else(none))else(none))else(some true)
def iG.f (k:Nat) (l0:LI) (l1:LI):Option (Bool):=if(l0.length:Int)=(l1.length:Int)then(iG.l0 k l0 l1 (l0.length:Int) 0)else(some false)
theorem iG.hZ:∀k,(∀y0 y1 y2 y3,lS (iG.l0 k y0 y1 y2 y3) (iG.l0 (k+1) y0 y1 y2 y3))
 |0=>fun _ _ _ _=> .z (by simp only[iG.l0])
 |k+1=>by
  have i0:=iG.hZ k;exact fun _ _ _ _=>by unfold iG.l0;infer_instance
instance iG.mo {k a0 a1}:lS (iG.f k a0 a1) (iG.f (k+1) a0 a1):=by have i0:=iG.hZ k;unfold iG.f;infer_instance
theorem iG.calls (k:Nat) (A0:Option Addr) (c0:Nat) (l0:LI) (A1:Option Addr) (c1:Nat) (l1:LI) (r:Bool) (w:World) (aK:Kd.C KI w A0 l0.length l0) (aM:l0.length≤c0) (b9:Kd.C KI w A1 l1.length l1) (ca:l1.length≤c1) (h:iG.f k l0 l1=some r):
  Calls Tryz.prog 75 #[.slice A0 l0.length c0,.slice A1 l1.length c1] w fun e w'=>e= .returned (.bool r)∧Drawn0 w w':=by
 have aT:=bm aK;have b1:=bm aM;clear aK aM;have bV:=bm b9;have cE:=bm ca;clear b9 ca;have H:=h;clear h;unfold iG.f at H;rcases iT H with⟨c3,H⟩|⟨c3,H⟩
 ·obtain⟨br,cb⟩:=pf c3;have eg:(l0.length==l1.length)=true:=by first|simpa using c3|(simp at c3⊢;omega)
  clear c3;have H':=bm H;clear H;go_enter Tryz.func75,Tryz.ntmps75;go_wp2;repeat(go_quiet (fail);try go_wp2)
  go_loopg [13] k (fun kq eT w'=>∃(ae:Int),eT= .int .i64 ae∧hJ (iG.l0 kq l0 l1 (l0.length:Int) ae=some r)∧hJ (kq≤k)∧Drawn0 w w')
  case atStart=>exact⟨(0),eA,H',⟨Nat.le_refl _⟩,by repeat(first|exact Drawn0.refl _|apply Drawn0.step)⟩
  case round=>
   clear H';obtain⟨ae,rfl,HA,aQ,⟨m1,rfl⟩⟩:=hrel;cases gk with
   |zero=>exact absurd HA.out (by simp[iG.l0])
   |succ k1=>
    have H:=HA.out;clear HA;simp only[iG.l0]at H;rcases pP H with⟨bg,H⟩|⟨bg,H⟩
    ·obtain⟨cc,H⟩:=pN H;obtain⟨cd,H⟩:=pN H;obtain⟨fg,H⟩:=pN H;rcases iT H with⟨c8,H⟩|⟨c8,H⟩
     ·obtain⟨eh,ei⟩:=pf c8;clear c8;have H':=bm H;clear H;have aW:0≤(ae:Int):=ko;have aY:ae<(l0.length:Int):=ko;obtain⟨cV,cf,cg⟩:=Kd.at_int aT.out ae aW aY;cases cf;replace aW:=pM aW;replace aY:=pM aY;have aZ:0≤(ae:Int):=ko;have a6:ae<(l1.length:Int):=ko;obtain⟨cW,ch,cj⟩:=Kd.at_int bV.out ae aZ a6;cases ch;replace aZ:=pM aZ;replace a6:=pM a6;go_wp2;repeat(go_quiet (fail);try go_wp2)
      go_roundg k1
      case measure=>have:=aQ.out;omega
      case rel=>exact⟨(wrap64 (ae+1)),eA,H',⟨by have:=aQ.out;omega⟩,by repeat(first|exact Drawn0.refl _|apply Drawn0.step)⟩
     ·obtain⟨eh,ei⟩:=pe c8;obtain rfl:=pd H;have aW:0≤(ae:Int):=ko;have aY:ae<(l0.length:Int):=ko;obtain⟨cV,cf,cg⟩:=Kd.at_int aT.out ae aW aY;cases cf;replace aW:=pM aW;replace aY:=pM aY;have aZ:0≤(ae:Int):=ko;have a6:ae<(l1.length:Int):=ko;obtain⟨cW,ch,cj⟩:=Kd.at_int bV.out ae aZ a6;cases ch;replace aZ:=pM aZ;replace a6:=pM a6;go_wp2;repeat(go_quiet (fail);try go_wp2)
      go_ret;exact rq
    ·obtain rfl:=pd H;go_wp2;repeat(go_quiet (fail);try go_wp2)
     go_ret;exact rq
 ·obtain⟨br,cb⟩:=pe c3;have eg:(l0.length==l1.length)=false:=by first|simpa using c3|(simp at c3⊢;omega)
  obtain rfl:=pd H;go_enter Tryz.func75,Tryz.ntmps75;go_wp2;repeat(go_quiet (fail);try go_wp2)
  go_ret;exact rq
def jD.f (a0:Int):Option (Bool):=if a0≥1 then(some (decide (a0≤3)))else(some false)
theorem jD.calls (a0:Int) (r:Bool) (w:World) (h:jD.f a0=some r):
  Calls Tryz.prog 70 #[.int .i64 a0] w fun e w'=>e= .returned (.bool r)∧Drawn0 w w':=by
 have H:=h;clear h;unfold jD.f at H;rcases pP H with⟨ck,H⟩|⟨ck,H⟩
 ·obtain rfl:=pd H;go_enter Tryz.func70,Tryz.ntmps70;go_wp2;go_ret;exact rq
 ·obtain rfl:=pd H;go_enter Tryz.func70,Tryz.ntmps70;go_wp2;go_ret;exact rq
def jh.l0:Nat→LI→Int→Int→Option (Int)
 |0,_,_,_=>none
 |k+1,x0,x3,x4=>if x4<(x0.length:Int)then(if 0≤x4 then(jh.l0 k x0 (mn x3 (rd x0 x4)) (wrap64 (x4+1)))else(none))else(some x3)
def jh.f (k:Nat) (l0:LI):Option (Int):=if(l0.length:Int)<1 then(none)else(if 0<(l0.length:Int)then(jh.l0 k l0 (rd l0 0) 1)else(none))
theorem jh.hZ:∀k,(∀y0 y1 y2,lS (jh.l0 k y0 y1 y2) (jh.l0 (k+1) y0 y1 y2))
 |0=>fun _ _ _=> .z (by simp only[jh.l0])
 |k+1=>by
  have i0:=jh.hZ k;exact fun _ _ _=>by unfold jh.l0;infer_instance
instance jh.mo {k a0}:lS (jh.f k a0) (jh.f (k+1) a0):=by have i0:=jh.hZ k;unfold jh.f;infer_instance
theorem jh.calls (k:Nat) (A0:Option Addr) (c0:Nat) (l0:LI) (r:Int) (w:World) (aK:Kd.C KI w A0 l0.length l0) (aM:l0.length≤c0) (h:jh.f k l0=some r):
  Calls Tryz.prog 109 #[.slice A0 l0.length c0] w fun e w'=>e= .returned (.int .i64 r)∧Below w.heap.size w w':=by
 have aT:=bm aK;have b1:=bm aM;clear aK aM;have HB:=bm (Below.refl w.heap.size w);have H:=h;clear h;unfold jh.f at H;rcases iT H with⟨c2,H⟩|⟨c2,H⟩
 ·exact absurd H (by simp)
 ·have ck:=pF c2;have ej:decide (l0.length<1)=false:=pF (by omega);clear c2;obtain⟨c3,H⟩:=iN H;have br:=pK c3;have cb:decide (0<l0.length)=true:=pK (by omega);clear c3;have H':=bm H;clear H;have cl:0≤(0:Int):=(by omega);have cm:0<(l0.length:Int):=ko;obtain⟨cX,ek,bs⟩:=Kd.at_int aT.out 0 cl cm;cases ek;have eU:(0<l0.length)=True:=pM (by omega);(try rw[show((0:Int)).toNat=0 from rfl]at bs);(try rw[Addr.add_zero']at bs);replace cl:=pM cl;replace cm:=pM cm;go_enter Tryz.func109,Tryz.ntmps109;go_wp2;go_loopg [3,4] k (fun kq v3 v4 w'=>∃(av:Int) (aj:Int),v3= .int .i64 av∧v4= .int .i64 aj∧hJ (jh.l0 kq l0 av aj=some r)∧hJ (kq≤k)∧hJ (Below w.heap.size w w'))
  case atStart=>exact⟨(rd l0 0),(1),eA,eA,H',⟨Nat.le_refl _⟩,⟨wZ HB⟩⟩
  case round=>
   clear H';obtain⟨av,aj,rfl,rfl,HA,aQ,HB⟩:=hrel;cases gk with
   |zero=>exact absurd HA.out (by simp[jh.l0])
   |succ k1=>
    have H:=HA.out;clear HA;simp only[jh.l0]at H;rcases pP H with⟨bg,H⟩|⟨bg,H⟩
    ·obtain⟨cc,H⟩:=pN H;obtain⟨cn,aR⟩:∃j_:Int,(mn av (rd l0 aj))=j_:=⟨_,rfl⟩;first|rw[aR]at H|simp only[aR]at H
     have da:(if(rd l0 aj)<av then(rd l0 aj)else av)=cn:=aR;have H':=bm H;clear H;have cp:0≤(aj:Int):=ko;have cq:aj<(l0.length:Int):=ko;obtain⟨db,el,a7⟩:=Kd.at_int aT.out aj cp cq;obtain rfl:cX=db:=(by injection el);replace a7:=pE HB a7;replace cp:=pM cp;replace cq:=pM cq;go_wp2;go_roundg k1
     case measure=>have:=aQ.out;omega
     case rel=>exact⟨(cn),(wrap64 (aj+1)),(by first|rfl|(simp;done)|(simp only[←aR]<;>(first|rfl|simp))|(simp[*];done)),eA,H',⟨by have:=aQ.out;omega⟩,⟨wZ HB⟩⟩
    ·obtain rfl:=pd H;go_wp2;go_ret;exact⟨eF,wZ HB⟩
def jy.l0:Nat→LI→Int→Int→Option (Int)
 |0,_,_,_=>none
 |k+1,x0,x3,x4=>if x4<(x0.length:Int)then(if 0≤x4 then(jy.l0 k x0 (mx x3 (rd x0 x4)) (wrap64 (x4+1)))else(none))else(some x3)
def jy.f (k:Nat) (l0:LI):Option (Int):=if(l0.length:Int)<1 then(none)else(if 0<(l0.length:Int)then(jy.l0 k l0 (rd l0 0) 1)else(none))
theorem jy.hZ:∀k,(∀y0 y1 y2,lS (jy.l0 k y0 y1 y2) (jy.l0 (k+1) y0 y1 y2))
 |0=>fun _ _ _=> .z (by simp only[jy.l0])
 |k+1=>by
  have i0:=jy.hZ k;exact fun _ _ _=>by unfold jy.l0;infer_instance
instance jy.mo {k a0}:lS (jy.f k a0) (jy.f (k+1) a0):=by have i0:=jy.hZ k;unfold jy.f;infer_instance
theorem jy.calls (k:Nat) (A0:Option Addr) (c0:Nat) (l0:LI) (r:Int) (w:World) (aK:Kd.C KI w A0 l0.length l0) (aM:l0.length≤c0) (h:jy.f k l0=some r):
  Calls Tryz.prog 110 #[.slice A0 l0.length c0] w fun e w'=>e= .returned (.int .i64 r)∧Below w.heap.size w w':=by
 have aT:=bm aK;have b1:=bm aM;clear aK aM;have HB:=bm (Below.refl w.heap.size w);have H:=h;clear h;unfold jy.f at H;rcases iT H with⟨c2,H⟩|⟨c2,H⟩
 ·exact absurd H (by simp)
 ·have ck:=pF c2;have ej:decide (l0.length<1)=false:=pF (by omega);clear c2;obtain⟨c3,H⟩:=iN H;have br:=pK c3;have cb:decide (0<l0.length)=true:=pK (by omega);clear c3;have H':=bm H;clear H;have cr:0≤(0:Int):=(by omega);have ct:0<(l0.length:Int):=ko;obtain⟨dc,en,bu⟩:=Kd.at_int aT.out 0 cr ct;cases en;have eV:(0<l0.length)=True:=pM (by omega);(try rw[show((0:Int)).toNat=0 from rfl]at bu);(try rw[Addr.add_zero']at bu);replace cr:=pM cr;replace ct:=pM ct;go_enter Tryz.func110,Tryz.ntmps110;go_wp2;go_loopg [3,4] k (fun kq v3 v4 w'=>∃(av:Int) (aj:Int),v3= .int .i64 av∧v4= .int .i64 aj∧hJ (jy.l0 kq l0 av aj=some r)∧hJ (kq≤k)∧hJ (Below w.heap.size w w'))
  case atStart=>exact⟨(rd l0 0),(1),eA,eA,H',⟨Nat.le_refl _⟩,⟨wZ HB⟩⟩
  case round=>
   clear H';obtain⟨av,aj,rfl,rfl,HA,aQ,HB⟩:=hrel;cases gk with
   |zero=>exact absurd HA.out (by simp[jy.l0])
   |succ k1=>
    have H:=HA.out;clear HA;simp only[jy.l0]at H;rcases pP H with⟨bg,H⟩|⟨bg,H⟩
    ·obtain⟨cc,H⟩:=pN H;obtain⟨cn,aR⟩:∃j_:Int,(mx av (rd l0 aj))=j_:=⟨_,rfl⟩;first|rw[aR]at H|simp only[aR]at H
     have da:(if av<(rd l0 aj)then(rd l0 aj)else av)=cn:=aR;have H':=bm H;clear H;have cu:0≤(aj:Int):=ko;have cv:aj<(l0.length:Int):=ko;obtain⟨dd,eo,a8⟩:=Kd.at_int aT.out aj cu cv;obtain rfl:dc=dd:=(by injection eo);replace a8:=pE HB a8;replace cu:=pM cu;replace cv:=pM cv;go_wp2;go_roundg k1
     case measure=>have:=aQ.out;omega
     case rel=>exact⟨(cn),(wrap64 (aj+1)),(by first|rfl|(simp;done)|(simp only[←aR]<;>(first|rfl|simp))|(simp[*];done)),eA,H',⟨by have:=aQ.out;omega⟩,⟨wZ HB⟩⟩
    ·obtain rfl:=pd H;go_wp2;go_ret;exact⟨eF,wZ HB⟩
def kG.j0:Nat→LI→Bool→Option (Bool)
 |0,_,_=>none
 |k+1,x1,x14=>if x14=true then(some false)else((jh.f k x1).bind fun aV=>(if aV=0 then((jy.f k x1).bind fun cw=>(some (decide (cw≤9))))else(some false)))
def kG.f (k:Nat) (a0:Int) (l1:LI):Option (Bool):=(jD.f a0).bind fun bw=>(if bw=true then(if 0≤a0 then(kG.j0 k l1 ((l1.length:Int) !=(shl .i64 1 a0)))else(none))else(kG.j0 k l1 true))
theorem kG.hZ:∀k,(∀y0 y1,lS (kG.j0 k y0 y1) (kG.j0 (k+1) y0 y1))
 |0=>fun _ _=> .z (by simp only[kG.j0])
 |k+1=>by
  have i0:=kG.hZ k;exact fun _ _=>by unfold kG.j0;infer_instance
instance kG.mo {k a0 a1}:lS (kG.f k a0 a1) (kG.f (k+1) a0 a1):=by have i0:=kG.hZ k;unfold kG.f;infer_instance
theorem kG.calls (k:Nat) (a0:Int) (A1:Option Addr) (c1:Nat) (l1:LI) (r:Bool) (w:World) (b9:Kd.C KI w A1 l1.length l1) (ca:l1.length≤c1) (h:kG.f k a0 l1=some r):
  Calls Tryz.prog 81 #[.int .i64 a0,.slice A1 l1.length c1] w fun e w'=>e= .returned (.bool r)∧Below w.heap.size w w':=by
 have bV:=bm b9;have cE:=bm ca;clear b9 ca;have HB:=bm (Below.refl w.heap.size w);have H:=h;clear h;unfold kG.f at H;have de:=bm H;clear H;go_enter Tryz.func81,Tryz.ntmps81;go_upto_region 1 with(fail)
 go_cut [14] (fun eW wc=>∃(kq:Nat) (bk:Bool),eW= .bool bk∧hJ (kG.j0 kq l1 bk=some r)∧hJ (kq≤k)∧hJ (Below w.heap.size w wc))
 case first=>
  have H:=de.out;clear de;obtain⟨bw,A4,H⟩:=bE H;try dsimp only at H
  by_cases c5:bw=true
  ·subst c5;rw[if_pos rfl]at H;obtain⟨cd,cL,H⟩:=pO H;obtain⟨bH,bh⟩:∃j_:Int,(shl .i64 1 a0)=j_:=⟨_,rfl⟩;first|rw[bh]at H|simp only[bh]at H
   (try rw[bh]at A4);have cx:(IntKind.i64.wrap (1*2^min a0.toNat 64))=bH:=bh;have cy:a0≤64→(IntKind.i64.wrap (1*2^a0.toNat))=bH:=shl_small bh;have eX:(IntKind.i64.wrap (2^min a0.toNat 64))=bH:=by have h_:=cx;rw[Int.one_mul]at h_;exact h_
   have eY:a0≤64→(IntKind.i64.wrap (2^a0.toNat))=bH:=fun ep=>by have h_:=cy ep;rw[Int.one_mul]at h_;exact h_
   have eZ:(wrap64 (1*2^min a0.toNat 64))=bH:=(i64_w _).symm.trans cx;have e0:a0≤64→(wrap64 (1*2^a0.toNat))=bH:=fun h_=>(i64_w _).symm.trans (cy h_)
   have H':=bm H;clear H;go_wp2_with (first|(refine gB (some 6) Tryz.func70 #[.int .i64 a0] rfl ?_;(refine(jD.calls a0 true _ A4.out).mono ?_);rintro e w' ⟨rfl,⟨nd,rfl⟩⟩;refine⟨_,rfl,?_⟩));go_meet
   case rel=>exact⟨_,(((l1.length:Int) !=(bH))),(by first|rfl|(simp;done)|(simp only[←bh]<;>(first|rfl|simp))|(simp[*];done)),H',⟨by first|omega|exact Nat.le_refl _⟩,⟨wZ HB⟩⟩
  ·replace c5:=pD c5;subst c5;rw[if_neg pV]at H;have H':=bm H;clear H;go_wp2_with (first|(refine gB (some 6) Tryz.func70 #[.int .i64 a0] rfl ?_;(refine(jD.calls a0 false _ A4.out).mono ?_);rintro e w' ⟨rfl,⟨nd,rfl⟩⟩;refine⟨_,rfl,?_⟩));go_meet
   case rel=>exact⟨_,(true),eA,H',⟨by first|omega|exact Nat.le_refl _⟩,⟨wZ HB⟩⟩
 case rest=>
  clear de;obtain⟨kq,bk,rfl,HA,fo,HB⟩:=hcut;cases kq with
  |zero=>exact absurd HA.out (by simp[kG.j0])
  |succ wU=>
   have H:=HA.out;clear HA;simp only[kG.j0]at H;by_cases c8:bk=true
   ·subst c8;rw[if_pos rfl]at H;obtain rfl:=pd H;go_wp2;go_ret;exact⟨eF,wZ HB⟩
   ·replace c8:=pD c8;subst c8;rw[if_neg pV]at H;obtain⟨aV,A9,H⟩:=bE H;try dsimp only at H
    rcases iT H with⟨c10,H⟩|⟨c10,H⟩
    ·obtain⟨df,dg⟩:=pf c10;clear c10;obtain⟨cw,e3,H⟩:=bE H;try dsimp only at H
     obtain rfl:=pd H;go_wp2_with (first|(refine gB (some 16) Tryz.func109 #[.slice A1 l1.length c1] rfl ?_;(refine(jh.calls wU _ _ l1 aV _ ?_ ?_ A9.out).mono ?_);exact cY bV HB;exact cE.out;rintro e _ ⟨rfl,hb⟩;refine⟨_,rfl,?_⟩;replace HB:=bW HB hb;clear hb)|(go_at_call 110;(with_reducible refine(jy.calls wU _ _ l1 cw _ ?_ ?_ e3.out).mono ?_);exact cY bV HB;exact cE.out;rintro e _ ⟨rfl,hb⟩;replace HB:=bW HB hb;clear hb));go_ret;exact⟨eF,wZ HB⟩
    ·obtain⟨df,dg⟩:=pe c10;obtain rfl:=pd H;go_wp2_with (first|(refine gB (some 16) Tryz.func109 #[.slice A1 l1.length c1] rfl ?_;(refine(jh.calls wU _ _ l1 aV _ ?_ ?_ A9.out).mono ?_);exact cY bV HB;exact cE.out;rintro e _ ⟨rfl,hb⟩;refine⟨_,rfl,?_⟩;replace HB:=bW HB hb;clear hb));go_ret;exact⟨eF,wZ HB⟩
def po.f (l0:LI):Option LI:=if l0.length≤1000 then some (l0.mergeSort fun x y=>decide (x≤y))else none
theorem po.calls (bl:Nat→Prop) (aH:Value) (l0:LI) (r:LI) (w0 w:World) (hB:Below w0.heap.size w0 w) (bd:Kd.R KI 3 w w0.heap.size bl aH l0) (h:po.f l0=some r):
  Calls Tryz.prog 111 #[aH] w fun e w'=>e= .returned (.tuple #[])∧Kd.R KI 3 w' w0.heap.size (fun k_=>(bl k_∨w.heap.size≤k_)) aH r∧Below w0.heap.size w0 w'∧Kept w w' (fun k_=>bl k_):=by
 unfold po.f at h;by_cases hs:l0.length≤1000
 ·rw[if_pos hs]at h;obtain rfl:=pd h;by_cases hp:l0.length=0
  ·obtain⟨A,c,rfl,_,_⟩:=Kd.R_reads bd;obtain rfl:l0= []:=List.eq_nil_of_length_eq_zero hp;refine(Tryz.slices_Sort_int_none A c w).mono ?_;rintro e w' ⟨rfl,rfl⟩;exact⟨rfl,by rw[show(([]:LI).mergeSort fun x y=>decide (x≤y))= [] from by simp];exact Kd.R_mono bd (fun k hk=>Or.inl hk),hB,Kept.refl _ _⟩
  ·obtain⟨cz,inner,bT,ba⟩:=bd;rcases bT.2 with⟨rfl,h0⟩|⟨g,cap,cur,rfl,bJ,hb,h1,h2,h3,h4⟩
   ·exact absurd h0 hp
   ·have dh:inner=l0.map (Value.int .i64):=by
     have hl:=ba.1;have b7:=ba.2;apply List.ext_getElem
     ·rw[hl,List.length_map];exact Nat.mul_one _
     ·intro j hj hj';rw[List.length_map]at hj';have:=b7 j l0[j] (List.getElem?_eq_getElem hj');have e1:(inner.drop (j*1)).take 1= [inner[j]]:=by rw[Nat.mul_one,List.drop_eq_getElem_cons hj];rfl
      have e2:(inner.drop (j*1)).take 1= [Value.int .i64 l0[j]]:=this;rw[e1]at e2;rw[List.getElem_map];exact List.head_eq_of_cons_eq e2
    have di:cur.toList.take l0.length=l0.map (Value.int .i64):=by rw[←dh,←h4];show _=cur.toList.take (l0.length*1);rw[Nat.mul_one]
    have hH:=holds_of_blockI hb di;refine(Tryz.slices_Sort_int g 0 cap l0 w hH (Array.getElem?_eq_some_iff.1 hb).1 (by omega)).mono ?_;rintro e w' ⟨rfl,n,os,rfl⟩;obtain⟨ts,bZ⟩:∃ts,ts=l0.mergeSort fun x y=>decide (x≤y):=⟨_,rfl⟩
    have hlen:ts.length=l0.length:=by rw[bZ,List.length_mergeSort]
    rw[←bZ];have hs:=ownsRow_sortedI (w:=w) (n:=n) (os:=os) (base:=w0.heap.size) (cap:=cap) hlen bJ hb h1 h2 h3;have hg:=grownBy_sortedI (w:=w) (g:=g) (n:=n) (os:=os) ts.toArray
    have GI:Kd.R KI 3 (Sort.grow (Sort.putRow (Value.int .i64) (Sort.ahead w n) g 0 ts.toArray) os) w0.heap.size bl (.slice (some ⟨g,0,none⟩) l0.length cap) ts:=by
     refine⟨cz,_,by rw[hlen];exact hs,⟨by rw[List.length_map];exact(Nat.mul_one _).symm,fun j p hj=>?_⟩⟩;obtain⟨hj',rfl⟩:=List.getElem?_eq_some_iff.1 hj
     show(((ts.map (Value.int .i64)).drop (j*1)).take 1)= [Value.int .i64 ts[j]]
     rw[Nat.mul_one,List.drop_eq_getElem_cons (by rw[List.length_map];exact hj'),List.getElem_map];rfl
    refine⟨rfl,Kd.R_mono GI (fun k hk=>Or.inl hk),pw_below_grown hB (some g) hB.size hg (fun k hk=>by injection hk with hk;omega),hg.size,fun i hi dj=>hg.block i hi (fun e=>dj ?_)⟩;injection e with e
    subst e;exact cz _ rfl
 ·rw[if_neg hs]at h;cases h
def mi.f (l0:LI):Option LI:=some (Lib.compact l0)
theorem mi.len (l:LI):(Lib.compact l).length≤l.length:=by
 unfold Lib.compact Lib.compactUpTo;rw[List.length_map];exact Nat.le_trans (List.length_filter_le _ _) (by simp)
theorem mi.calls (bl:Nat→Prop) (aH:Value) (l0:LI) (r:LI) (w0 w:World) (hB:Below w0.heap.size w0 w) (bd:Kd.R KI 3 w w0.heap.size bl aH l0) (h:mi.f l0=some r):
  Calls Tryz.prog 112 #[aH] w fun e w'=>∃er:Value,e= .returned (er)∧Kd.R KI 3 w' w0.heap.size (fun k_=>(bl k_∨w.heap.size≤k_)) er r∧Below w0.heap.size w0 w'∧Kept w w' (fun k_=>bl k_):=by
 obtain rfl:=pd h;by_cases hp:l0.length=0
 ·obtain⟨A,c,rfl,_,_⟩:=Kd.R_reads bd;obtain rfl:l0= []:=List.eq_nil_of_length_eq_zero hp;refine(Tryz.slices_Compact_int_empty A c w).mono ?_;rintro e w' ⟨rfl,rfl⟩;exact⟨_,rfl,Kd.R_mono bd (fun k hk=>Or.inl hk),hB,Kept.refl _ _⟩
 ·obtain⟨cz,inner,bT,ba⟩:=bd;have e4:=bT;rcases bT.2 with⟨rfl,h0⟩|⟨g,cap,cur,rfl,bJ,hb,h1,h2,h3,h4⟩
  ·exact absurd h0 hp
  ·have dh:inner=l0.map (Value.int .i64):=by
    have hl:=ba.1;have b7:=ba.2;apply List.ext_getElem
    ·rw[hl,List.length_map];exact Nat.mul_one _
    ·intro j hj hj';rw[List.length_map]at hj';have:=b7 j l0[j] (List.getElem?_eq_getElem hj');have e1:(inner.drop (j*1)).take 1= [inner[j]]:=by rw[Nat.mul_one,List.drop_eq_getElem_cons hj];rfl
     have e2:(inner.drop (j*1)).take 1= [Value.int .i64 l0[j]]:=this;rw[e1]at e2;rw[List.getElem_map];exact List.head_eq_of_cons_eq e2
   have di:cur.toList.take l0.length=l0.map (Value.int .i64):=by rw[←dh,←h4];show _=cur.toList.take (l0.length*1);rw[Nat.mul_one]
   have hH:=holds_of_blockI hb di;have hm:l0.length≤9223372036854775807:=Nat.le_trans h1 h2;have e5:=mi.len l0;refine(Tryz.slices_Compact_int g 0 cap l0 w hH hm h1).mono ?_;rintro e w' ⟨rfl,n,rfl⟩;obtain⟨ts,bZ⟩:∃ts,ts=Lib.compact l0++List.replicate (l0.length - (Lib.compact l0).length) 0:=⟨_,rfl⟩;have hlen:ts.length=l0.length:=by rw[bZ,List.length_append,List.length_replicate];omega
   rw[←bZ];have hs:=ownsRow_sortedI (w:=w) (n:=n) (os:= #[]) (base:=w0.heap.size) (cap:=cap) hlen bJ hb h1 h2 h3;have hg:=grownBy_sortedI (w:=w) (g:=g) (n:=n) (os:= #[]) ts.toArray;rw[Sort.grow_empty]at hs hg
   have GI:Kd.R KI 3 (Sort.putRow (Value.int .i64) (Sort.ahead w n) g 0 ts.toArray) w0.heap.size bl (.slice (some ⟨g,0,none⟩) l0.length cap) ts:=by
    refine⟨cz,_,by rw[hlen];exact hs,⟨by rw[List.length_map];exact(Nat.mul_one _).symm,fun j p hj=>?_⟩⟩;obtain⟨hj',rfl⟩:=List.getElem?_eq_some_iff.1 hj
    show(((ts.map (Value.int .i64)).drop (j*1)).take 1)= [Value.int .i64 ts[j]]
    rw[Nat.mul_one,List.drop_eq_getElem_cons (by rw[List.length_map];exact hj'),List.getElem_map];rfl
   have hT:=Kd.R_take (m:=(Lib.compact l0).length) GI (by rw[hlen];exact e5);have e6:ts.take (Lib.compact l0).length=Lib.compact l0:=by rw[bZ,List.take_left]
   rw[e6]at hT;refine⟨_,rfl,Kd.R_mono hT (fun k hk=>Or.inl hk),pw_below_grown hB (some g) hB.size hg (fun k hk=>by injection hk with hk;omega),hg.size,fun i hi dj=>hg.block i hi (fun e=>dj ?_)⟩;injection e with e
   subst e;exact cz _ rfl
def iY.l0:Nat→LI→Int→Int→Int→Option (Int)
 |0,_,_,_,_=>none
 |k+1,x0,x1,x7,x8=>if x8<x7 then(if 0≤x8 then(if x8<(x0.length:Int)then(if x1=(rd x0 x8)then(some x8)else(iY.l0 k x0 x1 x7 (wrap64 (x8+1))))else(none))else(none))else(some (-1))
def iY.f (k:Nat) (l0:LI) (a1:Int):Option (Int):=iY.l0 k l0 a1 (l0.length:Int) 0
theorem iY.hZ:∀k,(∀y0 y1 y2 y3,lS (iY.l0 k y0 y1 y2 y3) (iY.l0 (k+1) y0 y1 y2 y3))
 |0=>fun _ _ _ _=> .z (by simp only[iY.l0])
 |k+1=>by
  have i0:=iY.hZ k;exact fun _ _ _ _=>by unfold iY.l0;infer_instance
instance iY.mo {k a0 a1}:lS (iY.f k a0 a1) (iY.f (k+1) a0 a1):=by have i0:=iY.hZ k;unfold iY.f;infer_instance
theorem iY.calls (k:Nat) (A0:Option Addr) (c0:Nat) (l0:LI) (a1:Int) (r:Int) (w:World) (aK:Kd.C KI w A0 l0.length l0) (aM:l0.length≤c0) (h:iY.f k l0 a1=some r):
  Calls Tryz.prog 113 #[.slice A0 l0.length c0,.int .i64 a1] w fun e w'=>e= .returned (.int .i64 r)∧Drawn0 w w':=by
 have aT:=bm aK;have b1:=bm aM;clear aK aM;have H:=h;clear h;unfold iY.f at H;have H':=bm H;clear H;go_enter Tryz.func113,Tryz.ntmps113;go_wp2;go_loopg [8] k (fun kq v8 w'=>∃(ar:Int),v8= .int .i64 ar∧hJ (iY.l0 kq l0 a1 (l0.length:Int) ar=some r)∧hJ (kq≤k)∧Drawn0 w w')
 case atStart=>exact⟨(0),eA,H',⟨Nat.le_refl _⟩,by repeat(first|exact Drawn0.refl _|apply Drawn0.step)⟩
 case round=>
  clear H';obtain⟨ar,rfl,HA,aQ,⟨m1,rfl⟩⟩:=hrel;cases gk with
  |zero=>exact absurd HA.out (by simp[iY.l0])
  |succ k1=>
   have H:=HA.out;clear HA;simp only[iY.l0]at H;rcases pP H with⟨br,H⟩|⟨br,H⟩
   ·obtain⟨bg,H⟩:=pN H;obtain⟨cc,H⟩:=pN H;rcases iT H with⟨c6,H⟩|⟨c6,H⟩
    ·obtain⟨cd,cL⟩:=pf c6;clear c6;obtain rfl:=pd H;have bb:0≤(ar:Int):=ko;have bc:ar<(l0.length:Int):=ko;obtain⟨dk,cA,cB⟩:=Kd.at_int aT.out ar bb bc;cases cA;replace bb:=pM bb;replace bc:=pM bc;go_wp2;go_ret;exact rq
    ·obtain⟨cd,cL⟩:=pe c6;have H':=bm H;clear H;have bb:0≤(ar:Int):=ko;have bc:ar<(l0.length:Int):=ko;obtain⟨dk,cA,cB⟩:=Kd.at_int aT.out ar bb bc;cases cA;replace bb:=pM bb;replace bc:=pM bc;go_wp2;go_roundg k1
     case measure=>have:=aQ.out;omega
     case rel=>exact⟨(wrap64 (ar+1)),eA,H',⟨by have:=aQ.out;omega⟩,by repeat(first|exact Drawn0.refl _|apply Drawn0.step)⟩
   ·obtain rfl:=pd H;go_wp2;go_ret;exact rq
end Go.Proofs.YtigeaokfhnlkcaaGreatDoor.P
