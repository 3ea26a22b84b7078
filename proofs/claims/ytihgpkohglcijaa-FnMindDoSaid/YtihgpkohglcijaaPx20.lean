-- Written by a program of this session (wip/hook.py), which runs the kit's printer; Lean checks it.
import Derived.Test.YtihgpkohglcijaaPx0
import Derived.Test.YtihgpkohglcijaaPx2
import Derived.Test.YtihgpkohglcijaaPx10
import Derived.Test.YtihgpkohglcijaaPx15
import Derived.Test.YtihgpkohglcijaaPx17
import Derived.Test.YtihgpkohglcijaaPx19
namespace Go.Proofs.Ytihgpkohglcijaa.P
open Go.RowKit Go.Proofs.YtihgpkohglcijaaW.PrintWords Go.Proofs.YtihgpkohglcijaaW.PrintLast Go.Proofs.YtihgpkohglcijaaW.PrintMore
attribute [local go_sem] max2_int min2_int max_two min_two max_three min_three max_four min_four   -- for this text's walks alone
set_option linter.unusedVariables false
set_option linter.unusedSimpArgs false

/-! ### spec_DrawMindDo: function 65 -/
def spec_DrawMindDo.f (k:Nat) (l0:List Int):Option (Int×List Int×(List (List Int))×Int×ByteArray):=(spec_l20Open.f l0).bind fun aF=>((spec_l20Mind.f k aF.1 aF.2 12).bind fun aj=>((spec_l20Deed.f k aF.1 aj.2.2.2 aj.1 aj.2.1 aj.2.2.1).bind fun aM=>(some (aj.1,aj.2.1,aj.2.2.1,aM.1,aM.2.1))))
theorem spec_DrawMindDo.mono:∀a0 k,LeO (spec_DrawMindDo.f k a0) (spec_DrawMindDo.f (k+1) a0):=by
 intro a0 k;unfold spec_DrawMindDo.f
 repeat' first
   |(with_reducible first|exact spec_l20Deed.mono _ _ _ _ _ _|exact spec_l20Mind.mono _ _ _ _|exact LeO.refl _|exact LeO.none _|refine LeO.ite ?_ ?_|refine LeO.bind ?_ (fun _=>?_))
   |refine LeO.ite ?_ ?_
   |refine LeO.bind ?_ (fun _=>?_)
set_option maxHeartbeats 8000000 in
set_option maxRecDepth 100000 in
theorem spec_DrawMindDo.calls (k:Nat) (A0:Option Addr) (c0:Nat) (l0:List Int) (r1:Int) (r2:List Int) (r3:List (List Int)) (r4:Int) (r5:ByteArray) (w:World) (bA:Kd.C (Kd.int .u8) w A0 l0.length l0) (bB:l0.length≤c0) (h:spec_DrawMindDo.f k l0=some (r1,r2,r3,r4,r5)):
  Calls Try.prog 65 #[.slice A0 l0.length c0] w fun e w'=>∃bj bD:Value,e= .returned (.tuple #[.agg #[.int .i64 r1,bj,bD],.agg #[.int .i64 r4,.string r5]])∧Kd.R (Kd.int .i64) 3 w' w.heap.size (fun _=>True) bj r2∧Kd.S (Kd.slice 3 (Kd.int .i64)) 55 w' w.heap.size (fun k_=>some k_≠(bj:Value).ownBlock) bD r3∧Below w.heap.size w w':=by
 have de:=Try.underlying58;have df:=Try.underlying26;have cG:=Asd.mk bA;have cH:=Asd.mk bB;clear bA bB;have HB:=Asd.mk (Below.refl w.heap.size w);have H:((spec_l20Open.f l0).bind fun aF=>((spec_l20Mind.f k aF.1 aF.2 12).bind fun aj=>((spec_l20Deed.f k aF.1 aj.2.2.2 aj.1 aj.2.1 aj.2.2.1).bind fun aM=>(some (aj.1,aj.2.1,aj.2.2.1,aM.1,aM.2.1)))))=some (r1,r2,r3,r4,r5):=h;clear h;replace H:=Option.bind_eq_some_iff.mp H;obtain⟨⟨aH,bh⟩,bF,H⟩:=H;try dsimp only at H
 have A2:=Asd.mk bF;clear bF;replace H:=Option.bind_eq_some_iff.mp H;obtain⟨⟨av,ao,ar,aI⟩,aR,H⟩:=H;try dsimp only at H
 have A3:=Asd.mk aR;clear aR;replace H:=Option.bind_eq_some_iff.mp H;obtain⟨⟨bd,bf,bH⟩,bI,H⟩:=H;try dsimp only at H
 have A4:=Asd.mk bI;clear bI;simp only[Option.some.injEq,Prod.mk.injEq]at H;obtain⟨rfl,rfl,rfl,rfl,rfl⟩:=H;go_enter Try.func65,Try.ntmps65;try go_wp2_with (first|((with_reducible refine gate_dst (N:=2) rfl ?_);refine bxE ?hg (N:=2) ?hd (cs:= #[.int .i64 0,.slice none 0 0,.slice none 0 0]) (t:=58) ?hr ?_;(case hd=>rfl);(case hg=>rfl);(case hr=>first|(go_simp;done)|(go_simp;rfl));intro af hg w5 aJ hb;have I:=Asd.mk (aJ);have cI:=bG HB hg;have aZ:=bG HB hg;replace HB:=bW HB hb;clear hb aJ hg)|((with_reducible refine gate_dst (N:=3) rfl ?_);refine bxE ?hg (N:=3) ?hd (cs:= #[.int .i64 0,.string (⟨#[]⟩:ByteArray)]) (t:=26) ?hr ?_;(case hd=>rfl);(case hg=>rfl);(case hr=>first|(go_simp;done)|(go_simp;rfl));intro ak hg w6 aJ hb;have ae:=Asd.mk (aJ);have cJ:=bG HB hg;have a6:=bG HB hg;replace HB:=bW HB hb;have ay:=bL I hg;have az:=bM I hg;replace I:=bU I hb;clear hb aJ hg)|((with_reducible refine gate_callee (f:=78) rfl ?_);refine gsM (some 7) rfl rfl Try.func78 (by kernel_rfl) rfl #[.slice A0 l0.length c0] rfl ?_;(with_reducible refine(spec_l20Open.calls _ _ l0 aH bh w _ ?side1 ?side2 ?side3 A2.out).mono ?_);(case side1=>repeat(with_reducible first|exact HB.out|apply bwX|refine bwS ?_ aZ.out|refine bwS ?_ a6.out));(case side2=>exact cG.out);(case side3=>exact cH.out);rintro e w7 ⟨aD,rfl,hi,hb,aL⟩;refine⟨_,rfl,?_⟩;replace HB:=Asd.mk (hb);have aa:=Asd.mk (hi);have ag:=Asd.mk (Iz.ne_blk hi (bkB (g:=af) (o:=.cells #[.int .i64 0,.slice none 0 0,.slice none 0 0] 58 (0,0)) (kS I) aL) (by decide));have aN:=Asd.mk (Ne.symm (Iz.ne_blk hi (bkB (g:=af) (o:=.cells #[.int .i64 0,.slice none 0 0,.slice none 0 0] 58 (0,0)) (kS I) aL) (by decide)));replace I:=Asd.mk (bkB (g:=af) (o:=.cells #[.int .i64 0,.slice none 0 0,.slice none 0 0] 58 (0,0)) (kS I) aL);have ah:=Asd.mk (Iz.ne_blk hi (bkB (g:=ak) (o:=.cells #[.int .i64 0,.string (⟨#[]⟩:ByteArray)] 26 (0,0)) (kS ae) aL) (by decide));have aO:=Asd.mk (Ne.symm (Iz.ne_blk hi (bkB (g:=ak) (o:=.cells #[.int .i64 0,.string (⟨#[]⟩:ByteArray)] 26 (0,0)) (kS ae) aL) (by decide)));replace ae:=Asd.mk (bkB (g:=ak) (o:=.cells #[.int .i64 0,.string (⟨#[]⟩:ByteArray)] 26 (0,0)) (kS ae) aL);(try clear hb);(try clear aL);(try clear hk);(try clear hi))|((with_reducible refine gate_callee (f:=88) rfl ?_);refine gsM (some 9) rfl rfl Try.func88 (by kernel_rfl) rfl #[.pointer (some ⟨aD,0,none⟩),.int .i64 12] rfl ?_;(with_reducible refine(spec_l20Mind.calls k aD aH bh 12 av ao ar aI w _ ?side1 ?side2 A3.out).mono ?_);(case side1=>repeat(with_reducible first|exact aa.out|apply Iz.bX|apply Iz.set_1|refine Iz.far ?_ ag.out _|refine Iz.far ?_ ah.out _));(case side2=>repeat(with_reducible first|exact HB.out|apply bwX|refine bwS ?_ (Iz.ge aa.out)|refine bwS ?_ aZ.out|refine bwS ?_ a6.out));rintro e w8 ⟨dg,dh,rfl,bJ,bO,hi,hb,hk⟩;refine⟨_,rfl,?_⟩;replace I:=Asd.mk (Kbt.blk hk (g':=af) (o:=.cells #[.int .i64 0,.slice none 0 0,.slice none 0 0] 58 (0,0)) (kS I) aN.out (by simp));replace ae:=Asd.mk (Kbt.blk hk (g':=ak) (o:=.cells #[.int .i64 0,.string (⟨#[]⟩:ByteArray)] 26 (0,0)) (kS ae) aO.out (by simp));have al:=Asd.mk (Kd.R_lower bJ (below_size (wI HB (Iz.ge aa.out))));have aq:=Asd.mk (Kd.S_lower bO (below_size (wI HB (Iz.ge aa.out))));replace HB:=Asd.mk (hb);replace aa:=Asd.mk (hi);(try clear hb);(try clear aL);(try clear hk);(try clear hi);(try clear bJ);(try clear bO))|((with_reducible refine gate_dst (N:=5) rfl ?_);refine bxE ?hg (N:=5) ?hd (cs:= #[.int .i64 0,.slice none 0 0,.slice none 0 0]) (t:=58) ?hr ?_;(case hd=>rfl);(case hg=>rfl);(case hr=>first|(go_simp;done)|(go_simp;rfl));intro j hg w9 aJ hb;replace al:=bR al hb;replace aq:=bS aq hb;have an:=Asd.mk (aJ);have cK:=Asd.mk ((by rw[hg];exact(below_size (wI HB (Iz.ge aa.out))):w.heap.size≤j));have bk:=Asd.mk ((by rw[hg];exact(below_size (wI HB (Iz.ge aa.out))):w.heap.size≤j));replace HB:=bWI HB (Iz.ge aa.out) hb;have aC:=bL I hg;have ab:=bM I hg;replace I:=bU I hb;have aG:=bL ae hg;have ai:=bM ae hg;replace ae:=bU ae hb;have au:=Asd.mk ((by rw[hg];exact Nat.ne_of_lt (Iz.lt (show Iz w _ aD aH aI from by repeat(with_reducible first|exact aa.out|apply Iz.bX|apply Iz.set_1|refine Iz.far ?_ ag.out _|refine Iz.far ?_ ah.out _))):aD≠j));have aP:=Asd.mk ((by rw[hg];exact Nat.ne_of_gt (Iz.lt (show Iz w _ aD aH aI from by repeat(with_reducible first|exact aa.out|apply Iz.bX|apply Iz.set_1|refine Iz.far ?_ ag.out _|refine Iz.far ?_ ah.out _))):j≠aD));replace aa:=Asd.mk (Iz.below (by repeat(with_reducible first|exact aa.out|apply Iz.bX|apply Iz.set_1|refine Iz.far ?_ ag.out _|refine Iz.far ?_ ah.out _)) hb);clear hb aJ hg;have cL:=ab.out;have cM:=aC.out;have cN:=ai.out;have cO:=aG.out;have cP:=aP.out;have cQ:=au.out;obtain⟨bQ,bT,bV,bZ,b0,b1⟩:=b3 an;obtain⟨aw,ax,b4⟩:=Kd.R_slice al.out;subst b4;obtain⟨aA,aB,b5⟩:=Kd.S_slice aq.out;subst b5))
 have bl:Asd (Kd.R (Kd.int .i64) 3 (((w9.setCell ⟨j,0,none⟩ (.int .i64 av)).setCell ⟨j,1,none⟩ (.slice aw ao.length ax)).setCell ⟨j,2,none⟩ (.slice aA ar.length aB)) w.heap.size (fun _=>True) (.slice aw ao.length ax) ao):=⟨rT al⟩;have bn:Asd (Kd.S (Kd.slice 3 (Kd.int .i64)) 55 (((w9.setCell ⟨j,0,none⟩ (.int .i64 av)).setCell ⟨j,1,none⟩ (.slice aw ao.length ax)).setCell ⟨j,2,none⟩ (.slice aA ar.length aB)) w.heap.size (fun k_=>some k_≠(.slice aw ao.length ax:Value).ownBlock) (.slice aA ar.length aB) ar):=⟨sT aq⟩;have bo:Asd ((((w9.setCell ⟨j,0,none⟩ (.int .i64 av)).setCell ⟨j,1,none⟩ (.slice aw ao.length ax)).setCell ⟨j,2,none⟩ (.slice aA ar.length aB)).heap[af]?=some (.cells #[.int .i64 0,.slice none 0 0,.slice none 0 0] 58 (0,0))):=⟨kS I⟩;have bp:Asd ((((w9.setCell ⟨j,0,none⟩ (.int .i64 av)).setCell ⟨j,1,none⟩ (.slice aw ao.length ax)).setCell ⟨j,2,none⟩ (.slice aA ar.length aB)).heap[ak]?=some (.cells #[.int .i64 0,.string (⟨#[]⟩:ByteArray)] 26 (0,0))):=⟨kS ae⟩;have bq:Asd ((((w9.setCell ⟨j,0,none⟩ (.int .i64 av)).setCell ⟨j,1,none⟩ (.slice aw ao.length ax)).setCell ⟨j,2,none⟩ (.slice aA ar.length aB)).heap[j]?=some (.cells #[.int .i64 av,.slice aw ao.length ax,.slice aA ar.length aB] 58 (0,0))):=⟨kP an⟩;have br:Asd (Iz w (((w9.setCell ⟨j,0,none⟩ (.int .i64 av)).setCell ⟨j,1,none⟩ (.slice aw ao.length ax)).setCell ⟨j,2,none⟩ (.slice aA ar.length aB)) aD aH aI):=⟨by repeat(with_reducible first|exact aa.out|apply Iz.bX|apply Iz.set_1|refine Iz.far ?_ ag.out _|refine Iz.far ?_ ah.out _|refine Iz.far ?_ au.out _)⟩;have bs:Asd (Below w.heap.size w (((w9.setCell ⟨j,0,none⟩ (.int .i64 av)).setCell ⟨j,1,none⟩ (.slice aw ao.length ax)).setCell ⟨j,2,none⟩ (.slice aA ar.length aB))):=⟨wI HB (Iz.ge aa.out)⟩;(try clear al);(try clear aq);(try clear I);(try clear ae);(try clear an);(try clear aa);(try clear HB);generalize(((w9.setCell ⟨j,0,none⟩ (.int .i64 av)).setCell ⟨j,1,none⟩ (.slice aw ao.length ax)).setCell ⟨j,2,none⟩ (.slice aA ar.length aB))=w16 at bl bn bo bp bq br bs⊢;have al:=bl;have aq:=bn;have I:=bo;have ae:=bp;have an:=bq;have aa:=br;have HB:=bs;clear bl bn bo bp bq br bs;replace al:=Asd.mk (Kd.R_drew al.out);replace aq:=Asd.mk (Kd.S_drew aq.out);replace I:=Asd.mk (bkD I.out);replace ae:=Asd.mk (bkD ae.out);replace an:=Asd.mk (bkD an.out);replace aa:=Asd.mk (Iz.drew aa.out);replace HB:=Asd.mk (bwD HB.out);refine start_ (n:=6) (S:=fun w'=>w'.cell? ⟨j,0,none⟩=some (.int .i64 av)∧w'.cell? ⟨j,1,none⟩=some (.slice aw ao.length ax)∧w'.cell? ⟨j,2,none⟩=some (.slice aA ar.length aB)) (ds:=[]) #[false,false,false,false,false,false] (by kernel_rfl) rfl rfl ⟨(bkC an.out 0).trans rfl,(bkC an.out 1).trans rfl,(bkC an.out 2).trans rfl⟩ (fun hHeld=>?_);generalize w16.drew=w17 at al aq I ae an aa HB hHeld⊢;refine pure_ (i:=1) (N:=some 11) (v:=?_) (a':=?_) #[false,true,false,false,false,false] rfl rfl (by kernel_rfl) (fun _ _ _ h=>h) (Or.inl ⟨by rfl,?_⟩) ?_ ?_;rotate_left
 ·intro w';go_simp;with_reducible rfl
 rotate_left
 ·simp only[Act.put,qA,qB,qC,i64_w,i32_w];rfl
 refine take_ (i:=0) (N:=some 10) (v:=?_) (a':=?_) #[true,true,false,false,false,false] rfl rfl (by kernel_rfl) (fun _ _ _ h=>h) (Or.inl ⟨by rfl,?_⟩) hHeld ?_ ?_;rotate_left
 ·rintro w' ⟨s0,s1,s2⟩;go_simp;with_reducible rfl
 rotate_left
 ·simp only[Act.put,qA,qB,qC,i64_w,i32_w];rfl
 refine take_ (i:=2) (N:=some 12) (v:=?_) (a':=?_) #[true,true,true,false,false,false] rfl rfl (by kernel_rfl) (fun _ _ _ h=>h) (Or.inl ⟨by rfl,?_⟩) hHeld ?_ ?_;rotate_left
 ·rintro w' ⟨s0,s1,s2⟩;go_simp;with_reducible rfl
 rotate_left
 ·simp only[Act.put,qA,qB,qC,i64_w,i32_w];rfl
 refine one_ (i:=3) (N:=some 13) #[true,true,true,true,false,false] rfl rfl (by kernel_rfl) (by decide) (fun K hK=>?_);refine goes_ Try.func87 (by kernel_rfl) rfl #[.pointer (some ⟨aD,0,none⟩),.agg #[.int .i64 av,.slice aw ao.length ax,.slice aA ar.length aB]] (by rfl) rfl rfl (by(try simp only[List.map_toArray,List.map_cons,List.map_nil]);first|done|rfl|(simp only[List.length_drop,List.length_take];rfl)) ?_;with_reducible refine(spec_l20Deed.calls k aD aH aI av _ _ ao _ _ ar bd bf bH w _ ?side1 ?side2 ?side3 ?side4 ?side5 ?side6 ?side7 A4.out).mono ?_
 (case side1=>repeat(with_reducible first|exact aa.out|apply Iz.bX|apply Iz.set_1|refine Iz.far ?_ ag.out _|refine Iz.far ?_ ah.out _|refine Iz.far ?_ au.out _));(case side2=>repeat(with_reducible first|exact HB.out|apply bwX|refine bwS ?_ (Iz.ge aa.out)|refine bwS ?_ aZ.out|refine bwS ?_ a6.out|refine bwS ?_ bk.out));(case side3=>exact cZ (Kd.R_reads' al.out).2.2);(case side4=>exact(Kd.R_reads' al.out).2.1);(case side5=>exact far_slice (Iz.own_ne aa.out al.out (by decide)));(case side6=>exact Kd.C_foot_own ((Kd.S_R (Iz.apartS (show Iz w _ aD aH aI from by repeat(with_reducible first|exact aa.out|apply Iz.bX|apply Iz.set_1|refine Iz.far ?_ ag.out _|refine Iz.far ?_ ah.out _|refine Iz.far ?_ au.out _)) (sS aq) (by decide)))) (fun _ h_=>h_.2));(case side7=>exact(Kd.S_reads' aq.out).2.1);rintro e w18 ⟨rfl,hi,hb,hk⟩;refine⟨_,rfl,?_⟩;replace I:=Asd.mk (Kbt.blk hk (g':=af) (o:=.cells #[.int .i64 0,.slice none 0 0,.slice none 0 0] 58 (0,0)) (kS I) aN.out (by simp));replace ae:=Asd.mk (Kbt.blk hk (g':=ak) (o:=.cells #[.int .i64 0,.string (⟨#[]⟩:ByteArray)] 26 (0,0)) (kS ae) aO.out (by simp));replace al:=Asd.mk (Kd.R_mono (Kd.R_keep (Iz.apart (show Iz w _ aD aH aI from by repeat(with_reducible first|exact aa.out|apply Iz.bX|apply Iz.set_1|refine Iz.far ?_ ag.out _|refine Iz.far ?_ ah.out _|refine Iz.far ?_ au.out _)) (rS al) (by decide)) hk (fun _ h=>h.2)) (fun _ h=>h.1));replace aq:=Asd.mk (Kd.S_mono (Kd.S_keep (Iz.apartS (show Iz w _ aD aH aI from by repeat(with_reducible first|exact aa.out|apply Iz.bX|apply Iz.set_1|refine Iz.far ?_ ag.out _|refine Iz.far ?_ ah.out _|refine Iz.far ?_ au.out _)) (sS aq) (by decide)) hk (fun _ h=>h.2)) (fun _ h=>h.1));replace an:=Asd.mk (Kbt.blk hk (g':=j) (o:=.cells #[.int .i64 av,.slice aw ao.length ax,.slice aA ar.length aB] 58 (0,0)) (kS an) aP.out (by simp));replace HB:=Asd.mk (hb);replace aa:=Asd.mk (hi);(try clear hb);(try clear aL);(try clear hk);(try clear hi);refine hK.out _ _ ⟨(bkC an.out 0).trans rfl,(bkC an.out 1).trans rfl,(bkC an.out 2).trans rfl⟩ (fun hHeld=>?_);clear hK K;refine norm_ (a':=?_) ?_ ?_;rotate_left
 ·show Act.put _ (some 13) _=_
  simp only[Act.put,qA,qB,qC,i64_w,i32_w];rfl
 refine one_ (i:=4) (N:=none) #[true,true,true,true,true,false] rfl rfl (by kernel_rfl) (by decide) (fun K hK=>?_);have di:=bC I 0;have cR:=bkF I.out 0;have b6:=az.out;have b7:=ab.out;have b8:=ay.out;have b9:=aC.out;have dj:=bC I 1;have cS:=bkF I.out 1;have ca:=az.out;have cb:=ab.out;have cc:=ay.out;have cd:=aC.out;have dk:=bC I 2;have cT:=bkF I.out 2;have cf:=az.out;have cg:=ab.out;have ch:=ay.out;have cj:=aC.out;refine skip_ (w1:=?_) (by rfl) rfl ?_ ?_;rotate_left
 ·go_simp;rfl
 refine hK.out _ _ ⟨((cell_far (p:=⟨af,_,none⟩) ab.out _).trans (((cell_far (p:=⟨af,_,none⟩) ab.out _).trans (((cell_far (p:=⟨af,_,none⟩) ab.out _).trans (hHeld.1)))))),((cell_far (p:=⟨af,_,none⟩) ab.out _).trans (((cell_far (p:=⟨af,_,none⟩) ab.out _).trans (((cell_far (p:=⟨af,_,none⟩) ab.out _).trans (hHeld.2.1)))))),((cell_far (p:=⟨af,_,none⟩) ab.out _).trans (((cell_far (p:=⟨af,_,none⟩) ab.out _).trans (((cell_far (p:=⟨af,_,none⟩) ab.out _).trans (hHeld.2.2))))))⟩ (fun hHeld=>?_);clear hK K;refine one_ (i:=5) (N:=none) #[true,true,true,true,true,true] rfl rfl (by kernel_rfl) (by decide) (fun K hK=>?_);have dm:=bC ae 0;have cU:=bkF ae.out 0;have ck:=ay.out;have cl:=ai.out;have cm:=az.out;have cn:=aG.out;have dn:=bC ae 1;have cV:=bkF ae.out 1;have cp:=ay.out;have cq:=ai.out;have cr:=az.out;have ct:=aG.out;refine skip_ (w1:=?_) (by rfl) rfl ?_ ?_;rotate_left
 ·go_simp;rfl
 refine hK.out _ _ ⟨((cell_far (p:=⟨ak,_,none⟩) ai.out _).trans (((cell_far (p:=⟨ak,_,none⟩) ai.out _).trans (hHeld.1)))),((cell_far (p:=⟨ak,_,none⟩) ai.out _).trans (((cell_far (p:=⟨ak,_,none⟩) ai.out _).trans (hHeld.2.1)))),((cell_far (p:=⟨ak,_,none⟩) ai.out _).trans (((cell_far (p:=⟨ak,_,none⟩) ai.out _).trans (hHeld.2.2))))⟩ (fun hHeld=>?_);clear hK K;refine done_ (by kernel_rfl) ?_;try go_wp2
 refine bodyPost_ret (results_cc rfl _ _ af ak 58 26 #[.int .i64 av,.slice aw ao.length ax,.slice aA ar.length aB] #[.int .i64 bd,.string bf] (0,0) (0,0) _ _ rfl (kP I) Try.underlying58 rfl (by kernel_rfl) rfl (kP ae) Try.underlying26 rfl (by kernel_rfl)) rfl ?_;exact⟨_,_,by first|rfl|(simp[*,errW_none,errW_some]<;>rfl),rT al,by(repeat apply Kd.SS);exact Kd.S_mono (Kd.S_far (p:=⟨ak,1,none⟩) (Kd.S_far (p:=⟨ak,0,none⟩) (Kd.S_far (p:=⟨af,2,none⟩) (Kd.S_far (p:=⟨af,1,none⟩) (Kd.S_far (p:=⟨af,0,none⟩) (Kd.S_types (Kd.S_types aq.out I.out (by decide)) ae.out (by decide)) (fun _ hk=>hk.1.2) (.int .i64 av)) (fun _ hk=>hk.1.2) (.slice aw ao.length ax)) (fun _ hk=>hk.1.2) (.slice aA ar.length aB)) (fun _ hk=>hk.2) (.int .i64 bd)) (fun _ hk=>hk.2) (.string bf)) (fun _ hk=>hk.1.1),wI HB (Iz.ge aa.out)⟩

/-! ### laws_both: function 113 -/
def laws_both.l0:Nat→Int→Int→Int→Int→Option (Int)
 |0,_,_,_,_=>none
 |k+1,x0,x1,x5,x6=>if x6<8 then(if 0≤x6 then(if(Int.tmod (shr .i64 x0 x6) 2)=1 then(if(Int.tmod (shr .i64 x1 x6) 2)=1 then(laws_both.l0 k x0 x1 (wrap64 (x5+(shl .i64 1 x6))) (wrap64 (x6+1)))else(laws_both.l0 k x0 x1 x5 (wrap64 (x6+1))))else(laws_both.l0 k x0 x1 x5 (wrap64 (x6+1))))else(none))else(some x5)
def laws_both.f (k:Nat) (a0:Int) (a1:Int):Option (Int):=laws_both.l0 k a0 a1 0 0
theorem laws_both.mono_l:∀k,(∀y0 y1 y2 y3,LeO (laws_both.l0 k y0 y1 y2 y3) (laws_both.l0 (k+1) y0 y1 y2 y3))
 |0=>fun _ _ _ _ r h=>by simp[laws_both.l0]at h
 |k+1=>by
  have bu:=laws_both.mono_l k
  ·intro y0 y1 y2 y3;unfold laws_both.l0;repeat' first
   |(with_reducible first|exact bu _ _ _ _|exact LeO.refl _|exact LeO.none _|refine LeO.ite ?_ ?_|refine LeO.bind ?_ (fun _=>?_))
   |refine LeO.ite ?_ ?_
   |refine LeO.bind ?_ (fun _=>?_)
theorem laws_both.mono:∀a0 a1 k,LeO (laws_both.f k a0 a1) (laws_both.f (k+1) a0 a1):=by
 intro a0 a1 k;have bu:=laws_both.mono_l k;unfold laws_both.f
 repeat' first
   |(with_reducible first|exact bu _ _ _ _|exact LeO.refl _|exact LeO.none _|refine LeO.ite ?_ ?_|refine LeO.bind ?_ (fun _=>?_))
   |refine LeO.ite ?_ ?_
   |refine LeO.bind ?_ (fun _=>?_)
set_option maxHeartbeats 8000000 in
set_option maxRecDepth 100000 in
theorem laws_both.calls (k:Nat) (a0:Int) (a1:Int) (r:Int) (w:World) (h:laws_both.f k a0 a1=some r):
  Calls Try.prog 113 #[.int .i64 a0,.int .i64 a1] w fun e w'=>e= .returned (.int .i64 r)∧Drawn0 w w':=by
 have H:(laws_both.l0 k a0 a1 0 0)=some r:=h;clear h;have H':=Asd.mk H;clear H;go_enter Try.func113,Try.ntmps113;go_wp2;go_loopg [5,6] k (fun kq v5 v6 w'=>∃(aE:Int) (J:Int),v5= .int .i64 aE∧v6= .int .i64 J∧Asd (laws_both.l0 kq a0 a1 aE J=some r)∧Asd (kq≤k)∧Drawn0 w w')
 case atStart=>exact⟨(0),(0),(by first|rfl|(simp;done)|(simp[*];done)),(by first|rfl|(simp;done)|(simp[*];done)),H',⟨Nat.le_refl _⟩,by repeat(first|exact Drawn0.refl _|apply Drawn0.step)⟩
 case round=>
  clear H';obtain⟨aE,J,rfl,rfl,HA,bc,⟨m1,rfl⟩⟩:=hrel;cases gk with
  |zero=>exact absurd HA.out (by simp[laws_both.l0])
  |succ k1=>
   have H:=HA.out;clear HA;simp only[laws_both.l0]at H;by_cases c3:J<8
   ·rw[if_pos c3]at H;have cu:decide (J<8)=true:=decide_eq_true c3;clear c3;by_cases c4:0≤J;rotate_left;(rw[if_neg c4]at H;exact absurd H (by simp));rw[if_pos c4]at H;have dp:=eq_true c4;have dq:decide (0≤J)=true:=decide_eq_true c4;clear c4;obtain⟨aS,a7⟩:∃j_:Int,(shr .i64 a0 J)=j_:=⟨_,rfl⟩;replace H:(if(Int.tmod (aS) 2)=1 then(if(Int.tmod (shr .i64 a1 J) 2)=1 then(laws_both.l0 k1 a0 a1 (wrap64 (aE+(shl .i64 1 J))) (wrap64 (J+1)))else(laws_both.l0 k1 a0 a1 aE (wrap64 (J+1))))else(laws_both.l0 k1 a0 a1 aE (wrap64 (J+1))))=some r:=by first|(rw[a7]at H;exact H)|(simp only[a7]at H⊢;exact H)
    have cW:(a0/2^min J.toNat 64)=aS:=a7;have cX:J≤64→(a0/2^J.toNat)=aS:=shr_small a7;by_cases c6:(Int.tmod (aS) 2)=1
    ·rw[if_pos c6]at H;have cv:((Int.tmod (aS) 2)==1)=true:=beq_iff_eq.mpr c6;have cw:((Int.tmod (aS) 2) !=1)=false:=bne_eq_false_iff_eq.mpr c6;clear c6;have dr:=eq_true (odt:0≤J);obtain⟨aT,a8⟩:∃j_:Int,(shr .i64 a1 J)=j_:=⟨_,rfl⟩;replace H:(if(Int.tmod (aT) 2)=1 then(laws_both.l0 k1 a0 a1 (wrap64 (aE+(shl .i64 1 J))) (wrap64 (J+1)))else(laws_both.l0 k1 a0 a1 aE (wrap64 (J+1))))=some r:=by first|(rw[a8]at H;exact H)|(simp only[a8]at H⊢;exact H)
     have cY:(a1/2^min J.toNat 64)=aT:=a8;have da:J≤64→(a1/2^J.toNat)=aT:=shr_small a8;by_cases c9:(Int.tmod (aT) 2)=1
     ·rw[if_pos c9]at H;have cx:((Int.tmod (aT) 2)==1)=true:=beq_iff_eq.mpr c9;have cy:((Int.tmod (aT) 2) !=1)=false:=bne_eq_false_iff_eq.mpr c9;clear c9;have db:=eq_true (odt:0≤J);obtain⟨aK,aQ⟩:∃j_:Int,(shl .i64 1 J)=j_:=⟨_,rfl⟩;replace H:(laws_both.l0 k1 a0 a1 (wrap64 (aE+(aK))) (wrap64 (J+1)))=some r:=by first|(rw[aQ]at H;exact H)|(simp only[aQ]at H⊢;exact H)
      have ba:(IntKind.i64.wrap (1*2^min J.toNat 64))=aK:=aQ;have bb:J≤64→(IntKind.i64.wrap (1*2^J.toNat))=aK:=shl_small aQ;have cC:(IntKind.i64.wrap (2^min J.toNat 64))=aK:=by have h_:=ba;rw[Int.one_mul]at h_;exact h_
      have cD:J≤64→(IntKind.i64.wrap (2^J.toNat))=aK:=fun cz=>by have h_:=bb cz;rw[Int.one_mul]at h_;exact h_
      have cE:(wrap64 (1*2^min J.toNat 64))=aK:=(i64_w _).symm.trans ba;have cF:J≤64→(wrap64 (1*2^J.toNat))=aK:=fun h_=>(i64_w _).symm.trans (bb h_)
      have H':=Asd.mk H;clear H;go_wp2;go_roundg k1
      case measure=>have:=bc.out;omega
      case rel=>exact⟨(wrap64 (aE+(aK))),(wrap64 (J+1)),(by first|rfl|(simp;done)|(simp only[←aQ]<;>(first|rfl|simp))|(simp[*];done)),(by first|rfl|(simp;done)|(simp[*];done)),H',⟨by have:=bc.out;omega⟩,by repeat(first|exact Drawn0.refl _|apply Drawn0.step)⟩
     ·rw[if_neg c9]at H;have cx:((Int.tmod (aT) 2)==1)=false:=beq_eq_false_iff_ne.mpr c9;have cy:((Int.tmod (aT) 2) !=1)=true:=bne_iff_ne.mpr c9;have H':=Asd.mk H;clear H;go_wp2;go_roundg k1
      case measure=>have:=bc.out;omega
      case rel=>exact⟨(aE),(wrap64 (J+1)),(by first|rfl|(simp;done)|(simp[*];done)),(by first|rfl|(simp;done)|(simp[*];done)),H',⟨by have:=bc.out;omega⟩,by repeat(first|exact Drawn0.refl _|apply Drawn0.step)⟩
    ·rw[if_neg c6]at H;have cv:((Int.tmod (aS) 2)==1)=false:=beq_eq_false_iff_ne.mpr c6;have cw:((Int.tmod (aS) 2) !=1)=true:=bne_iff_ne.mpr c6;have H':=Asd.mk H;clear H;go_wp2;go_roundg k1
     case measure=>have:=bc.out;omega
     case rel=>exact⟨(aE),(wrap64 (J+1)),(by first|rfl|(simp;done)|(simp[*];done)),(by first|rfl|(simp;done)|(simp[*];done)),H',⟨by have:=bc.out;omega⟩,by repeat(first|exact Drawn0.refl _|apply Drawn0.step)⟩
   ·rw[if_neg c3]at H;have cu:decide (J<8)=false:=decide_eq_false c3;clear c3;obtain rfl:=Option.some.inj H;go_wp2;go_ret;exact⟨by first|rfl|(simp;done)|(simp[*];done),by repeat(first|exact Drawn0.refl _|apply Drawn0.step)⟩

/-! ### laws_within: function 67 -/
def laws_within.f (k:Nat) (a0:Int) (a1:Int):Option (Bool):=(laws_both.f k a0 a1).bind fun aU=>(some (aU==a0))
theorem laws_within.mono:∀a0 a1 k,LeO (laws_within.f k a0 a1) (laws_within.f (k+1) a0 a1):=by
 intro a0 a1 k;unfold laws_within.f
 repeat' first
   |(with_reducible first|exact laws_both.mono _ _ _|exact LeO.refl _|exact LeO.none _|refine LeO.ite ?_ ?_|refine LeO.bind ?_ (fun _=>?_))
   |refine LeO.ite ?_ ?_
   |refine LeO.bind ?_ (fun _=>?_)
set_option maxHeartbeats 8000000 in
set_option maxRecDepth 100000 in
theorem laws_within.calls (k:Nat) (a0:Int) (a1:Int) (r:Bool) (w:World) (h:laws_within.f k a0 a1=some r):
  Calls Try.prog 67 #[.int .i64 a0,.int .i64 a1] w fun e w'=>e= .returned (.bool r)∧Drawn0 w w':=by
 have H:((laws_both.f k a0 a1).bind fun aU=>(some (aU==a0)))=some r:=h;clear h;replace H:=Option.bind_eq_some_iff.mp H;obtain⟨aU,aR,H⟩:=H;try dsimp only at H
 have A3:=Asd.mk aR;clear aR;obtain rfl:=Option.some.inj H;go_enter Try.func67,Try.ntmps67;go_wp2_with (first|((with_reducible refine gate_callee (f:=113) rfl ?_);refine gsM (some 7) rfl rfl Try.func113 (by kernel_rfl) rfl #[.int .i64 a0,.int .i64 a1] rfl ?_;(with_reducible refine(laws_both.calls k a0 a1 aU _ A3.out).mono ?_);rintro e w' ⟨rfl,⟨nd,rfl⟩⟩;refine⟨_,rfl,?_⟩));go_ret;exact⟨by first|rfl|(simp;done)|(simp[*];done),by repeat(first|exact Drawn0.refl _|apply Drawn0.step)⟩

/-! ### impl_coreOf: function 114 (by hand) -/
def impl_coreOf.p (l1:List Int) (x:Int):Option Bool:=if 0≤x then(if x<(l1.length:Int)then some (decide (rd l1 x=0))else none)else none
def impl_coreOf.f (a0:Int) (l1:List Int):Option Int:=impl_setThat.f (impl_coreOf.p l1) a0
set_option maxHeartbeats 2000000 in
theorem impl_coreOf.gives (w:World) (B:Nat) (A1:Option Addr) (c1:Nat) (l1:List Int) (aV:Kd.C (Kd.int .i64) w A1 l1.length l1) (hB:B<w.heap.size)
  (hd:w.cell? ⟨B,0,none⟩=some (.slice A1 l1.length c1)):
  Hof.GivesI 138 #[.pointer (some ⟨B,0,none⟩)] (impl_coreOf.p l1) w:=fun W x b hb hp=>by
 have hd':=(hb.cell (p:=⟨B,0,none⟩) hB).trans hd;have cA:=Asd.mk (Below.refl W.heap.size W);have HR:=Asd.mk (Kd.C_below aV hb);clear hd hb aV hB;unfold impl_coreOf.p at hp;by_cases h0:0≤x
 ·rw[if_pos h0]at hp;by_cases h1:x<(l1.length:Int)
  ·rw[if_pos h1]at hp;obtain rfl:=Option.some.inj hp;obtain⟨ad,e,hx⟩:=Kd.at_int HR.out x h0 h1;cases e;clear hp;have p0:=eq_true h0;have p1:=eq_true h1;have dt:decide (0≤x)=true:=decide_eq_true h0;have du:decide (x<(l1.length:Int))=true:=decide_eq_true h1;clear h0 h1;by_cases hg:rd l1 x=0
   ·have dc:(rd l1 x==0)=true:=beq_iff_eq.mpr hg;have bw:decide (rd l1 x=0)=true:=decide_eq_true hg;clear hg;go_enter Try.func138,Try.ntmps138;go_wp2;repeat(go_quiet (fail);try go_wp2)
    go_ret;exact⟨by rw[bw];rfl,wZ cA⟩
   ·have dc:(rd l1 x==0)=false:=beq_eq_false_iff_ne.mpr hg;have bw:decide (rd l1 x=0)=false:=decide_eq_false hg;clear hg;go_enter Try.func138,Try.ntmps138;go_wp2;repeat(go_quiet (fail);try go_wp2)
    go_ret;exact⟨by rw[bw];rfl,wZ cA⟩
  ·rw[if_neg h1]at hp;cases hp
 ·rw[if_neg h0]at hp;cases hp
set_option maxHeartbeats 4000000 in
theorem impl_coreOf.calls (a0:Int) (A1:Option Addr) (c1:Nat) (l1:List Int) (r:Int) (w:World) (aV:Kd.C (Kd.int .i64) w A1 l1.length l1) (bg:l1.length≤c1) (h:impl_coreOf.f a0 l1=some r):
  Calls Try.prog 114 #[.int .i64 a0,.slice A1 l1.length c1] w fun e w'=>e= .returned (.int .i64 r)∧Below w.heap.size w w':=by
 have HR:=Asd.mk aV;have HB:=Asd.mk (Below.refl w.heap.size w);unfold impl_coreOf.f at h;have HT:=Asd.mk (fun W hg=>impl_setThat.calls 138 #[.pointer (some ⟨w.heap.size,0,none⟩)] (Hof.enters Try.func138 (by kernel_rfl) rfl) (impl_coreOf.p l1) a0 r W hg h);clear h aV bg;have HW:=Asd.mk (bwA HB.out (.cells #[.slice A1 l1.length c1] 55));go_enter Try.func114,Try.ntmps114;go_wp2_with fail;refine(HT.out _ (impl_coreOf.gives _ w.heap.size A1 c1 l1 (Kd.C_below HR.out HW.out) (by simp) (by simp))).mono ?_;rintro e w3 ⟨rfl,dd⟩;go_wp2;go_ret;exact⟨rfl,below_then HW.out HW.out.size dd⟩

/-! ### impl_CoreOf: function 68 -/
def impl_CoreOf.f (k:Nat) (a0:Int) (l1:List Int):Option (Int):=(impl_isRank.f k a0 l1).bind fun aW=>(if aW=true then((impl_coreOf.f a0 l1).bind fun aY=>(some aY))else(some (-1)))
theorem impl_CoreOf.mono:∀a0 a1 k,LeO (impl_CoreOf.f k a0 a1) (impl_CoreOf.f (k+1) a0 a1):=by
 intro a0 a1 k;unfold impl_CoreOf.f
 repeat' first
   |(with_reducible first|exact impl_isRank.mono _ _ _|exact LeO.refl _|exact LeO.none _|refine LeO.ite ?_ ?_|refine LeO.bind ?_ (fun _=>?_))
   |refine LeO.ite ?_ ?_
   |refine LeO.bind ?_ (fun _=>?_)
set_option maxHeartbeats 8000000 in
set_option maxRecDepth 100000 in
theorem impl_CoreOf.calls (k:Nat) (a0:Int) (A1:Option Addr) (c1:Nat) (l1:List Int) (r:Int) (w:World) (aV:Kd.C (Kd.int .i64) w A1 l1.length l1) (bg:l1.length≤c1) (h:impl_CoreOf.f k a0 l1=some r):
  Calls Try.prog 68 #[.int .i64 a0,.slice A1 l1.length c1] w fun e w'=>e= .returned (.int .i64 r)∧Below w.heap.size w w':=by
 have bx:=Asd.mk aV;have bz:=Asd.mk bg;clear aV bg;have HB:=Asd.mk (Below.refl w.heap.size w);have H:((impl_isRank.f k a0 l1).bind fun aW=>(if aW=true then((impl_coreOf.f a0 l1).bind fun aY=>(some aY))else(some (-1))))=some r:=h;clear h;replace H:=Option.bind_eq_some_iff.mp H;obtain⟨aW,aR,H⟩:=H;try dsimp only at H
 have A3:=Asd.mk aR;clear aR;by_cases c4:aW=true
 ·subst c4;rw[if_pos rfl]at H;replace H:=Option.bind_eq_some_iff.mp H;obtain⟨aY,cB,H⟩:=H;try dsimp only at H
  have A5:=Asd.mk cB;clear cB;obtain rfl:=Option.some.inj H;go_enter Try.func68,Try.ntmps68;go_wp2_with (first|((with_reducible refine gate_callee (f:=90) rfl ?_);refine gsM (some 7) rfl rfl Try.func90 (by kernel_rfl) rfl #[.int .i64 a0,.slice A1 l1.length c1] rfl ?_;(with_reducible refine(impl_isRank.calls k a0 _ _ l1 true _ ?side1 ?side2 A3.out).mono ?_);(case side1=>exact cZ bx.out);(case side2=>exact bz.out);rintro e w6 ⟨rfl,hb⟩;refine⟨_,rfl,?_⟩;replace HB:=bW HB hb;(try clear hb);(try clear aL);(try clear hk);(try clear hi))|((with_reducible refine gate_callee (f:=114) rfl ?_);refine gsM (some 11) rfl rfl Try.func114 (by kernel_rfl) rfl #[.int .i64 a0,.slice A1 l1.length c1] rfl ?_;(with_reducible refine(impl_coreOf.calls a0 _ _ l1 aY _ ?side1 ?side2 A5.out).mono ?_);(case side1=>exact cZ (Kd.C_below bx.out HB.out));(case side2=>exact bz.out);rintro e w7 ⟨rfl,hb⟩;refine⟨_,rfl,?_⟩;replace HB:=bW HB hb;(try clear hb);(try clear aL);(try clear hk);(try clear hi)));go_ret;exact⟨by first|rfl|(simp[*,errW_none,errW_some]<;>rfl),wZ HB⟩
 ·replace c4:=Bool.eq_false_iff.mpr c4;subst c4;rw[if_neg (show¬(false=true) by decide)]at H;obtain rfl:=Option.some.inj H;go_enter Try.func68,Try.ntmps68;go_wp2_with (first|((with_reducible refine gate_callee (f:=90) rfl ?_);refine gsM (some 7) rfl rfl Try.func90 (by kernel_rfl) rfl #[.int .i64 a0,.slice A1 l1.length c1] rfl ?_;(with_reducible refine(impl_isRank.calls k a0 _ _ l1 false _ ?side1 ?side2 A3.out).mono ?_);(case side1=>exact cZ bx.out);(case side2=>exact bz.out);rintro e w8 ⟨rfl,hb⟩;refine⟨_,rfl,?_⟩;replace HB:=bW HB hb;(try clear hb);(try clear aL);(try clear hk);(try clear hi)));go_ret;exact⟨by first|rfl|(simp[*,errW_none,errW_some]<;>rfl),wZ HB⟩

end Go.Proofs.Ytihgpkohglcijaa.P
