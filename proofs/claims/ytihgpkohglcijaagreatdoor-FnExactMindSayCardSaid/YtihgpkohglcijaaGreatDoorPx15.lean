import Derived.Test.YtihgpkohglcijaaGreatDoorPx0
import Derived.Test.YtihgpkohglcijaaGreatDoorPx2
import Derived.Test.YtihgpkohglcijaaGreatDoorPx3
import Derived.Test.YtihgpkohglcijaaGreatDoorPx14
namespace Go.Proofs.YtihgpkohglcijaaGreatDoor.P
open Go.RowKit Go.Proofs.YtihgpkohglcijaaGreatDoorW.PrintWords Go.Proofs.YtihgpkohglcijaaGreatDoorW.PrintLast Go.Proofs.YtihgpkohglcijaaGreatDoorW.PrintMore
attribute [local go_sem] max2_int min2_int max_two min_two max_three min_three max_four min_four   -- for this text's walks alone
set_option linter.unusedVariables false
set_option linter.unusedSimpArgs false
set_option maxHeartbeats 8000000
set_option maxRecDepth 100000
mutual
def lg.j0:Nat→List ByteArray→Bool→Int→List Int→List (List Int)→Option (Int×List Int×(List (List Int))×List ByteArray)
 |0,_,_,_,_,_=>none
 |k+1,x1,x18,yS,yT,yU=>if x18=true then(some (0,([]:List Int),([]:List (List Int)),([]:List ByteArray)))else((jU.f k yS yT yU).bind fun bw=>(lg.l0 k (([]:List ByteArray)) x1 (x1.length:Int) 0 bw.1 bw.2.1 bw.2.2))
def lg.l0:Nat→List ByteArray→List ByteArray→Int→Int→Int→List Int→List (List Int)→Option (Int×List Int×(List (List Int))×List ByteArray)
 |0,_,_,_,_,_,_,_=>none
 |k+1,x6,Dl,x24,x25,yS,yT,yU=>if x25<x24 then(if 0≤x25 then(if x25<(Dl.length:Int)then((rP.f k yS yT yU (rdOf ByteArray.empty Dl x25)).bind fun a6=>(if x6.length<8796093022208 then(lg.l0 k (x6++ [a6.2.2.2]) Dl x24 (wrap64 (x25+1)) a6.1 a6.2.1 a6.2.2.1)else(none)))else(none))else(none))else(some (yS,yT,yU,x6))
end
def lg.f (k:Nat) (ad:Int) (aa:List Int) (ab:List (List Int)) (l1:List ByteArray):Option (Int×List Int×(List (List Int))×List ByteArray):=(qf.f k ad aa ab).bind fun bg=>(if bg=true then(lg.j0 k l1 (decide ((l1.length:Int)>40)) ad aa ab)else(lg.j0 k l1 true ad aa ab))
theorem lg.jQ:∀k,(∀y0 y1 y2 y3 y4,qg (lg.j0 k y0 y1 y2 y3 y4) (lg.j0 (k+1) y0 y1 y2 y3 y4))∧(∀y0 y1 y2 y3 y4 y5 y6,qg (lg.l0 k y0 y1 y2 y3 y4 y5 y6) (lg.l0 (k+1) y0 y1 y2 y3 y4 y5 y6))
 |0=>⟨fun _ _ _ _ _=> .z (by simp only[lg.j0]),fun _ _ _ _ _ _ _=> .z (by simp only[lg.l0])⟩
 |k+1=>by
  have⟨i0,i1⟩:=lg.jQ k;exact⟨fun _ _ _ _ _=>by unfold lg.j0;infer_instance,fun _ _ _ _ _ _ _=>by unfold lg.l0;infer_instance⟩
instance lg.mo {k a0 a1 a2 a3}:qg (lg.f k a0 a1 a2 a3) (lg.f (k+1) a0 a1 a2 a3):=by have⟨i0,i1⟩:=lg.jQ k;unfold lg.f;infer_instance
theorem lg.calls (k:Nat) (ad:Int) (aC:Option Addr) (aD:Nat) (aa:List Int) (aE:Option Addr) (aG:Nat) (ab:List (List Int)) (A1:Option Addr) (c1:Nat) (l1:List ByteArray) (r1:Int) (r2:List Int) (r3:List (List Int)) (r4:List ByteArray) (w:World) (m:Int) (hm:w.cell? ⟨0,0,none⟩=some (.int .i64 m)) (cc:Kd.C (Kd.int .i64) w aC aa.length aa) (cd:aa.length≤aD) (cf:Kd.C (Kd.slice 3 (Kd.int .i64)) w aE ab.length ab) (cg:ab.length≤aG) (bh:Kd.C Kd.string w A1 l1.length l1) (bj:l1.length≤c1) (h:lg.f k ad aa ab l1=some (r1,r2,r3,r4)):
  Calls Tryz.prog 19 #[.agg #[.int .i64 ad,.slice aC aa.length aD,.slice aE ab.length aG],.slice A1 l1.length c1] w fun e w'=>∃cP dn dp:Value,e= .returned (.tuple #[.agg #[.int .i64 r1,cP,dn],dp])∧Kd.R (Kd.int .i64) 3 w' w.heap.size (fun _=>True) cP r2∧Kd.S (Kd.slice 3 (Kd.int .i64)) 23 w' w.heap.size (fun k_=>some k_≠(cP:Value).ownBlock) dn r3∧Kd.R Kd.string 9 w' w.heap.size (fun _=>True) dp r4∧Below w.heap.size w w':=by
 have fF:=Tryz.underlying26;have bx:=bm cc;have bz:=bm cd;clear cc cd;have bA:=bm cf;have bB:=bm cg;clear cf cg;have aU:=bm bh;have cQ:=bm bj;clear bh bj;have HB:=bm (Below.refl w.heap.size w);have HM:=bm (fun W (hb:Below w.heap.size w W)=>(hb.cell (World.block_lt_of_cell? _ _ hm)).trans hm);clear hm;have H:=h;clear h;unfold lg.f at H;have cR:=bm H;clear H;go_enter Tryz.func19,Tryz.ntmps19;go_upto_region 1 with(first|((with_reducible refine gate_dst (N:=2) rfl ?_);(try(refine gate_guard (by rfl) ?_;dsimp only));refine rz 2 #[.int .i64 ad,.slice aC aa.length aD,.slice aE ab.length aG] 26 ?_;intro bD hg w4 az hb;have j:=bm (az);have fb:=bG HB hg;replace HB:=bW HB hb;clear hb az hg)|((with_reducible refine gate_dst (N:=4) rfl ?_);(try(refine gate_guard (by rfl) ?_;dsimp only));refine rz 4 #[.int .i64 0,.slice none 0 0,.slice none 0 0] 26 ?_;intro a7 hg w5 az hb;have I:=bm (az);have fc:=bG HB hg;replace HB:=bW HB hb;have af:=bL j hg;have ag:=bM j hg;replace j:=bU j hb;clear hb az hg))
 (try simp only[Act.put,qA,qB,qC]);go_cut [18] (fun fe wc=>∃(kq:Nat) (a8:Bool),fe= .bool a8∧jX (lg.j0 kq l1 a8 ad aa ab=some (r1,r2,r3,r4))∧jX (kq≤k)∧rG wc bD #[.int .i64 ad,(.slice aC aa.length aD),(.slice aE ab.length aG)] 26∧rG wc a7 #[.int .i64 0,(.slice none 0 0),(.slice none 0 0)] 26∧jX (Below w.heap.size w wc))
 case first=>
  have H:=cR.out;clear cR;obtain⟨bg,A6,H⟩:=bE H;try dsimp only at H
  by_cases c7:bg=true
  ·subst c7;rw[if_pos rfl]at H;have H':=bm H;clear H;obtain⟨_,_⟩:=vN af ag;obtain⟨e1,e2,e3,e4,e5,e6⟩:=b3 j;go_wp2_with (first|(refine gB (some 12) Tryz.func43 #[.agg #[.int .i64 ad,.slice aC aa.length aD,.slice aE ab.length aG]] rfl ?_;(with_reducible refine(qf.calls k ad _ _ aa _ _ ab true _ ?_ ?_ ?_ ?_ A6.out).mono ?_);exact cY bx HB;exact bz.out;exact cY bA HB;exact bB.out;rintro e fQ ⟨rfl,hb⟩;refine⟨_,rfl,?_⟩;replace j:=bU j hb;replace I:=bU I hb;replace HB:=bW HB hb;clear hb));go_meet
   case rel=>exact⟨_,(decide ((l1.length:Int)>40)),(by first|rfl|(simp;done)|(simp[*];done)),H',⟨by first|omega|exact Nat.le_refl _⟩,⟨kS j⟩,⟨kS I⟩,⟨wZ HB⟩⟩
  ·replace c7:=uZ c7;subst c7;rw[if_neg vM]at H;have H':=bm H;clear H;obtain⟨_,_⟩:=vN af ag;obtain⟨dq,dr,ds,dt,du,dv⟩:=b3 j;go_wp2_with (first|(refine gB (some 12) Tryz.func43 #[.agg #[.int .i64 ad,.slice aC aa.length aD,.slice aE ab.length aG]] rfl ?_;(with_reducible refine(qf.calls k ad _ _ aa _ _ ab false _ ?_ ?_ ?_ ?_ A6.out).mono ?_);exact cY bx HB;exact bz.out;exact cY bA HB;exact bB.out;rintro e fR ⟨rfl,hb⟩;refine⟨_,rfl,?_⟩;replace j:=bU j hb;replace I:=bU I hb;replace HB:=bW HB hb;clear hb));go_meet
   case rel=>exact⟨_,(true),(by first|rfl|(simp;done)|(simp[*];done)),H',⟨by first|omega|exact Nat.le_refl _⟩,⟨kS j⟩,⟨kS I⟩,⟨wZ HB⟩⟩
 case rest=>
  clear cR;obtain⟨kq,a8,rfl,HA,dw,j,I,HB⟩:=hcut;cases kq with
  |zero=>exact absurd HA.out (by simp[lg.j0])
  |succ AE=>
   have H:=HA.out;clear HA;simp only[lg.j0]at H;by_cases ba:a8=true
   ·subst ba;rw[if_pos rfl]at H;obtain⟨rfl,rfl,rfl,rfl⟩:=s4 H;obtain⟨_,_⟩:=vN ag af;obtain⟨dx,dy,dz,dA,dB,dC⟩:=b3 I;go_wp2;refine bodyPost_ret (results_ct rfl _ _ a7 26 #[.int .i64 0,.slice none 0 0,.slice none 0 0] (0,0) _ rfl (kP I) Tryz.underlying26 rfl (by kernel_rfl)) rfl ?_;exact⟨_,_,_,by first|rfl|(simp[*,jS,jT]<;>rfl),by first|exact Kd.R_nil _ _ _ _ _|exact Kd.N_nil _ _ _ _ _|exact Kd.V_nil _ _ _ _ _|exact Kd.Q_nil _ _ _ _ _|exact Kd.S_nil _ _ _ _ _,by first|exact Kd.S_nil _ _ _ _ _|exact Kd.N_nil _ _ _ _ _|exact Kd.V_nil _ _ _ _ _|exact Kd.Q_nil _ _ _ _ _|exact Kd.R_nil _ _ _ _ _,by first|exact Kd.R_nil _ _ _ _ _|exact Kd.N_nil _ _ _ _ _|exact Kd.V_nil _ _ _ _ _|exact Kd.Q_nil _ _ _ _ _|exact Kd.S_nil _ _ _ _ _,wZ HB⟩
   ·replace ba:=uZ ba;subst ba;rw[if_neg vM]at H;obtain⟨⟨b6,bk,bl⟩,fj,H⟩:=bE H;try dsimp only at H
    obtain⟨cG,bF⟩:∃y_:List ByteArray,y_=(([]:List ByteArray)):=⟨_,rfl⟩;replace H:(lg.l0 AE cG l1 (l1.length:Int) 0 b6 bk bl)=some (r1,r2,r3,r4):=by first|(rw[bF];exact H)|exact H
    have ch:=bm bF;clear bF;have H':=bm H;clear H;obtain⟨_,_⟩:=vN af ag;obtain⟨dD,dE,dF,dG,dH,dI⟩:=b3 j;go_wp2_with (first|(refine gB (some 21) Tryz.func70 #[.agg #[.int .i64 ad,.slice aC aa.length aD,.slice aE ab.length aG]] rfl ?_;(with_reducible refine(jU.calls AE ad _ _ aa _ _ ab b6 bk bl _ ?_ ?_ ?_ ?_ fj.out).mono ?_);exact cY bx HB;exact bz.out;exact cY bA HB;exact bB.out;rintro e fS ⟨fI,fJ,rfl,bH,cb,hb⟩;refine⟨_,rfl,?_⟩;have bb:=vX bH HB;have bc:=vk cb HB;replace j:=bU j hb;replace I:=bU I hb;replace HB:=bW HB hb;clear hb;(try clear bH);(try clear cb);obtain⟨dJ,dK,dL,dM,dN,dO⟩:=b3 j;obtain⟨cH,cI,dP⟩:=Kd.R_slice bb.out;subst dP;obtain⟨cJ,cK,dQ⟩:=Kd.S_slice bc.out;subst dQ)|((with_reducible refine gate_dst (N:=22) rfl ?_);(try(refine gate_guard (by rfl) ?_;dsimp only));refine Kd.R_lit Kd.string _ 9 ?hg (N:=22) ?hd (xs:=([]:List ByteArray)) (inner:=[]) (ok:=fun _=>True) (okp:=fun _=>True) ?hr ?hp (fun _ hk=>hk) trivial (Below.refl _ _) (Nat.le_refl _) (by simp) ?_;(case hd=>rfl);(case hg=>rfl);(case hr=>first|(go_simp;done)|(go_simp;rfl));(case hp=>exact(Reps.none _ _));intro fK fT bn hb cS bJ;clear cS bJ;(first|rw[←ch.out]at bn|(simp only[Int.reduceToNat]at bn;rw[←ch.out]at bn));replace bb:=bm (Kd.R_below (rT bb) hb);replace bc:=bm (Kd.S_below (sT bc) hb);have cT:=vX bn HB;replace j:=bP #[.int .i64 b6,.slice cH bk.length cI,.slice cJ bl.length cK] j hb;replace I:=bU I hb;replace HB:=bW HB hb;clear hb bn));go_loopg [6,25] AE (fun kq v6 fm w'=>∃(bo:List ByteArray) (an:Int) (ah:Int) (ai:List Int) (aj:List (List Int)) (av:Value) (aH:Value),fm= .int .i64 an∧jX (lg.l0 kq bo l1 (l1.length:Int) an ah ai aj=some (r1,r2,r3,r4))∧jX (kq≤AE)∧jX (Kd.R Kd.string 9 w' w.heap.size (fun _=>True) v6 bo)∧jX (Kd.R (Kd.int .i64) 3 w' w.heap.size (fun _=>True) av ai)∧jX (Kd.S (Kd.slice 3 (Kd.int .i64)) 23 w' w.heap.size (fun k_=>some k_≠(av:Value).ownBlock) aH aj)∧jX (w'.heap[bD]?=some (.cells #[.int .i64 ah,av,aH] 26 (0,0)))∧jX (w'.heap[a7]?=some (.cells #[.int .i64 0,(.slice none 0 0),(.slice none 0 0)] 26 (0,0)))∧jX (Below w.heap.size w w'))
    case atStart=>exact⟨(cG),(0),(b6),(bk),(bl),(.slice cH bk.length cI),(.slice cJ bl.length cK),(by first|rfl|(simp;done)|(simp[*];done)),H',⟨Nat.le_refl _⟩,⟨by(repeat apply Kd.RS);exact cT.out⟩,⟨by(repeat apply Kd.RS);exact bb.out⟩,⟨by(repeat apply Kd.SS);exact bc.out⟩,⟨kS j⟩,⟨kS I⟩,⟨wZ HB⟩⟩
    case round=>
     clear H';obtain⟨bo,an,ah,ai,aj,av,aH,rfl,HA,dR,rV,sk,sv,j,I,HB⟩:=hrel;cases gk with
     |zero=>exact absurd HA.out (by simp[lg.l0])
     |succ k2=>
      have H:=HA.out;clear HA;simp only[lg.l0]at H;rcases vG H with⟨cU,H⟩|⟨cU,H⟩
      ·obtain⟨fo,H⟩:=vE H;obtain⟨fp,H⟩:=vE H;obtain⟨⟨bp,aY,aZ,b7⟩,fq,H⟩:=bE H;try dsimp only at H
       obtain⟨dU,H⟩:=iN H;have cV:=bm dU;clear dU;obtain⟨cL,bO⟩:∃y_:List ByteArray,y_=(bo++ [b7]):=⟨_,rfl⟩;rw[←bO]at H
       have cW:=bm bO;clear bO;have H':=bm H;clear H;have ck:0≤(an:Int):=pG;have cl:an<(l1.length:Int):=pG;obtain⟨fr,dV,aI⟩:=Kd.at_string aU.out an ck cl;cases dV;replace aI:=vA HB aI;replace ck:=vD ck;replace cl:=vD cl;obtain⟨_,_⟩:=vN af ag;obtain⟨dW,dX,dY,dZ,ea,eb⟩:=b3 j;obtain⟨ec,ed,ee⟩:=Kd.R_slice sk.out;subst ee;obtain⟨ef,eg,eh⟩:=Kd.S_slice sv.out;subst eh;go_wp2_with (first|(refine gB (some 32) Tryz.func44 #[.agg #[.int .i64 ah,.slice ec ai.length ed,.slice ef aj.length eg],.string (rdOf ByteArray.empty l1 an)] rfl ?_;(with_reducible refine(rP.calls k2 ah _ _ ai _ _ aj (rdOf ByteArray.empty l1 an) bp aY aZ b7 _ m (HM.out _ (wZ HB)) ?_ ?_ ?_ ?_ fq.out).mono ?_);exact cZ (Kd.R_reads' sk.out).2.2;exact(Kd.R_reads' sk.out).2.1;exact cZ (Kd.S_reads' sv.out).2.2;exact(Kd.S_reads' sv.out).2.1;rintro e fU ⟨fL,fM,rfl,bH,cb,hb⟩;refine⟨_,rfl,?_⟩;replace rV:=bR rV hb;have ax:=bm (Kd.R_lower (Kd.R_new' bH (Kd.R_lt (rS sk))) (below_size (wZ HB)));have ay:=bm (Kd.S_lower (Kd.S_new' (Kd.S_new' cb (Kd.R_lt (rS sk))) (Kd.S_lt (sS sv))) (below_size (wZ HB)));replace sk:=bm (Kd.R_elder' (rS sk) (Kd.R_base bH) hb);replace sv:=bm (Kd.S_mono (Kd.S_told (Kd.S_told (Kd.S_old (sS sv) hb) (Kd.R_base bH)) (Kd.S_base cb)) (fun _ h_=>h_.1));replace j:=bU j hb;replace I:=bU I hb;replace HB:=bW HB hb;clear hb;(try clear bH);(try clear cb))|((with_reducible refine gate_dst (N:=9) rfl ?_);(try(refine gate_guard (by rfl) ?_;dsimp only));refine rz 9 #[.int .i64 0,.slice none 0 0,.slice none 0 0] 26 ?_;intro cX hg fV az hb;replace rV:=bR rV hb;replace sk:=bR sk hb;replace sv:=bS sv hb;replace ax:=bR ax hb;replace ay:=bS ay hb;have bd:=bm (az);have fu:=bG HB hg;replace HB:=bW HB hb;have bT:=bL j hg;have bV:=bM j hg;replace j:=bU j hb;have bZ:=bL I hg;have b0:=bM I hg;replace I:=bU I hb;clear hb az hg;obtain⟨_,_,_,_⟩:=vP bV bT b0 bZ;obtain⟨ei,ej,ek,el,en,eo⟩:=b3 bd;obtain⟨cm,cn,ep⟩:=Kd.R_slice ax.out;subst ep;obtain⟨cp,cq,er⟩:=Kd.S_slice ay.out;subst er;obtain⟨et,eu,ev,ew,ey,ez⟩:=b3 j)|((with_reducible refine gate_builtin (b:=.append) (xs:= #[.tmp 36,.tmp 38]) rfl ?_);(try(refine gate_guard (by rfl) ?_;dsimp only));at_builtin;refine Kd.R_append Kd.string (w0:=w) w.heap.size rfl (.tmp 36) (.tmp 38) 37 9 (.string ⟨#[]⟩) 16 rfl Tryz.underlying37 info9 rfl (by decide) (by omega) u6 bo b7 [.string b7] (fun _=>True) (fun _=>False) rfl (by first|(go_simp;done)|(go_simp;rfl)) ?aP (fun _ hk=>hk.elim) ?aF ?aO ?aB ?aS ?aL ?_;(case aP=>exact rfl);(case aB=>exact(wZ HB));(case aF=>exact(fun _ _=>trivial));(case aO=>exact(rT rV));(case aS=>exact(below_size (wZ HB)));(case aL=>have:=cV.out;omega);intro fN fW ho hb hg c0;rw[←cW.out]at ho;replace sk:=bm (Kd.R_over' (rT sk) (Kd.R_typed (rT rV)) (by decide) hg);replace sv:=bm (Kd.S_over' (sT sv) (Kd.R_typed (rT rV)) (by decide) hg);replace ax:=bm (Kd.R_over' (rT ax) (Kd.R_typed (rT rV)) (by decide) hg);replace ay:=bm (Kd.S_over' (sT ay) (Kd.R_typed (rT rV)) (by decide) hg);replace j:=bm (blk_grown (g:=bD) (o:=.cells #[.int .i64 bp,.slice cm aY.length cn,.slice cp aZ.length cq] 26 (0,0)) (kP j) hg (Kd.R_ne rV.out j.out (by decide)));replace I:=bN I hg (Kd.R_ne rV.out I.out (by decide));replace bd:=bm (blk_grown (g:=cX) (o:=.cells #[.int .i64 bp,.slice cm aY.length cn,.slice cp aZ.length cq] 26 (0,0)) (kP bd) hg (Kd.R_ne rV.out bd.out (by decide)));replace HB:=bm (hb);have da:=bm (ho);clear rV;clear ho hb hg c0))
       go_roundg k2
       case measure=>have:=dw.out;have:=dR.out;omega
       case rel=>exact⟨(cL),(wrap64 (an+1)),(bp),(aY),(aZ),(.slice cm aY.length cn),(.slice cp aZ.length cq),(by first|rfl|(simp;done)|(simp[*];done)),H',⟨by have:=dw.out;have:=dR.out;omega⟩,⟨by(repeat apply Kd.RS);exact da.out⟩,⟨by(repeat apply Kd.RS);exact Kd.R_mono ax.out (fun _ hk=>trivial)⟩,⟨by(repeat apply Kd.SS);exact Kd.S_mono ay.out (fun _ hk=>hk.1.1)⟩,⟨kS j⟩,⟨kS I⟩,⟨wZ HB⟩⟩
      ·obtain⟨rfl,rfl,rfl,rfl⟩:=s4 H;obtain⟨_,_⟩:=vN af ag;obtain⟨eA,eB,eC,eD,eE,eF⟩:=b3 j;obtain⟨eG,eH,eI,eJ,eK,eL⟩:=b3 I;obtain⟨eM,eN,eO⟩:=Kd.R_slice sk.out;subst eO;obtain⟨eP,eQ,eR⟩:=Kd.S_slice sv.out;subst eR;go_wp2;refine bodyPost_ret (results_ct rfl _ _ a7 26 #[.int .i64 ah,.slice eM ai.length eN,.slice eP aj.length eQ] (0,0) _ rfl (kP I) Tryz.underlying26 rfl (by kernel_rfl)) rfl ?_;exact⟨_,_,_,by first|rfl|(simp[*,jS,jT]<;>rfl),rT sk,sT sv,rT rV,wZ HB⟩
def qt.f (a0:Int) (a1:Int) (a2:Int):Option (Bool):=if a0≥a1 then(some (decide (a0≤a2)))else(some false)
theorem qt.calls (a0:Int) (a1:Int) (a2:Int) (r:Bool) (w:World) (h:qt.f a0 a1 a2=some r):
  Calls Tryz.prog 100 #[.int .i64 a0,.int .i64 a1,.int .i64 a2] w fun e w'=>e= .returned (.bool r)∧Drawn0 w w':=by
 have H:=h;clear h;unfold qt.f at H;rcases vG H with⟨cM,H⟩|⟨cM,H⟩
 ·obtain rfl:=vU H;go_enter Tryz.func100,Tryz.ntmps100;go_wp2;go_ret;exact vY
 ·obtain rfl:=vU H;go_enter Tryz.func100,Tryz.ntmps100;go_wp2;go_ret;exact vY
def kc.l0:Nat→Int→List Int→Int→Int→Option (Bool)
 |0,_,_,_,_=>none
 |k+1,x0,x1,x5,x6=>if x6<(x1.length:Int)then(if 0≤x6 then((qt.f (rd x1 x6) 0 9).bind fun cr=>(if cr=true then(kc.l0 k x0 x1 (mn x5 (rd x1 x6)) (wrap64 (x6+1)))else(some false)))else(none))else((qt.f x0 1 3).bind fun ct=>(if ct=true then(if 0≤x0 then(if(x1.length:Int)=(shl .i64 1 x0)then(some (x5==0))else(some false))else(none))else(some false)))
def kc.f (k:Nat) (a0:Int) (l1:List Int):Option (Bool):=kc.l0 k a0 l1 9 0
theorem kc.jQ:∀k,(∀y0 y1 y2 y3,qg (kc.l0 k y0 y1 y2 y3) (kc.l0 (k+1) y0 y1 y2 y3))
 |0=>fun _ _ _ _=> .z (by simp only[kc.l0])
 |k+1=>by
  have i0:=kc.jQ k;exact fun _ _ _ _=>by unfold kc.l0;infer_instance
instance kc.mo {k a0 a1}:qg (kc.f k a0 a1) (kc.f (k+1) a0 a1):=by have i0:=kc.jQ k;unfold kc.f;infer_instance
theorem kc.calls (k:Nat) (a0:Int) (A1:Option Addr) (c1:Nat) (l1:List Int) (r:Bool) (w:World) (bh:Kd.C (Kd.int .i64) w A1 l1.length l1) (bj:l1.length≤c1) (h:kc.f k a0 l1=some r):
  Calls Tryz.prog 103 #[.int .i64 a0,.slice A1 l1.length c1] w fun e w'=>e= .returned (.bool r)∧Below w.heap.size w w':=by
 have aU:=bm bh;have cQ:=bm bj;clear bh bj;have HB:=bm (Below.refl w.heap.size w);have H:=h;clear h;unfold kc.f at H;have H':=bm H;clear H;go_enter Tryz.func103,Tryz.ntmps103;go_wp2;go_loopg [5,6] k (fun kq v5 v6 w'=>∃(ae:Int) (J:Int),v5= .int .i64 ae∧v6= .int .i64 J∧jX (kc.l0 kq a0 l1 ae J=some r)∧jX (kq≤k)∧jX (Below w.heap.size w w'))
 case atStart=>exact⟨(9),(0),(by first|rfl|(simp;done)|(simp[*];done)),(by first|rfl|(simp;done)|(simp[*];done)),H',⟨Nat.le_refl _⟩,⟨wZ HB⟩⟩
 case round=>
  clear H';obtain⟨ae,J,rfl,rfl,HA,ar,HB⟩:=hrel;cases gk with
  |zero=>exact absurd HA.out (by simp[kc.l0])
  |succ k1=>
   have H:=HA.out;clear HA;simp only[kc.l0]at H;rcases vG H with⟨eS,H⟩|⟨eS,H⟩
   ·obtain⟨cM,H⟩:=vE H;obtain⟨cr,A5,H⟩:=bE H;try dsimp only at H
    by_cases c6:cr=true
    ·subst c6;rw[if_pos rfl]at H;obtain⟨eT,bq⟩:∃j_:Int,(mn ae (rd l1 J))=j_:=⟨_,rfl⟩;first|rw[bq]at H|simp only[bq]at H
     (try rw[bq]at A5);have fB:(if(rd l1 J)<ae then(rd l1 J)else ae)=eT:=bq;have H':=bm H;clear H;have aJ:0≤(J:Int):=pG;have aK:J<(l1.length:Int):=pG;obtain⟨cu,cv,ak⟩:=Kd.at_int aU.out J aJ aK;cases cv;replace ak:=vA HB ak;replace aJ:=vD aJ;replace aK:=vD aK;go_wp2_with (first|(refine gB (some 17) Tryz.func100 #[.int .i64 (rd l1 J),.int .i64 0,.int .i64 9] rfl ?_;(with_reducible refine(qt.calls (rd l1 J) 0 9 true _ A5.out).mono ?_);rintro e w' ⟨rfl,⟨nd,rfl⟩⟩;refine⟨_,rfl,?_⟩;have cw:0≤(J:Int):=pG;have cx:J<(l1.length:Int):=pG;obtain⟨db,eU,aM⟩:=Kd.at_int aU.out J cw cx;obtain rfl:cu=db:=(by injection eU);replace aM:=vA HB aM;replace cw:=vD cw;replace cx:=vD cx));go_roundg k1
     case measure=>have:=ar.out;omega
     case rel=>exact⟨(eT),(wrap64 (J+1)),(by first|rfl|(simp;done)|(simp only[←bq]<;>(first|rfl|simp))|(simp[*];done)),(by first|rfl|(simp;done)|(simp[*];done)),H',⟨by have:=ar.out;omega⟩,⟨wZ HB⟩⟩
    ·replace c6:=uZ c6;subst c6;rw[if_neg vM]at H;obtain rfl:=vU H;have aJ:0≤(J:Int):=pG;have aK:J<(l1.length:Int):=pG;obtain⟨cu,cv,ak⟩:=Kd.at_int aU.out J aJ aK;cases cv;replace ak:=vA HB ak;replace aJ:=vD aJ;replace aK:=vD aK;go_wp2_with (first|(refine gB (some 17) Tryz.func100 #[.int .i64 (rd l1 J),.int .i64 0,.int .i64 9] rfl ?_;(with_reducible refine(qt.calls (rd l1 J) 0 9 false _ A5.out).mono ?_);rintro e w' ⟨rfl,⟨nd,rfl⟩⟩;refine⟨_,rfl,?_⟩));go_ret;exact vZ HB
   ·obtain⟨ct,A8,H⟩:=bE H;try dsimp only at H
    by_cases c9:ct=true
    ·subst c9;rw[if_pos rfl]at H;obtain⟨dc,fC,H⟩:=vF H;obtain⟨aq,au⟩:∃j_:Int,(shl .i64 1 a0)=j_:=⟨_,rfl⟩;first|rw[au]at H|simp only[au]at H
     (try rw[au]at A8);have b8:(IntKind.i64.wrap (1*2^min a0.toNat 64))=aq:=au;have b9:a0≤64→(IntKind.i64.wrap (1*2^a0.toNat))=aq:=shl_small au;have e7:(IntKind.i64.wrap (2^min a0.toNat 64))=aq:=by have h_:=b8;rw[Int.one_mul]at h_;exact h_
     have e8:a0≤64→(IntKind.i64.wrap (2^a0.toNat))=aq:=fun eV=>by have h_:=b9 eV;rw[Int.one_mul]at h_;exact h_
     have e9:(wrap64 (1*2^min a0.toNat 64))=aq:=(i64_w _).symm.trans b8;have fa:a0≤64→(wrap64 (1*2^a0.toNat))=aq:=fun h_=>(i64_w _).symm.trans (b9 h_)
     rcases iT H with⟨aA,H⟩|⟨aA,H⟩
     ·obtain⟨b1,dd⟩:=vW aA;clear aA;obtain rfl:=vU H;go_wp2_with (first|(refine gB (some 26) Tryz.func100 #[.int .i64 a0,.int .i64 1,.int .i64 3] rfl ?_;(with_reducible refine(qt.calls a0 1 3 true _ A8.out).mono ?_);rintro e w' ⟨rfl,⟨nd,rfl⟩⟩;refine⟨_,rfl,?_⟩));go_ret;exact⟨by first|rfl|(simp[jS,jT]<;>rfl)|(simp only[←au];first|rfl|(simp[jS,jT]<;>rfl))|(simp[*,jS,jT]<;>rfl),wZ HB⟩
     ·obtain⟨b1,dd⟩:=vV aA;obtain rfl:=vU H;go_wp2_with (first|(refine gB (some 26) Tryz.func100 #[.int .i64 a0,.int .i64 1,.int .i64 3] rfl ?_;(with_reducible refine(qt.calls a0 1 3 true _ A8.out).mono ?_);rintro e w' ⟨rfl,⟨nd,rfl⟩⟩;refine⟨_,rfl,?_⟩));go_ret;exact⟨by first|rfl|(simp[jS,jT]<;>rfl)|(simp only[←au];first|rfl|(simp[jS,jT]<;>rfl))|(simp[*,jS,jT]<;>rfl),wZ HB⟩
    ·replace c9:=uZ c9;subst c9;rw[if_neg vM]at H;obtain rfl:=vU H;go_wp2_with (first|(refine gB (some 26) Tryz.func100 #[.int .i64 a0,.int .i64 1,.int .i64 3] rfl ?_;(with_reducible refine(qt.calls a0 1 3 false _ A8.out).mono ?_);rintro e w' ⟨rfl,⟨nd,rfl⟩⟩;refine⟨_,rfl,?_⟩));go_ret;exact vZ HB
mutual
def jP.l0:Nat→Int→List Int→List Int→Int→Option (List Int)
 |0,_,_,_,_=>none
 |k+1,x0,x1,x5,x6=>if x6<(x1.length:Int)then((kc.f k x0 x1).bind fun ca=>(jP.j1 k x0 x1 x5 x6 ca))else(jP.j1 k x0 x1 x5 x6 false)
def jP.j1:Nat→Int→List Int→List Int→Int→Bool→Option (List Int)
 |0,_,_,_,_,_=>none
 |k+1,x0,x1,x5,x6,x20=>if x20=true then(jP.l1 k x0 x1 x5 x6 0 0)else(some x5)
def jP.l1:Nat→Int→List Int→List Int→Int→Int→Int→Option (List Int)
 |0,_,_,_,_,_,_=>none
 |k+1,x0,x1,x5,x6,x7,x8=>if 0≤x6 then(if x6<(x1.length:Int)then(if x8<(rd x1 x6)then(jP.l2 k x0 x1 x5 x6 x7 x8 false 0)else(if x5.length<17592186044416 then(jP.l0 k x0 x1 (x5++ [x7]) (wrap64 (x6+1)))else(none)))else(none))else(none)
def jP.l2:Nat→Int→List Int→List Int→Int→Int→Int→Bool→Int→Option (List Int)
 |0,_,_,_,_,_,_,_,_=>none
 |k+1,x0,x1,x5,x6,x7,x8,x9,x10=>if x10<(x1.length:Int)then(if x9=true then(jP.l2 k x0 x1 x5 x6 x7 x8 true (wrap64 (x10+1)))else(if 0≤x10 then(jP.l2 k x0 x1 x5 x6 x7 x8 ((rd x1 x10)==x8) (wrap64 (x10+1)))else(none)))else(if x9=true then(jP.l1 k x0 x1 x5 x6 (wrap64 (x7+1)) (wrap64 (x8+1)))else(jP.l1 k x0 x1 x5 x6 x7 (wrap64 (x8+1))))
end
def jP.f (k:Nat) (a0:Int) (l1:List Int):Option (List Int):=jP.l0 k a0 l1 (([]:List Int)) 0
theorem jP.jQ:∀k,(∀y0 y1 y2 y3,qg (jP.l0 k y0 y1 y2 y3) (jP.l0 (k+1) y0 y1 y2 y3))∧(∀y0 y1 y2 y3 y4,qg (jP.j1 k y0 y1 y2 y3 y4) (jP.j1 (k+1) y0 y1 y2 y3 y4))∧(∀y0 y1 y2 y3 y4 y5,qg (jP.l1 k y0 y1 y2 y3 y4 y5) (jP.l1 (k+1) y0 y1 y2 y3 y4 y5))∧(∀y0 y1 y2 y3 y4 y5 y6 y7,qg (jP.l2 k y0 y1 y2 y3 y4 y5 y6 y7) (jP.l2 (k+1) y0 y1 y2 y3 y4 y5 y6 y7))
 |0=>⟨fun _ _ _ _=> .z (by simp only[jP.l0]),fun _ _ _ _ _=> .z (by simp only[jP.j1]),fun _ _ _ _ _ _=> .z (by simp only[jP.l1]),fun _ _ _ _ _ _ _ _=> .z (by simp only[jP.l2])⟩
 |k+1=>by
  have⟨i0,i1,i2,i3⟩:=jP.jQ k;exact⟨fun _ _ _ _=>by unfold jP.l0;infer_instance,fun _ _ _ _ _=>by unfold jP.j1;infer_instance,fun _ _ _ _ _ _=>by unfold jP.l1;infer_instance,fun _ _ _ _ _ _ _ _=>by unfold jP.l2;infer_instance⟩
instance jP.mo {k a0 a1}:qg (jP.f k a0 a1) (jP.f (k+1) a0 a1):=by have⟨i0,i1,i2,i3⟩:=jP.jQ k;unfold jP.f;infer_instance
theorem jP.calls (k:Nat) (a0:Int) (A1:Option Addr) (c1:Nat) (l1:List Int) (r:List Int) (w:World) (bh:Kd.C (Kd.int .i64) w A1 l1.length l1) (bj:l1.length≤c1) (h:jP.f k a0 l1=some r):
  Calls Tryz.prog 114 #[.int .i64 a0,.slice A1 l1.length c1] w fun e w'=>∃eW:Value,e= .returned (eW)∧Kd.R (Kd.int .i64) 3 w' w.heap.size (fun _=>True) eW r∧Below w.heap.size w w':=by
 have aU:=bm bh;have cQ:=bm bj;clear bh bj;have HB:=bm (Below.refl w.heap.size w);have H:=h;clear h;unfold jP.f at H;obtain⟨cN,b4⟩:∃y_:List Int,y_=(([]:List Int)):=⟨_,rfl⟩;replace H:(jP.l0 k a0 l1 cN 0)=some r:=by first|(rw[b4];exact H)|exact H
 have cy:=bm b4;clear b4;have H':=bm H;clear H;go_enter Tryz.func114,Tryz.ntmps114;go_wp2_with (first|((with_reducible refine gate_dst (N:=11) rfl ?_);refine Kd.R_lit (Kd.int .i64) _ 3 ?hg (N:=11) ?hd (xs:=([]:List Int)) (inner:=[]) (ok:=fun _=>True) (okp:=fun _=>True) ?hr ?hp (fun _ hk=>hk) trivial (Below.refl _ _) (Nat.le_refl _) (by simp) ?_;(case hd=>rfl);(case hg=>rfl);(case hr=>first|(go_simp;done)|(go_simp;rfl));(case hp=>exact(Reps.none _ _));intro fO w3 cz hb cS bJ;clear cS bJ;(first|rw[←cy.out]at cz|(simp only[Int.reduceToNat]at cz;rw[←cy.out]at cz));have de:=vX cz HB;replace HB:=bW HB hb;clear hb cz));go_loopg [5,6] k (fun kq v5 v6 w'=>∃(ae:List Int) (J:Int),v6= .int .i64 J∧jX (jP.l0 kq a0 l1 ae J=some r)∧jX (kq≤k)∧jX (Kd.R (Kd.int .i64) 3 w' w.heap.size (fun _=>True) v5 ae)∧jX (Below w.heap.size w w'))
 case atStart=>exact⟨(cN),(0),(by first|rfl|(simp;done)|(simp[*];done)),H',⟨Nat.le_refl _⟩,⟨by(repeat apply Kd.RS);exact de.out⟩,⟨wZ HB⟩⟩
 case round=>
  clear H';obtain⟨ae,J,rfl,HA,ar,qL,HB⟩:=hrel;cases gk with
  |zero=>exact absurd HA.out (by simp[jP.l0])
  |succ k1=>
   have H:=HA.out;clear HA;simp only[jP.l0]at H;have df:=bm H;clear H;go_upto_region 3 with(fail)
   go_cut [20] (fun v20 wc=>∃(kq:Nat) (bf:Bool),v20= .bool bf∧jX (jP.j1 kq a0 l1 ae J bf=some r)∧jX (kq≤k1)∧jX (Kd.R (Kd.int .i64) 3 wc w.heap.size (fun _=>True) u5 ae)∧jX (Below w.heap.size w wc))
   case first=>
    have H:=df.out;clear df;rcases vG H with⟨br,H⟩|⟨br,H⟩
    ·(first|rw[br]|(simp only[i64_w,i32_w];rw[br])|skip);obtain⟨ca,A7,H⟩:=bE H;try dsimp only at H
     have H':=bm H;clear H;go_wp2_with (first|(go_at_call 103;(with_reducible refine(kc.calls k1 a0 _ _ l1 ca _ ?_ ?_ A7.out).mono ?_);exact cY aU HB;exact cQ.out;rintro e w8 ⟨rfl,hb⟩;replace qL:=bR qL hb;replace HB:=bW HB hb;clear hb));go_meet
     case rel=>exact⟨_,(ca),(by first|rfl|(simp;done)|(simp[*];done)),H',⟨by have:=ar.out;first|omega|exact Nat.le_refl _⟩,⟨by(repeat apply Kd.RS);exact qL.out⟩,⟨wZ HB⟩⟩
    ·(first|rw[br]|(simp only[i64_w,i32_w];rw[br])|skip);have H':=bm H;clear H;go_wp2;go_meet
     case rel=>exact⟨_,(false),(by first|rfl|(simp;done)|(simp[*];done)),H',⟨by have:=ar.out;first|omega|exact Nat.le_refl _⟩,⟨by(repeat apply Kd.RS);exact qL.out⟩,⟨wZ HB⟩⟩
   case rest=>
    clear df;obtain⟨kq,bf,rfl,HA,aV,qL,HB⟩:=hcut;cases kq with
    |zero=>exact absurd HA.out (by simp[jP.j1])
    |succ yP=>
     have H:=HA.out;clear HA;simp only[jP.j1]at H;by_cases c9:bf=true
     ·subst c9;rw[if_pos rfl]at H;have H':=bm H;clear H;go_wp2;go_loopg [7,8] yP (fun kq v7 v8 w'=>∃(aw:Int) (aN:Int),v7= .int .i64 aw∧v8= .int .i64 aN∧jX (jP.l1 kq a0 l1 ae J aw aN=some r)∧jX (kq≤yP)∧jX (Kd.R (Kd.int .i64) 3 w' w.heap.size (fun _=>True) u5 ae)∧jX (Below w.heap.size w w'))
      case atStart=>exact⟨(0),(0),(by first|rfl|(simp;done)|(simp[*];done)),(by first|rfl|(simp;done)|(simp[*];done)),H',⟨Nat.le_refl _⟩,⟨by(repeat apply Kd.RS);exact qL.out⟩,⟨wZ HB⟩⟩
      case round=>
       clear H';obtain⟨aw,aN,rfl,rfl,HA,aW,qL,HB⟩:=hrel;cases gk with
       |zero=>exact absurd HA.out (by simp[jP.l1])
       |succ k3=>
        have H:=HA.out;clear HA;simp only[jP.l1]at H;obtain⟨dc,H⟩:=vE H;obtain⟨fD,H⟩:=vE H;rcases vG H with⟨b1,H⟩|⟨b1,H⟩
        ·have H':=bm H;clear H;have aQ:0≤(J:Int):=pG;have aR:J<(l1.length:Int):=pG;obtain⟨cA,cB,al⟩:=Kd.at_int aU.out J aQ aR;cases cB;replace al:=vA HB al;replace aQ:=vD aQ;replace aR:=vD aR;go_wp2;go_loopg [9,10] k3 (fun kq v9 v10 w'=>∃(bs:Bool) (ao:Int),v9= .bool bs∧v10= .int .i64 ao∧jX (jP.l2 kq a0 l1 ae J aw aN bs ao=some r)∧jX (kq≤k3)∧jX (Kd.R (Kd.int .i64) 3 w' w.heap.size (fun _=>True) u5 ae)∧jX (Below w.heap.size w w'))
         case atStart=>exact⟨(false),(0),(by first|rfl|(simp;done)|(simp[*];done)),(by first|rfl|(simp;done)|(simp[*];done)),H',⟨Nat.le_refl _⟩,⟨by(repeat apply Kd.RS);exact qL.out⟩,⟨wZ HB⟩⟩
         case round=>
          clear H';obtain⟨bs,ao,rfl,rfl,HA,bu,qL,HB⟩:=hrel;cases gk with
          |zero=>exact absurd HA.out (by simp[jP.l2])
          |succ k4=>
           have H:=HA.out;clear HA;simp only[jP.l2]at H;rcases vG H with⟨dh,H⟩|⟨dh,H⟩
           ·by_cases ba:bs=true
            ·subst ba;rw[if_pos rfl]at H;have H':=bm H;clear H;go_wp2;go_roundg k4
             case measure=>have:=ar.out;have:=aV.out;have:=aW.out;have:=bu.out;omega
             case rel=>exact⟨(true),(wrap64 (ao+1)),(by first|rfl|(simp;done)|(simp[*];done)),(by first|rfl|(simp;done)|(simp[*];done)),H',⟨by have:=ar.out;have:=aV.out;have:=aW.out;have:=bu.out;omega⟩,⟨by(repeat apply Kd.RS);exact qL.out⟩,⟨wZ HB⟩⟩
            ·replace ba:=uZ ba;subst ba;rw[if_neg vM]at H;obtain⟨fE,H⟩:=vE H;have H':=bm H;clear H;have cD:0≤(ao:Int):=pG;have cE:ao<(l1.length:Int):=pG;obtain⟨di,eZ,aT⟩:=Kd.at_int aU.out ao cD cE;obtain rfl:cA=di:=(by injection eZ);replace aT:=vA HB aT;replace cD:=vD cD;replace cE:=vD cE;go_wp2;go_roundg k4
             case measure=>have:=ar.out;have:=aV.out;have:=aW.out;have:=bu.out;omega
             case rel=>exact⟨(((rd l1 ao)==aN)),(wrap64 (ao+1)),(by first|rfl|(simp;done)|(simp[*];done)),(by first|rfl|(simp;done)|(simp[*];done)),H',⟨by have:=ar.out;have:=aV.out;have:=aW.out;have:=bu.out;omega⟩,⟨by(repeat apply Kd.RS);exact qL.out⟩,⟨wZ HB⟩⟩
           ·by_cases cF:bs=true
            ·subst cF;rw[if_pos rfl]at H;have H':=bm H;clear H;go_wp2;go_roundg k4
             case measure=>have:=ar.out;have:=aV.out;have:=aW.out;have:=bu.out;omega
             case rel=>exact⟨(wrap64 (aw+1)),(wrap64 (aN+1)),(by first|rfl|(simp;done)|(simp[*];done)),(by first|rfl|(simp;done)|(simp[*];done)),H',⟨by have:=ar.out;have:=aV.out;have:=aW.out;have:=bu.out;omega⟩,⟨by(repeat apply Kd.RS);exact qL.out⟩,⟨wZ HB⟩⟩
            ·replace cF:=uZ cF;subst cF;rw[if_neg vM]at H;have H':=bm H;clear H;go_wp2;go_roundg k4
             case measure=>have:=ar.out;have:=aV.out;have:=aW.out;have:=bu.out;omega
             case rel=>exact⟨(aw),(wrap64 (aN+1)),(by first|rfl|(simp;done)|(simp[*];done)),(by first|rfl|(simp;done)|(simp[*];done)),H',⟨by have:=ar.out;have:=aV.out;have:=aW.out;have:=bu.out;omega⟩,⟨by(repeat apply Kd.RS);exact qL.out⟩,⟨wZ HB⟩⟩
        ·obtain⟨e0,H⟩:=iN H;have dj:=bm e0;clear e0;obtain⟨cO,b5⟩:∃y_:List Int,y_=(ae++ [aw]):=⟨_,rfl⟩;rw[←b5]at H
         have dk:=bm b5;clear b5;have H':=bm H;clear H;have aQ:0≤(J:Int):=pG;have aR:J<(l1.length:Int):=pG;obtain⟨cA,cB,al⟩:=Kd.at_int aU.out J aQ aR;cases cB;replace al:=vA HB al;replace aQ:=vD aQ;replace aR:=vD aR;go_wp2_with (first|((with_reducible refine gate_builtin (b:=.append) (xs:= #[.tmp 49,.tmp 51]) rfl ?_);at_builtin;refine Kd.R_append (Kd.int .i64) (w0:=w) w.heap.size rfl (.tmp 49) (.tmp 51) 23 3 (.int .i64 0) 8 rfl Tryz.underlying23 info3 rfl (by decide) (by omega) u5 ae aw [.int .i64 aw] (fun _=>True) (fun _=>False) rfl rfl ?aP (fun _ hk=>hk.elim) ?aF ?aO ?aB ?aS ?aL ?_;(case aP=>exact rfl);(case aB=>exact(wZ HB));(case aF=>exact(fun _ _=>trivial));(case aO=>exact(rS qL));(case aS=>exact(below_size (wZ HB)));(case aL=>have:=dj.out;omega);intro fP fX ho hb hg c0;rw[←dk.out]at ho;replace HB:=bm (hb);have dm:=bm (ho);clear qL;clear ho hb hg c0));go_roundg k3
         case measure=>have:=ar.out;have:=aV.out;have:=aW.out;omega
         case rel=>exact⟨(cO),(wrap64 (J+1)),(by first|rfl|(simp;done)|(simp[*];done)),H',⟨by have:=ar.out;have:=aV.out;have:=aW.out;omega⟩,⟨by(repeat apply Kd.RS);exact dm.out⟩,⟨wZ HB⟩⟩
     ·replace c9:=uZ c9;subst c9;rw[if_neg vM]at H;obtain rfl:=vU H;go_wp2;go_ret;exact⟨_,by first|rfl|(simp[*,jS,jT]<;>rfl),by(repeat apply Kd.RS);exact qL.out,wZ HB⟩
end Go.Proofs.YtihgpkohglcijaaGreatDoor.P
