import Derived.Test.YtigeaokfhnlkcaaGreatDoorPx0
import Derived.Test.YtigeaokfhnlkcaaGreatDoorPx2
import Derived.Test.YtigeaokfhnlkcaaGreatDoorPx5
import Derived.Test.YtigeaokfhnlkcaaGreatDoorPx11
import Derived.Test.YtigeaokfhnlkcaaGreatDoorPx14
import Derived.Test.YtigeaokfhnlkcaaGreatDoorPx25
namespace Go.Proofs.YtigeaokfhnlkcaaGreatDoor.P
open Go.RowKit YtigeaokfhnlkcaaGreatDoorW PrintWords PrintLast PrintMore
attribute [local go_sem] max2_int min2_int max_two min_two max_three min_three max_four min_four
set_option linter.unusedVariables false
set_option linter.unusedSimpArgs false
set_option maxHeartbeats 8000000
set_option maxRecDepth 100000
mutual
def jo.j0:Nat→List BA→Bool→Int→LI→LL→Option (Int×LI×LL×List BA)
 |0,_,_,_,_,_=>none
 |k+1,x1,x18,vm,vn,vo=>if x18=true then(some (0,([]:LI),([]:LL),([]:List BA)))else((ig.f k vm vn vo).bind fun bg=>(jo.l0 k (([]:List BA)) x1 (x1.length:Int) 0 bg.1 bg.2.1 bg.2.2))
def jo.l0:Nat→List BA→List BA→Int→Int→Int→LI→LL→Option (Int×LI×LL×List BA)
 |0,_,_,_,_,_,_,_=>none
 |k+1,x6,Ak,x24,x25,vm,vn,vo=>if x25<x24 then(if 0≤x25 then(if x25<(Ak.length:Int)then((oQ.f k vm vn vo (rdOf ByteArray.empty Ak x25)).bind fun aR=>(if x6.length<8796093022208 then(jo.l0 k (x6++ [aR.2.2.2]) Ak x24 (wrap64 (x25+1)) aR.1 aR.2.1 aR.2.2.1)else(none)))else(none))else(none))else(some (vm,vn,vo,x6))
end
def jo.f (k:Nat) (ae:Int) (aa:LI) (ab:LL) (l1:List BA):Option (Int×LI×LL×List BA):=(kH.f k ae aa ab).bind fun aZ=>(if aZ=true then(jo.j0 k l1 (decide ((l1.length:Int)>40)) ae aa ab)else(jo.j0 k l1 true ae aa ab))
theorem jo.hZ:∀k,(∀y0 y1 y2 y3 y4,lS (jo.j0 k y0 y1 y2 y3 y4) (jo.j0 (k+1) y0 y1 y2 y3 y4))∧(∀y0 y1 y2 y3 y4 y5 y6,lS (jo.l0 k y0 y1 y2 y3 y4 y5 y6) (jo.l0 (k+1) y0 y1 y2 y3 y4 y5 y6))
 |0=>⟨fun _ _ _ _ _=> .z (by simp only[jo.j0]),fun _ _ _ _ _ _ _=> .z (by simp only[jo.l0])⟩
 |k+1=>by
  have⟨i0,i1⟩:=jo.hZ k;exact⟨fun _ _ _ _ _=>by unfold jo.j0;infer_instance,fun _ _ _ _ _ _ _=>by unfold jo.l0;infer_instance⟩
instance jo.mo {k a0 a1 a2 a3}:lS (jo.f k a0 a1 a2 a3) (jo.f (k+1) a0 a1 a2 a3):=by have⟨i0,i1⟩:=jo.hZ k;unfold jo.f;infer_instance
theorem jo.calls (k:Nat) (ae:Int) (az:Option Addr) (aA:Nat) (aa:LI) (aC:Option Addr) (aD:Nat) (ab:LL) (A1:Option Addr) (c1:Nat) (l1:List BA) (r1:Int) (r2:LI) (r3:LL) (r4:List BA) (w:World) (m:Int) (hm:w.cell? ⟨0,0,none⟩=some (.int .i64 m)) (bZ:Kd.C KI w az aa.length aa) (b0:aa.length≤aA) (b1:Kd.C KS w aC ab.length ab) (b4:ab.length≤aD) (b5:Kd.C Kd.string w A1 l1.length l1) (b6:l1.length≤c1) (h:jo.f k ae aa ab l1=some (r1,r2,r3,r4)):
  Calls Tryz.prog 6 #[.agg #[.int .i64 ae,.slice az aa.length aA,.slice aC ab.length aD],.slice A1 l1.length c1] w fun e w'=>∃cJ dh di:Value,e= .returned (.tuple #[.agg #[.int .i64 r1,cJ,dh],di])∧Kd.R KI 3 w' w.heap.size (fun _=>True) cJ r2∧Kd.S KS 23 w' w.heap.size (fun k_=>some k_≠(cJ:Value).ownBlock) dh r3∧Kd.R Kd.string 9 w' w.heap.size (fun _=>True) di r4∧Below w.heap.size w w':=by
 have fK:=Tryz.underlying26;have bh:=bm bZ;have bj:=bm b0;clear bZ b0;have bk:=bm b1;have bl:=bm b4;clear b1 b4;have b7:=bm b5;have cx:=bm b6;clear b5 b6;have HB:=bm (Below.refl w.heap.size w);have HM:=bm (fun W (hb:Below w.heap.size w W)=>(hb.cell (World.block_lt_of_cell? _ _ hm)).trans hm);clear hm;have H:=h;clear h;unfold jo.f at H;have cK:=bm H;clear H;go_enter Tryz.func6,Tryz.ntmps6;go_upto_region 1 with(first|((with_reducible refine gate_dst (N:=2) rfl ?_);(try(refine gate_guard (by rfl) ?_;dsimp only));refine re 2 #[.int .i64 ae,.slice az aa.length aA,.slice aC ab.length aD] 26 ?_;intro bn hg _ au hb;have j:=bm (au);have fh:=bG HB hg;replace HB:=bW HB hb;clear hb au hg)|((with_reducible refine gate_dst (N:=4) rfl ?_);(try(refine gate_guard (by rfl) ?_;dsimp only));refine re 4 #[.int .i64 0,.slice none 0 0,.slice none 0 0] 26 ?_;intro b8 hg _ au hb;have I:=bm (au);have fi:=bG HB hg;replace HB:=bW HB hb;have af:=bL j hg;have ag:=bM j hg;replace j:=bU j hb;clear hb au hg))
 (try simp only[Act.put,qA,qB,qC]);go_cut [18] (fun fj wc=>∃(kq:Nat) (aT:Bool),fj= .bool aT∧hJ (jo.j0 kq l1 aT ae aa ab=some (r1,r2,r3,r4))∧hJ (kq≤k)∧oI wc bn #[.int .i64 ae,(.slice az aa.length aA),(.slice aC ab.length aD)] 26∧oI wc b8 #[.int .i64 0,(.slice none 0 0),(.slice none 0 0)] 26∧hJ (Below w.heap.size w wc))
 case first=>
  have H:=cK.out;clear cK;obtain⟨aZ,A6,H⟩:=bE H;try dsimp only at H
  by_cases c7:aZ=true
  ·subst c7;rw[if_pos rfl]at H;have H':=bm H;clear H;obtain⟨_,_⟩:=pW af ag;obtain⟨_,_,_,_,_,_⟩:=b3 j;go_wp2_with (first|(refine gB (some 12) Tryz.func27 #[.agg #[.int .i64 ae,.slice az aa.length aA,.slice aC ab.length aD]] rfl ?_;(refine(kH.calls k ae _ _ aa _ _ ab true _ ?_ ?_ ?_ ?_ A6.out).mono ?_);exact cY bh HB;exact bj.out;exact cY bk HB;exact bl.out;rintro e _ ⟨rfl,hb⟩;refine⟨_,rfl,?_⟩;replace j:=bU j hb;replace I:=bU I hb;replace HB:=bW HB hb;clear hb));go_meet
   case rel=>exact⟨_,(decide ((l1.length:Int)>40)),eA,H',⟨by first|omega|exact Nat.le_refl _⟩,⟨kS j⟩,⟨kS I⟩,⟨wZ HB⟩⟩
  ·replace c7:=pD c7;subst c7;rw[if_neg pV]at H;have H':=bm H;clear H;obtain⟨_,_⟩:=pW af ag;obtain⟨_,_,_,_,_,_⟩:=b3 j;go_wp2_with (first|(refine gB (some 12) Tryz.func27 #[.agg #[.int .i64 ae,.slice az aa.length aA,.slice aC ab.length aD]] rfl ?_;(refine(kH.calls k ae _ _ aa _ _ ab false _ ?_ ?_ ?_ ?_ A6.out).mono ?_);exact cY bh HB;exact bj.out;exact cY bk HB;exact bl.out;rintro e _ ⟨rfl,hb⟩;refine⟨_,rfl,?_⟩;replace j:=bU j hb;replace I:=bU I hb;replace HB:=bW HB hb;clear hb));go_meet
   case rel=>exact⟨_,(true),eA,H',⟨by first|omega|exact Nat.le_refl _⟩,⟨kS j⟩,⟨kS I⟩,⟨wZ HB⟩⟩
 case rest=>
  clear cK;obtain⟨kq,aT,rfl,HA,dr,j,I,HB⟩:=hcut;cases kq with
  |zero=>exact absurd HA.out (by simp[jo.j0])
  |succ wU=>
   have H:=HA.out;clear HA;simp only[jo.j0]at H;by_cases cy:aT=true
   ·subst cy;rw[if_pos rfl]at H;obtain⟨rfl,rfl,rfl,rfl⟩:=s4 H;obtain⟨_,_⟩:=pW ag af;obtain⟨_,_,_,_,_,_⟩:=b3 I;go_wp2;refine rE #[.int .i64 0,.slice none 0 0,.slice none 0 0] (kP I) Tryz.underlying26 ?_;exact⟨_,_,_,eF,by first|exact Kd.R_nil _ _ _ _ _|exact Kd.N_nil _ _ _ _ _|exact Kd.V_nil _ _ _ _ _|exact Kd.Q_nil _ _ _ _ _|exact Kd.S_nil _ _ _ _ _,by first|exact Kd.S_nil _ _ _ _ _|exact Kd.N_nil _ _ _ _ _|exact Kd.V_nil _ _ _ _ _|exact Kd.Q_nil _ _ _ _ _|exact Kd.R_nil _ _ _ _ _,by first|exact Kd.R_nil _ _ _ _ _|exact Kd.N_nil _ _ _ _ _|exact Kd.V_nil _ _ _ _ _|exact Kd.Q_nil _ _ _ _ _|exact Kd.S_nil _ _ _ _ _,wZ HB⟩
   ·replace cy:=pD cy;subst cy;rw[if_neg pV]at H;obtain⟨⟨bF,a6,a7⟩,fp,H⟩:=bE H;try dsimp only at H
    obtain⟨cB,bo⟩:∃y_:List BA,y_=(([]:List BA)):=⟨_,rfl⟩;replace H:(jo.l0 wU cB l1 (l1.length:Int) 0 bF a6 a7)=some (r1,r2,r3,r4):=by first|(rw[bo];exact H)|exact H
    have b9:=bm bo;clear bo;have H':=bm H;clear H;obtain⟨_,_⟩:=pW af ag;obtain⟨_,_,_,_,_,_⟩:=b3 j;go_wp2_with (first|(refine gB (some 21) Tryz.func28 #[.agg #[.int .i64 ae,.slice az aa.length aA,.slice aC ab.length aD]] rfl ?_;(refine(ig.calls wU ae _ _ aa _ _ ab bF a6 a7 _ ?_ ?_ ?_ ?_ fp.out).mono ?_);exact cY bh HB;exact bj.out;exact cY bk HB;exact bl.out;rintro e _ ⟨_,_,rfl,bp,bJ,hb⟩;refine⟨_,rfl,?_⟩;have aU:=rL bp HB;have aV:=sL bJ HB;replace j:=bU j hb;replace I:=bU I hb;replace HB:=bW HB hb;clear hb;clear bp bJ;obtain⟨_,_,_,_,_,_⟩:=b3 j;obtain⟨cC,cD,dK⟩:=Kd.R_slice aU.out;subst dK;obtain⟨cE,cF,dL⟩:=Kd.S_slice aV.out;subst dL)|((with_reducible refine gate_dst (N:=22) rfl ?_);(try(refine gate_guard (by rfl) ?_;dsimp only));refine Kd.R_lit Kd.string _ 9 ?hg (N:=22) ?hd (xs:=([]:List BA)) (inner:=[]) (ok:=fun _=>True) (okp:=fun _=>True) ?hr ?hp (fun _ hk=>hk) trivial (Below.refl _ _) (Nat.le_refl _) (by simp) ?_;(case hd=>rfl);(case hg=>rfl);(case hr=>first|(go_simp;done)|(go_simp;rfl));(case hp=>exact(Reps.none _ _));intro _ _ a8 hb cL bq;clear cL bq;(first|rw[←b9.out]at a8|(simp only[Int.reduceToNat]at a8;rw[←b9.out]at a8));replace aU:=bm (Kd.R_below (rT aU) hb);replace aV:=bm (Kd.S_below (sT aV) hb);have cM:=rL a8 HB;replace j:=bP #[.int .i64 bF,.slice cC a6.length cD,.slice cE a7.length cF] j hb;replace I:=bU I hb;replace HB:=bW HB hb;clear hb a8));go_loopg [6,25] wU (fun kq v6 fs w'=>∃(ba:List BA) (ao:Int) (ah:Int) (ai:LI) (aj:LL) (av:Value) (aE:Value),fs= .int .i64 ao∧hJ (jo.l0 kq ba l1 (l1.length:Int) ao ah ai aj=some (r1,r2,r3,r4))∧hJ (kq≤wU)∧hJ (Kd.R Kd.string 9 w' w.heap.size (fun _=>True) v6 ba)∧hJ (Kd.R KI 3 w' w.heap.size (fun _=>True) av ai)∧hJ (Kd.S KS 23 w' w.heap.size (fun k_=>some k_≠(av:Value).ownBlock) aE aj)∧hJ (w'.heap[bn]?=some (.cells #[.int .i64 ah,av,aE] 26 (0,0)))∧hJ (w'.heap[b8]?=some (.cells #[.int .i64 0,(.slice none 0 0),(.slice none 0 0)] 26 (0,0)))∧hJ (Below w.heap.size w w'))
    case atStart=>exact⟨(cB),(0),(bF),(a6),(a7),(.slice cC a6.length cD),(.slice cE a7.length cF),eA,H',⟨Nat.le_refl _⟩,⟨rS cM⟩,⟨rS aU⟩,⟨sS aV⟩,⟨kS j⟩,⟨kS I⟩,⟨wZ HB⟩⟩
    case round=>
     clear H';obtain⟨ba,ao,ah,ai,aj,av,aE,rfl,HA,dM,oJ,qy,qI,j,I,HB⟩:=hrel;cases gk with
     |zero=>exact absurd HA.out (by simp[jo.l0])
     |succ k2=>
      have H:=HA.out;clear HA;simp only[jo.l0]at H;rcases pP H with⟨cN,H⟩|⟨cN,H⟩
      ·obtain⟨ft,H⟩:=pN H;obtain⟨fu,H⟩:=pN H;obtain⟨⟨bb,aM,aN,bH⟩,fv,H⟩:=bE H;try dsimp only at H
       obtain⟨dP,H⟩:=iN H;have cO:=bm dP;clear dP;obtain⟨cG,br⟩:∃y_:List BA,y_=(ba++ [bH]):=⟨_,rfl⟩;rw[←br]at H
       have cP:=bm br;clear br;have H':=bm H;clear H;have cb:0≤(ao:Int):=ko;have cc:ao<(l1.length:Int):=ko;obtain⟨fw,dQ,aG⟩:=Kd.at_string b7.out ao cb cc;cases dQ;replace aG:=pE HB aG;replace cb:=pM cb;replace cc:=pM cc;obtain⟨_,_⟩:=pW af ag;obtain⟨_,_,_,_,_,_⟩:=b3 j;obtain⟨dX,dY,dZ⟩:=Kd.R_slice qy.out;subst dZ;obtain⟨ea,eb,ec⟩:=Kd.S_slice qI.out;subst ec;go_wp2_with (first|(refine gB (some 32) Tryz.func29 #[.agg #[.int .i64 ah,.slice dX ai.length dY,.slice ea aj.length eb],.string (rdOf ByteArray.empty l1 ao)] rfl ?_;(refine(oQ.calls k2 ah _ _ ai _ _ aj (rdOf ByteArray.empty l1 ao) bb aM aN bH _ m (HM.out _ (wZ HB)) ?_ ?_ ?_ ?_ fv.out).mono ?_);exact cZ (Kd.R_reads' qy.out).2.2;exact(Kd.R_reads' qy.out).2.1;exact cZ (Kd.S_reads' qI.out).2.2;exact(Kd.S_reads' qI.out).2.1;rintro e _ ⟨_,_,rfl,bp,bJ,hb⟩;refine⟨_,rfl,?_⟩;replace oJ:=bR oJ hb;have aw:=bm (Kd.R_lower (Kd.R_new' bp (Kd.R_lt (rS qy))) (below_size (wZ HB)));have ax:=bm (Kd.S_lower (Kd.S_new' (Kd.S_new' bJ (Kd.R_lt (rS qy))) (Kd.S_lt (sS qI))) (below_size (wZ HB)));replace qy:=bm (Kd.R_elder' (rS qy) (Kd.R_base bp) hb);replace qI:=bm (Kd.S_mono (Kd.S_told (Kd.S_told (Kd.S_old (sS qI) hb) (Kd.R_base bp)) (Kd.S_base bJ)) (fun _ h_=>h_.1));replace j:=bU j hb;replace I:=bU I hb;replace HB:=bW HB hb;clear hb;clear bp bJ)|((with_reducible refine gate_dst (N:=9) rfl ?_);(try(refine gate_guard (by rfl) ?_;dsimp only));refine re 9 #[.int .i64 0,.slice none 0 0,.slice none 0 0] 26 ?_;intro cQ hg _ au hb;replace oJ:=bR oJ hb;replace qy:=bR qy hb;replace qI:=bS qI hb;replace aw:=bR aw hb;replace ax:=bS ax hb;have aW:=bm (au);have fz:=bG HB hg;replace HB:=bW HB hb;have bs:=bL j hg;have bu:=bM j hg;replace j:=bU j hb;have bw:=bL I hg;have bx:=bM I hg;replace I:=bU I hb;clear hb au hg;obtain⟨_,_,_,_⟩:=pY bu bs bx bw;obtain⟨_,_,_,_,_,_⟩:=b3 aW;obtain⟨cd,cf,ej⟩:=Kd.R_slice aw.out;subst ej;obtain⟨cg,ch,ek⟩:=Kd.S_slice ax.out;subst ek;obtain⟨_,_,_,_,_,_⟩:=b3 j)|((with_reducible refine gate_builtin (b:=.append) (xs:= #[.tmp 36,.tmp 38]) rfl ?_);(try(refine gate_guard (by rfl) ?_;dsimp only));at_builtin;refine Kd.R_append Kd.string (w0:=w) w.heap.size rfl (.tmp 36) (.tmp 38) 27 9 (.string ⟨#[]⟩) 16 rfl Tryz.underlying27 info9 rfl (by decide) (by omega) u6 ba bH [.string bH] (fun _=>True) (fun _=>False) rfl (by first|(go_simp;done)|(go_simp;rfl)) ?aP (fun _ hk=>hk.elim) ?aF ?aO ?aB ?aS ?aL ?_;(case aP=>exact rfl);(case aB=>exact(wZ HB));(case aF=>exact(fun _ _=>trivial));(case aO=>exact(rT oJ));(case aS=>exact(below_size (wZ HB)));(case aL=>have:=cO.out;omega);intro _ _ ho hb hg cj;rw[←cP.out]at ho;replace qy:=bm (Kd.R_over' (rT qy) (Kd.R_typed (rT oJ)) (by decide) hg);replace qI:=bm (Kd.S_over' (sT qI) (Kd.R_typed (rT oJ)) (by decide) hg);replace aw:=bm (Kd.R_over' (rT aw) (Kd.R_typed (rT oJ)) (by decide) hg);replace ax:=bm (Kd.S_over' (sT ax) (Kd.R_typed (rT oJ)) (by decide) hg);replace j:=bm (blk_grown (g:=bn) (o:=.cells #[.int .i64 bb,.slice cd aM.length cf,.slice cg aN.length ch] 26 (0,0)) (kP j) hg (Kd.R_ne oJ.out j.out (by decide)));replace I:=bN I hg (Kd.R_ne oJ.out I.out (by decide));replace aW:=bm (blk_grown (g:=cQ) (o:=.cells #[.int .i64 bb,.slice cd aM.length cf,.slice cg aN.length ch] 26 (0,0)) (kP aW) hg (Kd.R_ne oJ.out aW.out (by decide)));replace HB:=bm (hb);have cR:=bm (ho);clear oJ;clear ho hb hg cj))
       go_roundg k2
       case measure=>have:=dr.out;have:=dM.out;omega
       case rel=>exact⟨(cG),(wrap64 (ao+1)),(bb),(aM),(aN),(.slice cd aM.length cf),(.slice cg aN.length ch),eA,H',⟨by have:=dr.out;have:=dM.out;omega⟩,⟨rS cR⟩,⟨by(repeat apply Kd.RS);exact Kd.R_mono aw.out (fun _ hk=>trivial)⟩,⟨by(repeat apply Kd.SS);exact Kd.S_mono ax.out (fun _ hk=>hk.1.1)⟩,⟨kS j⟩,⟨kS I⟩,⟨wZ HB⟩⟩
      ·obtain⟨rfl,rfl,rfl,rfl⟩:=s4 H;obtain⟨_,_⟩:=pW af ag;obtain⟨_,_,_,_,_,_⟩:=b3 j;obtain⟨_,_,_,_,_,_⟩:=b3 I;obtain⟨eJ,eK,eL⟩:=Kd.R_slice qy.out;subst eL;obtain⟨eM,eN,eO⟩:=Kd.S_slice qI.out;subst eO;go_wp2;refine rE #[.int .i64 ah,.slice eJ ai.length eK,.slice eM aj.length eN] (kP I) Tryz.underlying26 ?_;exact⟨_,_,_,eF,rT qy,sT qI,rT oJ,wZ HB⟩
mutual
def gU.j0:Nat→BA→List (rZ)→Option (Int×BA×Bool)
 |0,_,_=>none
 |k+1,x0,x4=>if(x0.size:Int)>4 then(if 4≤(x0.size:Int)then(if x4.length<5864062014805 then(gU.j1 k x0 (x4++ [(⟨1,x0.extract 4 x0.size⟩:rZ)]))else(none))else(none))else(gU.j1 k x0 x4)
def gU.j1:Nat→BA→List (rZ)→Option (Int×BA×Bool)
 |0,_,_=>none
 |k+1,x0,x4=>gU.l0 k x0 x4 0
def gU.l0:Nat→BA→List (rZ)→Int→Option (Int×BA×Bool)
 |0,_,_,_=>none
 |k+1,x0,x4,x5=>if x5<(x4.length:Int)then(if x0.toList=([]:List UInt8)then(gU.l0 k x0 x4 (wrap64 (x5+1)))else(if 0≤x5 then((js.f k ((rJ x4 x5).f0) ((rJ x4 x5).f1)).bind fun ay=>(if ay.toList=x0.toList then(some ((rJ x4 x5).f0,(rJ x4 x5).f1,true))else(gU.l0 k x0 x4 (wrap64 (x5+1)))))else(none)))else(some (0,(⟨#[]⟩:BA),false))
end
def gU.f (k:Nat) (a0:BA):Option (Int×BA×Bool):=(some (([(⟨2,(⟨#[]⟩:BA)⟩:rZ)]:List (rZ)):List (rZ))).bind fun al=>(if(a0.size:Int)>6 then(if 6≤(a0.size:Int)then(if al.length<5864062014805 then(gU.j0 k a0 (al++ [(⟨0,a0.extract 6 a0.size⟩:rZ)]))else(none))else(none))else(gU.j0 k a0 al))
theorem gU.hZ:∀k,(∀y0 y1,lS (gU.j0 k y0 y1) (gU.j0 (k+1) y0 y1))∧(∀y0 y1,lS (gU.j1 k y0 y1) (gU.j1 (k+1) y0 y1))∧(∀y0 y1 y2,lS (gU.l0 k y0 y1 y2) (gU.l0 (k+1) y0 y1 y2))
 |0=>⟨fun _ _=> .z (by simp only[gU.j0]),fun _ _=> .z (by simp only[gU.j1]),fun _ _ _=> .z (by simp only[gU.l0])⟩
 |k+1=>by
  have⟨i0,i1,i2⟩:=gU.hZ k;exact⟨fun _ _=>by unfold gU.j0;infer_instance,fun _ _=>by unfold gU.j1;infer_instance,fun _ _ _=>by unfold gU.l0;infer_instance⟩
instance gU.mo {k a0}:lS (gU.f k a0) (gU.f (k+1) a0):=by have⟨i0,i1,i2⟩:=gU.hZ k;unfold gU.f;infer_instance
theorem gU.calls (k:Nat) (a0:BA) (r1:Int) (r2:BA) (r3:Bool) (w:World) (h:gU.f k a0=some (r1,r2,r3)):
  Calls Tryz.prog 41 #[.string a0] w fun e w'=>e= .returned (.tuple #[.agg #[.int .i64 r1,.string r2],.bool r3])∧Below w.heap.size w w':=by
 have fT:=Tryz.underlying47;have HB:=bm (Below.refl w.heap.size w);have H:=h;clear h;unfold gU.f at H;obtain⟨al,bA⟩:∃y_:List (rZ),y_=(([(⟨2,(⟨#[]⟩:BA)⟩:rZ)]:List (rZ))):=⟨_,rfl⟩;rw[←bA]at H
 have ck:=bm bA;clear bA;have cS:=bm H;clear H;go_enter Tryz.func41,Tryz.ntmps41;go_upto_if 10 with(first|(refine re 2 #[.int .i64 0,.string (⟨#[]⟩:BA)] 47 ?_;intro ak hg _ au hb;have J:=bm (au);have fG:=bG HB hg;replace HB:=bW HB hb;clear hb au hg)|((with_reducible refine gate_dst (N:=7) rfl ?_);refine Kd.R_lit Aj _ 47 ?hg (N:=7) ?hd (xs:=([(⟨2,(⟨#[]⟩:BA)⟩:rZ)]:List (rZ))) (inner:=[.int .i64 2,.string (⟨#[]⟩:BA)]) (ok:=fun _=>True) (okp:=fun _=>True) ?hr ?hp (fun _ hk=>hk) trivial (Below.refl _ _) (Nat.le_refl _) (by simp) ?_;(case hd=>rfl);(case hg=>rfl);(case hr=>first|(go_simp;done)|(go_simp;rfl));(case hp=>exact(Reps.c2 (show Kd.M Aj _ _ _ (⟨2,(⟨#[]⟩:BA)⟩:rZ) [.int .i64 2,.string (⟨#[]⟩:BA)] from(wT _ _ _ (⟨2,(⟨#[]⟩:BA)⟩:rZ))) (Reps.none _ _)));intro eP _ cl hb cL bq;clear cL bq;(first|rw[←ck.out]at cl|(simp only[Int.reduceToNat]at cl;rw[←ck.out]at cl));have aY:=bm (Kd.R_lower (Kd.R_newB cl (g:=ak) (o:=.cells #[.int .i64 0,.string (⟨#[]⟩:BA)] 47 (0,0)) (kS J)) (below_size (wZ HB)));replace J:=bU J hb;replace HB:=bW HB hb;clear hb cl))
 (try simp only[Act.put,qA,qB,qC]);go_cut [4] (fun v4 wc=>∃(kq:Nat) (aQ:List (rZ)),hJ (gU.j0 kq a0 aQ=some (r1,r2,r3))∧hJ (kq≤k)∧hJ (Kd.R Aj 47 wc w.heap.size (fun k_=>k_≠ak) v4 aQ)∧oI wc ak #[.int .i64 0,.string (⟨#[]⟩:BA)] 47∧hJ (Below w.heap.size w wc))
 case first=>
  have H:=cS.out;clear cS;rcases iT H with⟨c6,H⟩|⟨c6,H⟩
  ·have bc:=pK c6;have eQ:decide (6<a0.size)=true:=pK (by omega);clear c6;(first|rw[bc]|(simp only[i64_w,i32_w];rw[bc])|skip);obtain⟨fU,fV,H⟩:=pO H;obtain⟨c8,H⟩:=iN H;have eR:=bm c8;clear c8;obtain⟨cH,bB⟩:∃y_:List (rZ),y_=(al++ [(⟨0,a0.extract 6 a0.size⟩:rZ)]):=⟨_,rfl⟩;rw[←bB]at H
   have cT:=bm bB;clear bB;have H':=bm H;clear H;go_wp2_with (first|((with_reducible refine gate_builtin (b:=.append) (xs:= #[.tmp 11,.tmp 15]) rfl ?_);at_builtin;refine Kd.R_append Aj (w0:=w) w.heap.size rfl (.tmp 11) (.tmp 15) 39 47 (.agg #[(.int .i64 0),(.string ⟨#[]⟩)]) 24 rfl Tryz.underlying39 Aq rfl (by decide) (by omega) eP al (⟨0,a0.extract 6 a0.size⟩:rZ) [.int .i64 0,.string (a0.extract 6 a0.size)] (fun k_=>k_≠ak) (fun _=>False) rfl rfl ?aP (fun _ hk=>hk.elim) ?aF ?aO ?aB ?aS ?aL ?_;(case aP=>exact wT _ _ _ (⟨0,a0.extract 6 a0.size⟩:rZ));(case aB=>exact(wZ HB));(case aF=>exact(fun k_ hk=>Kd.freshB (g:=ak) (o:=.cells #[.int .i64 0,.string (⟨#[]⟩:BA)] 47 (0,0)) (kS J) k_ hk));(case aO=>exact(by(repeat apply Kd.RS);exact Kd.R_mono aY.out (fun _ hk=>hk.2)));(case aS=>exact(below_size (wZ HB)));(case aL=>have:=eR.out;omega);intro _ _ ho hb hg cj;rw[←cT.out]at ho;replace J:=bN J hg (Kd.R_away aY.out (fun _ hk=>hk.2));replace HB:=bm (hb);have cU:=bm (ho);clear aY;clear ho hb hg cj));go_meet
   case rel=>exact⟨_,(cH),H',⟨by first|omega|exact Nat.le_refl _⟩,⟨rS cU⟩,⟨kS J⟩,⟨wZ HB⟩⟩
  ·have bc:=pF c6;have eQ:decide (6<a0.size)=false:=pF (by omega);clear c6;(first|rw[bc]|(simp only[i64_w,i32_w];rw[bc])|skip);have H':=bm H;clear H;go_wp2;go_meet
   case rel=>exact⟨_,(al),H',⟨by first|omega|exact Nat.le_refl _⟩,⟨by(repeat apply Kd.RS);exact Kd.R_mono aY.out (fun _ hk=>hk.2)⟩,⟨kS J⟩,⟨wZ HB⟩⟩
 case rest=>
  clear cS;obtain⟨kq,aQ,HA,bO,sA,J,HB⟩:=hcut;cases kq with
  |zero=>exact absurd HA.out (by simp[gU.j0])
  |succ Hz=>
   have H:=HA.out;clear HA;simp only[gU.j0]at H;have cm:=bm H;clear H;go_upto_if 19 with(fail)
   go_cut [4] (fun v4 wc=>∃(kq:Nat) (an:List (rZ)),hJ (gU.j1 kq a0 an=some (r1,r2,r3))∧hJ (kq≤Hz)∧hJ (Kd.R Aj 47 wc w.heap.size (fun k_=>k_≠ak) v4 an)∧oI wc ak #[.int .i64 0,.string (⟨#[]⟩:BA)] 47∧hJ (Below w.heap.size w wc))
   case first=>
    have H:=cm.out;clear cm;rcases iT H with⟨cn,H⟩|⟨cn,H⟩
    ·have aH:=pK cn;have cV:decide (4<a0.size)=true:=pK (by omega);clear cn;(first|rw[aH]|(simp only[i64_w,i32_w];rw[aH])|skip);obtain⟨fH,fI,H⟩:=pO H;obtain⟨eS,H⟩:=iN H;have cX:=bm eS;clear eS;obtain⟨cI,bD⟩:∃y_:List (rZ),y_=(aQ++ [(⟨1,a0.extract 4 a0.size⟩:rZ)]):=⟨_,rfl⟩;rw[←bD]at H
     have c0:=bm bD;clear bD;have H':=bm H;clear H;go_wp2_with (first|((with_reducible refine gate_builtin (b:=.append) (xs:= #[.tmp 20,.tmp 24]) rfl ?_);at_builtin;refine Kd.R_append Aj (w0:=w) w.heap.size rfl (.tmp 20) (.tmp 24) 39 47 (.agg #[(.int .i64 0),(.string ⟨#[]⟩)]) 24 rfl Tryz.underlying39 Aq rfl (by decide) (by omega) u4 aQ (⟨1,a0.extract 4 a0.size⟩:rZ) [.int .i64 1,.string (a0.extract 4 a0.size)] (fun k_=>k_≠ak) (fun _=>False) rfl rfl ?aP (fun _ hk=>hk.elim) ?aF ?aO ?aB ?aS ?aL ?_;(case aP=>exact wT _ _ _ (⟨1,a0.extract 4 a0.size⟩:rZ));(case aB=>exact(wZ HB));(case aF=>exact(fun k_ hk=>Kd.freshB (g:=ak) (o:=.cells #[.int .i64 0,.string (⟨#[]⟩:BA)] 47 (0,0)) (kS J) k_ hk));(case aO=>exact(rS sA));(case aS=>exact(below_size (wZ HB)));(case aL=>have:=cX.out;omega);intro _ _ ho hb hg cj;rw[←c0.out]at ho;replace J:=bN J hg (Kd.R_away sA.out (fun _ hk=>hk));replace HB:=bm (hb);have da:=bm (ho);clear sA;clear ho hb hg cj));go_meet
     case rel=>exact⟨_,(cI),H',⟨by have:=bO.out;first|omega|exact Nat.le_refl _⟩,⟨rS da⟩,⟨kS J⟩,⟨wZ HB⟩⟩
    ·have aH:=pF cn;have cV:decide (4<a0.size)=false:=pF (by omega);clear cn;(first|rw[aH]|(simp only[i64_w,i32_w];rw[aH])|skip);have H':=bm H;clear H;go_wp2;go_meet
     case rel=>exact⟨_,(aQ),H',⟨by have:=bO.out;first|omega|exact Nat.le_refl _⟩,⟨rS sA⟩,⟨kS J⟩,⟨wZ HB⟩⟩
   case rest=>
    clear cm;obtain⟨kq,an,HA,cz,sA,J,HB⟩:=hcut;cases kq with
    |zero=>exact absurd HA.out (by simp[gU.j1])
    |succ HU=>
     have H:=HA.out;clear HA;simp only[gU.j1]at H;have H':=bm H;clear H;go_wp2;go_loopg [5] HU (fun kq v5 w'=>∃(ad:Int) (aq:Int) (ar:BA),v5= .int .i64 ad∧hJ (gU.l0 kq a0 an ad=some (r1,r2,r3))∧hJ (kq≤HU)∧hJ (Kd.R Aj 47 w' w.heap.size (fun k_=>k_≠ak) u4 an)∧hJ (w'.heap[ak]?=some (.cells #[.int .i64 aq,.string ar] 47 (0,0)))∧hJ (Below w.heap.size w w'))
     case atStart=>exact⟨(0),(0),((⟨#[]⟩:BA)),eA,H',⟨Nat.le_refl _⟩,⟨rS sA⟩,⟨kS J⟩,⟨wZ HB⟩⟩
     case round=>
      clear H';obtain⟨ad,aq,ar,rfl,HA,cA,sA,J,HB⟩:=hrel;cases gk with
      |zero=>exact absurd HA.out (by simp[gU.l0])
      |succ k3=>
       have H:=HA.out;clear HA;simp only[gU.l0]at H;rcases pP H with⟨db,H⟩|⟨db,H⟩
       ·rcases iT H with⟨bT,H⟩|⟨bT,H⟩
        ·obtain⟨dc,dd⟩:=pf bT;clear bT;have H':=bm H;clear H;obtain⟨fY,fZ,eT⟩:=Kd.R_slice sA.out;subst eT;go_wp2;go_roundg k3
         case measure=>have:=bO.out;have:=cz.out;have:=cA.out;omega
         case rel=>exact⟨(wrap64 (ad+1)),(aq),(ar),eA,H',⟨by have:=bO.out;have:=cz.out;have:=cA.out;omega⟩,⟨rS sA⟩,⟨kS J⟩,⟨wZ HB⟩⟩
        ·obtain⟨dc,dd⟩:=pe bT;obtain⟨fJ,H⟩:=pN H;obtain⟨ay,eV,H⟩:=bE H;try dsimp only at H
         rcases iT H with⟨bV,H⟩|⟨bV,H⟩
         ·obtain⟨de,df⟩:=pf bV;clear bV;obtain⟨rfl,rfl,rfl⟩:=s3 H;obtain⟨ga,gb,eW⟩:=Kd.R_slice sA.out;subst eW;have aI:0≤(ad:Int):=ko;have aJ:ad<(an.length:Int):=ko;obtain⟨cq,cr,ct,cu⟩:=ye (Kd.R_reads' sA.out).2.2 ad aI aJ;cases cr;replace aI:=pM aI;replace aJ:=pM aJ;go_wp2_with (first|(go_at_call 51;(with_reducible refine(js.calls k3 ((rJ an ad).f0) ((rJ an ad).f1) ay _ eV.out).mono ?_);rintro e _ ⟨rfl,hb⟩;replace sA:=bR sA hb;replace J:=bU J hb;replace HB:=bW HB hb;clear hb;have cv:0≤(ad:Int):=ko;have cw:ad<(an.length:Int):=ko;obtain⟨dg,eX,eY,eZ⟩:=ye (Kd.R_reads' sA.out).2.2 ad cv cw;obtain rfl:cq=dg:=(by injection eX);replace cv:=pM cv;replace cw:=pM cw;obtain⟨_,_,_,_⟩:=b2 J));refine rE #[.int .i64 ((rJ an ad).f0),.string ((rJ an ad).f1)] (kP J) Tryz.underlying47 ?_;exact⟨eF,wZ HB⟩
         ·obtain⟨de,df⟩:=pe bV;have H':=bm H;clear H;obtain⟨gf,gg,e4⟩:=Kd.R_slice sA.out;subst e4;have aI:0≤(ad:Int):=ko;have aJ:ad<(an.length:Int):=ko;obtain⟨cq,cr,ct,cu⟩:=ye (Kd.R_reads' sA.out).2.2 ad aI aJ;cases cr;replace aI:=pM aI;replace aJ:=pM aJ;go_wp2_with (first|(go_at_call 51;(with_reducible refine(js.calls k3 ((rJ an ad).f0) ((rJ an ad).f1) ay _ eV.out).mono ?_);rintro e _ ⟨rfl,hb⟩;replace sA:=bR sA hb;replace J:=bU J hb;replace HB:=bW HB hb;clear hb));go_roundg k3
          case measure=>have:=bO.out;have:=cz.out;have:=cA.out;omega
          case rel=>exact⟨(wrap64 (ad+1)),(aq),(ar),eA,H',⟨by have:=bO.out;have:=cz.out;have:=cA.out;omega⟩,⟨rS sA⟩,⟨kS J⟩,⟨wZ HB⟩⟩
       ·obtain⟨rfl,rfl,rfl⟩:=s3 H;obtain⟨gh,gi,e5⟩:=Kd.R_slice sA.out;subst e5;obtain⟨_,_,_,_⟩:=b2 J;go_wp2;refine rE #[.int .i64 0,.string (⟨#[]⟩:BA)] (kP J) Tryz.underlying47 ?_;exact⟨eF,wZ HB⟩
def pz.f (k:Nat) (a0:Int) (l1:LI):Option (Int):=(iv.f k a0 l1).bind fun bd=>(if bd=true then((mh.f a0).bind fun aK=>((gZ.f k l1 aK).bind fun bf=>(some bf)))else(some (-1)))
instance pz.mo {k a0 a1}:lS (pz.f k a0 a1) (pz.f (k+1) a0 a1):=by unfold pz.f;infer_instance
theorem pz.calls (k:Nat) (a0:Int) (A1:Option Addr) (c1:Nat) (l1:LI) (r:Int) (w:World) (b5:Kd.C KI w A1 l1.length l1) (b6:l1.length≤c1) (h:pz.f k a0 l1=some r):
  Calls Tryz.prog 56 #[.int .i64 a0,.slice A1 l1.length c1] w fun e w'=>e= .returned (.int .i64 r)∧Below w.heap.size w w':=by
 have b7:=bm b5;have cx:=bm b6;clear b5 b6;have HB:=bm (Below.refl w.heap.size w);have H:=h;clear h;unfold pz.f at H;obtain⟨bd,A3,H⟩:=bE H;try dsimp only at H
 by_cases c4:bd=true
 ·subst c4;rw[if_pos rfl]at H;obtain⟨aK,A5,H⟩:=bE H;try dsimp only at H
  obtain⟨bf,A6,H⟩:=bE H;try dsimp only at H
  obtain rfl:=pd H;go_enter Tryz.func56,Tryz.ntmps56;go_wp2_with (first|(refine gB (some 7) Tryz.func68 #[.int .i64 a0,.slice A1 l1.length c1] rfl ?_;(refine(iv.calls k a0 _ _ l1 true _ ?_ ?_ A3.out).mono ?_);exact cZ b7.out;exact cx.out;rintro e _ ⟨rfl,hb⟩;refine⟨_,rfl,?_⟩;replace HB:=bW HB hb;clear hb)|(refine gB (some 11) Tryz.func96 #[.int .i64 a0] rfl ?_;(refine(mh.calls a0 aK _ A5.out).mono ?_);rintro e w' ⟨rfl,⟨nd,rfl⟩⟩;refine⟨_,rfl,?_⟩)|(refine gB (some 12) Tryz.func95 #[.slice A1 l1.length c1,.int .i64 aK] rfl ?_;(refine(gZ.calls k _ _ l1 aK bf _ ?_ ?_ A6.out).mono ?_);exact cZ (Kd.C_below b7.out (wZ HB));exact cx.out;rintro e _ ⟨rfl,hb⟩;refine⟨_,rfl,?_⟩;replace HB:=bW HB hb;clear hb));go_ret;exact⟨eF,wZ HB⟩
 ·replace c4:=pD c4;subst c4;rw[if_neg pV]at H;obtain rfl:=pd H;go_enter Tryz.func56,Tryz.ntmps56;go_wp2_with (first|(refine gB (some 7) Tryz.func68 #[.int .i64 a0,.slice A1 l1.length c1] rfl ?_;(refine(iv.calls k a0 _ _ l1 false _ ?_ ?_ A3.out).mono ?_);exact cZ b7.out;exact cx.out;rintro e _ ⟨rfl,hb⟩;refine⟨_,rfl,?_⟩;replace HB:=bW HB hb;clear hb));go_ret;exact⟨eF,wZ HB⟩
end Go.Proofs.YtigeaokfhnlkcaaGreatDoor.P
