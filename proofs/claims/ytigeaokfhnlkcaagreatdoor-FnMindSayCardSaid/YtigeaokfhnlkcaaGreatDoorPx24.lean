import Derived.Test.YtigeaokfhnlkcaaGreatDoorPx0
import Derived.Test.YtigeaokfhnlkcaaGreatDoorPx15
import Derived.Test.YtigeaokfhnlkcaaGreatDoorPx17
import Derived.Test.YtigeaokfhnlkcaaGreatDoorPx19
import Derived.Test.YtigeaokfhnlkcaaGreatDoorPx21
import Derived.Test.YtigeaokfhnlkcaaGreatDoorPx22
import Derived.Test.YtigeaokfhnlkcaaGreatDoorPx23
namespace Go.Proofs.YtigeaokfhnlkcaaGreatDoor.P
open Go.RowKit YtigeaokfhnlkcaaGreatDoorW PrintWords PrintLast PrintMore
attribute [local go_sem] max2_int min2_int max_two min_two max_three min_three max_four min_four
set_option linter.unusedVariables false
set_option linter.unusedSimpArgs false
set_option maxHeartbeats 8000000
set_option maxRecDepth 100000
abbrev AW:Array Bool:= #[false,false,false,false,false,false,false,false,false]
def jf.l0:Nat→List BA→LI→Int→Int→Option (BA)
 |0,_,_,_,_=>none
 |k+1,x6,x32,HQ,x34=>if x34<HQ then(if 0≤x34 then(if x34<(x32.length:Int)then((strconv_Itoa.f (rd x32 x34)).bind fun aK=>(if x6.length<8796093022208 then(jf.l0 k (x6++ [aK]) x32 HQ (wrap64 (x34+1)))else(none)))else(none))else(none))else((strings_Join.f x6 (⟨#[44]⟩:BA)).bind fun bl=>(some bl))
def jf.f (k:Nat) (o:Int) (I:LI) (ag:LL) (a1:BA):Option (BA):=(kO.f o I).bind fun af=>(if a1.toList=([99,111,114,101]:List UInt8)then((gS.f k o af).bind fun aN=>(some aN))else(if a1.toList=([114,97,110,107,115]:List UInt8)then(jf.l0 k (([]:List BA)) I (I.length:Int) 0)else(if a1.toList=([112,97,115,116]:List UInt8)then((strconv_Itoa.f (ag.length:Int)).bind fun aQ=>(some aQ))else((strings_Cut.f a1 (⟨#[32]⟩:BA)).bind fun ai=>(if ai.2.2=true then(if ai.1.toList=([110,111,114,109,97,108,108,121]:List UInt8)then((oC.f k o ai.2.1).bind fun aw=>(if aw.2.2=true then((jR.f k o I aw.1 aw.2.1).bind fun az=>((qF.f az).bind fun aR=>(some aR)))else(some (⟨#[119,104,97,116]⟩:BA))))else((kJ.f k o ai.2.1).bind fun aq=>(if aq.2=true then(if ai.1.toList=([98,101,108,105,101,118,101]:List UInt8)then((qF.f ((Go.bits .andNot .i64 af aq.1)==0)).bind fun aT=>(some aT))else(if ai.1.toList=([102,105,114,109]:List UInt8)then((pq.f k o I aq.1).bind fun aA=>((strconv_Itoa.f aA).bind fun aU=>(some aU)))else(if ai.1.toList=([103,105,118,101]:List UInt8)then((qb.f k o I aq.1).bind fun aC=>((gS.f k o aC).bind fun aV=>(some aV)))else(if ai.1.toList=([117,112,100,97,116,101]:List UInt8)then((jm.f k o af aq.1).bind fun aD=>((gS.f k o aD).bind fun aW=>(some aW)))else(if ai.1.toList=([110,101,97,114]:List UInt8)then((kd.f k o af aq.1).bind fun aE=>((gS.f k o aE).bind fun aY=>(some aY)))else(some (⟨#[119,104,97,116]⟩:BA)))))))else(some (⟨#[119,104,97,116]⟩:BA)))))else(some (⟨#[119,104,97,116]⟩:BA)))))))
theorem jf.hZ:∀k,(∀y0 y1 y2 y3,lS (jf.l0 k y0 y1 y2 y3) (jf.l0 (k+1) y0 y1 y2 y3))
 |0=>fun _ _ _ _=> .z (by simp only[jf.l0])
 |k+1=>by
  have i0:=jf.hZ k;exact fun _ _ _ _=>by unfold jf.l0;repeat' first|infer_instance|refine lS.i (x:=?_) (y:=?_)|refine lS.b (x:=?_) (y:=fun _=>?_)
instance jf.mo {k a0 a1 a2 a3}:lS (jf.f k a0 a1 a2 a3) (jf.f (k+1) a0 a1 a2 a3):=by have i0:=jf.hZ k;unfold jf.f;repeat' first|infer_instance|refine lS.i (x:=?_) (y:=?_)|refine lS.b (x:=?_) (y:=fun _=>?_)
def jf.Fm:Bool×List (List Nat×List Nat):=(true,[([],[]),([0],[0]),([],[]),([2],[2]),([],[]),([4],[4]),([],[]),([3,5,6],[3,5,6]),([1,7,7],[1,7]),([8,8,0,1,2,3,4,5,6,7,8],[8])])
def jf.GM:List Nat:=[0,1,0,4,0,16,0,124,255,511]
theorem jf.AX:rtab .any (opsOf Tryz.f55 32)=jf.Fm:=by kernel_rfl
theorem jf.yk:waitsOk jf.Fm.2 jf.GM=true:=by kernel_rfl
def jf.Fo:Bool×List (List Nat×List Nat):=(true,[([],[]),([0],[0]),([],[]),([2],[2]),([],[]),([],[]),([3,4,5],[3,4,5]),([1,6,6],[1,6]),([7,7,0,1,2,3,4,5,6,7],[7])])
def jf.GN:List Nat:=[0,1,0,4,0,0,60,127,255]
theorem jf.AY:rtab .any (opsOf Tryz.f55 34)=jf.Fo:=by kernel_rfl
theorem jf.yl:waitsOk jf.Fo.2 jf.GN=true:=by kernel_rfl
def jf.Fp:Bool×List (List Nat×List Nat):=(true,[([],[]),([0],[0]),([],[]),([2],[2]),([],[]),([],[]),([3,4,5],[3,4,5]),([1,6,6],[1,6]),([7,7,0,1,2,3,4,5,6,7],[7])])
def jf.GO:List Nat:=[0,1,0,4,0,0,60,127,255]
theorem jf.AZ:rtab .any (opsOf Tryz.f55 36)=jf.Fp:=by kernel_rfl
theorem jf.ym:waitsOk jf.Fp.2 jf.GO=true:=by kernel_rfl
theorem jf.calls (k:Nat) (o:Int) (aa:Option Addr) (ab:Nat) (I:LI) (an:Option Addr) (ao:Nat) (ag:LL) (a1:BA) (r:BA) (w:World) (m:Int) (hm:w.cell? ⟨0,0,none⟩=some (.int .i64 m)) (bn:Kd.C KI w aa I.length I) (bo:I.length≤ab) (bp:Kd.C KS w an ag.length ag) (bq:ag.length≤ao) (h:jf.f k o I ag a1=some r):
  Calls Tryz.prog 55 #[.agg #[.int .i64 o,.slice aa I.length ab,.slice an ag.length ao],.string a1] w fun e w'=>e= .returned (.string r)∧Below w.heap.size w w':=by
 have gE:=Tryz.underlying26;have gF:=Tryz.underlying87;have aj:=bm bn;have ak:=bm bo;clear bn bo;have fU:=bm bp;have fV:=bm bq;clear bp bq;have HB:=bm (Below.refl w.heap.size w);have HM:=bm (fun W (hb:Below w.heap.size w W)=>(hb.cell (World.block_lt_of_cell? _ _ hm)).trans hm);clear hm;have H:=h;clear h;unfold jf.f at H;obtain⟨af,A3,H⟩:=bE H;try dsimp only at H
 rcases iT H with⟨c4,H⟩|⟨c4,H⟩
 obtain⟨dg,dh⟩:=pf c4;clear c4;obtain⟨aN,A5,H⟩:=bE H;try dsimp only at H
 obtain rfl:=pd H
 rotate_left
 obtain⟨dg,dh⟩:=pe c4;rcases iT H with⟨c10,H⟩|⟨c10,H⟩
 obtain⟨bO,bT⟩:=pf c10;clear c10;obtain⟨bH,a8⟩:∃y_:List BA,y_=(([]:List BA)):=⟨_,rfl⟩;replace H:(jf.l0 k bH I (I.length:Int) 0)=some r:=by first|(rw[a8];exact H)|exact H
 have br:=bm a8;clear a8;have H':=bm H;clear H
 rotate_left
 obtain⟨bO,bT⟩:=pe c10;rcases iT H with⟨bc,H⟩|⟨bc,H⟩
 obtain⟨b6,b7⟩:=pf bc;clear bc;obtain⟨aQ,gh,H⟩:=bE H;try dsimp only at H
 obtain rfl:=pd H
 rotate_left
 obtain⟨b6,b7⟩:=pe bc;obtain⟨⟨ad,ah,dR⟩,aJ,H⟩:=bE H;try dsimp only at H
 by_cases bB:dR=true
 subst bB;rw[if_pos rfl]at H;rcases iT H with⟨bd,H⟩|⟨bd,H⟩
 obtain⟨b8,b9⟩:=pf bd;clear bd;obtain⟨⟨a6,a7,dS⟩,dT,H⟩:=bE H;try dsimp only at H
 by_cases bD:dS=true
 subst bD;rw[if_pos rfl]at H;obtain⟨az,gi,H⟩:=bE H;try dsimp only at H
 obtain⟨aR,gj,H⟩:=bE H;try dsimp only at H
 obtain rfl:=pd H
 rotate_left
 replace bD:=pD bD;subst bD;rw[if_neg pV]at H;obtain rfl:=pd H
 rotate_left
 obtain⟨b8,b9⟩:=pe bd;obtain⟨⟨ar,eM⟩,bb,H⟩:=bE H;try dsimp only at H
 by_cases bF:eM=true
 subst bF;rw[if_pos rfl]at H;rcases iT H with⟨bf,H⟩|⟨bf,H⟩
 obtain⟨cc,cd⟩:=pf bf;clear bf;obtain⟨aT,gq,H⟩:=bE H;try dsimp only at H
 obtain rfl:=pd H
 rotate_left
 obtain⟨cc,cd⟩:=pe bf;rcases iT H with⟨bg,H⟩|⟨bg,H⟩
 obtain⟨cf,cg⟩:=pf bg;clear bg;obtain⟨aA,gr,H⟩:=bE H;try dsimp only at H
 obtain⟨aU,gu,H⟩:=bE H;try dsimp only at H
 obtain rfl:=pd H
 rotate_left
 obtain⟨cf,cg⟩:=pe bg;rcases iT H with⟨bh,H⟩|⟨bh,H⟩
 obtain⟨ch,cj⟩:=pf bh;clear bh;obtain⟨aC,gv,H⟩:=bE H;try dsimp only at H
 obtain⟨aV,gw,H⟩:=bE H;try dsimp only at H
 obtain rfl:=pd H
 rotate_left
 obtain⟨ch,cj⟩:=pe bh;rcases iT H with⟨bj,H⟩|⟨bj,H⟩
 obtain⟨ck,cl⟩:=pf bj;clear bj;obtain⟨aD,gy,H⟩:=bE H;try dsimp only at H
 obtain⟨aW,gz,H⟩:=bE H;try dsimp only at H
 obtain rfl:=pd H
 rotate_left
 obtain⟨ck,cl⟩:=pe bj;rcases iT H with⟨bk,H⟩|⟨bk,H⟩
 obtain⟨cm,cn⟩:=pf bk;clear bk;obtain⟨aE,gC,H⟩:=bE H;try dsimp only at H
 obtain⟨aY,gD,H⟩:=bE H;try dsimp only at H
 obtain rfl:=pd H
 rotate_left
 obtain⟨cm,cn⟩:=pe bk;obtain rfl:=pd H
 rotate_left
 replace bF:=pD bF;subst bF;rw[if_neg pV]at H;obtain rfl:=pd H
 rotate_left
 replace bB:=pD bB;subst bB;rw[if_neg pV]at H;obtain rfl:=pd H
 rotate_left
 all_goals(go_enter Tryz.func55,Tryz.ntmps55;try go_wp2_with (first|(refine re 2 #[.int .i64 o,.slice aa I.length ab,.slice an ag.length ao] 26 ?_;intro ae hg _ J hb;have j:=bm (J);have au:=bG HB hg;replace HB:=bW HB hb;clear hb J hg;obtain⟨_,_,_,_,_,_⟩:=b3 j)|(refine gB (some 20) Tryz.func84 #[.int .i64 o,.slice aa I.length ab] rfl ?_;(refine(kO.calls o _ _ I af _ ?_ ?_ A3.out).mono ?_);exact cY aj HB;exact ak.out;rintro e w8 ⟨rfl,hb⟩;refine⟨_,rfl,?_⟩;replace j:=bU j hb;replace HB:=bW HB hb;clear hb;obtain⟨_,_,_,_,_,_⟩:=b3 j)|(refine gB (some 27) Tryz.func85 #[.int .i64 o,.int .i64 af] rfl ?_;(refine(gS.calls k o af aN _ A5.out).mono ?_);rintro e w' ⟨rfl,⟨nd,rfl⟩⟩;refine⟨_,rfl,?_⟩)|((with_reducible refine gate_dst (N:=30) rfl ?_);refine Kd.R_lit Kd.string _ 9 ?hg (N:=30) ?hd (xs:=([]:List BA)) (inner:=[]) (ok:=fun _=>True) (okp:=fun _=>True) ?hr ?hp (fun _ hk=>hk) trivial (Below.refl _ _) (Nat.le_refl _) (by simp) ?_;(case hd=>rfl);(case hg=>rfl);(case hr=>first|(go_simp;done)|(go_simp;rfl));(case hp=>exact(Reps.none _ _));intro _ _ aZ hb fW bV;clear fW bV;(first|rw[←br.out]at aZ|(simp only[Int.reduceToNat]at aZ;rw[←br.out]at aZ));have bZ:=rL aZ HB;replace j:=bU j hb;replace HB:=bW HB hb;clear hb aZ;obtain⟨_,_,_,_,_,_⟩:=b3 j)|(refine gB (some 51) Tryz.func86 #[.int .i64 (ag.length:Int)] rfl ?_;(refine(strconv_Itoa.calls (ag.length:Int) aQ _ gh.out).mono ?_);rintro e w' ⟨rfl,⟨nd,rfl⟩⟩;refine⟨_,rfl,?_⟩)|(refine gB (some 54) Tryz.func39 #[.string a1,.string (⟨#[32]⟩:BA)] rfl ?_;(refine(strings_Cut.calls a1 (⟨#[32]⟩:BA) ad ah true _ aJ.out).mono ?_);rintro e w' ⟨rfl,⟨nd,rfl⟩⟩;refine⟨_,rfl,?_⟩;(try(rw[drewN_self w8];generalize rk:World.drewN w8 _=w8;replace j:oI w8 ae #[.int .i64 o,.slice aa I.length ab,.slice an ag.length ao] 26:=⟨by rw[←rk];exact(kS j)⟩;replace HB:hJ (Below w.heap.size w w8):=⟨by rw[←rk];exact(wZ HB)⟩;clear rk));obtain⟨_,_,_,_,_,_⟩:=b3 j)|(refine gB (some 66) Tryz.func88 #[.int .i64 o,.string ah] rfl ?_;(refine(oC.calls k o ah a6 a7 true _ m (HM.out _ (wZ HB)) dT.out).mono ?_);rintro e _ ⟨rfl,hb⟩;refine⟨_,rfl,?_⟩;replace j:=bU j hb;replace HB:=bW HB hb;clear hb)|(refine re 12 #[.int .i64 0,.int .i64 0] 87 ?_;intro _ hg _ J hb;have aI:=bm (J);have cb:=bG HB hg;replace HB:=bW HB hb;have ax:=bL j hg;have ay:=bM j hg;replace j:=bU j hb;clear hb J hg;obtain⟨_,_⟩:=pW ay ax;obtain⟨_,_,_,_⟩:=b2 aI;obtain⟨_,_,_,_,_,_⟩:=b3 j)|(refine gB (some 76) Tryz.func90 #[.int .i64 o,.slice aa I.length ab,.agg #[.int .i64 a6,.int .i64 a7]] rfl ?_;(refine(jR.calls k o _ _ I a6 a7 az _ ?_ ?_ gi.out).mono ?_);exact Kd.C_below aj.out (wZ HB);exact ak.out;rintro e _ ⟨rfl,hb⟩;refine⟨_,rfl,?_⟩;replace j:=bU j hb;replace aI:=bP #[.int .i64 a6,.int .i64 a7] aI hb;replace HB:=bW HB hb;clear hb)|(refine gB (some 77) Tryz.func89 #[.bool az] rfl ?_;(refine(qF.calls az aR _ gj.out).mono ?_);rintro e w' ⟨rfl,⟨nd,rfl⟩⟩;refine⟨_,rfl,?_⟩)|(refine gB (some 66) Tryz.func88 #[.int .i64 o,.string ah] rfl ?_;(refine(oC.calls k o ah a6 a7 false _ m (HM.out _ (wZ HB)) dT.out).mono ?_);rintro e _ ⟨rfl,hb⟩;refine⟨_,rfl,?_⟩;replace j:=bU j hb;replace HB:=bW HB hb;clear hb)|(refine gB (some 54) Tryz.func39 #[.string a1,.string (⟨#[32]⟩:BA)] rfl ?_;(refine(strings_Cut.calls a1 (⟨#[32]⟩:BA) ad ah true _ aJ.out).mono ?_);rintro e w' ⟨rfl,⟨nd,rfl⟩⟩;refine⟨_,rfl,?_⟩;obtain⟨_,_,_,_,_,_⟩:=b3 j)|(refine gB (some 82) Tryz.func73 #[.int .i64 o,.string ah] rfl ?_;(refine(kJ.calls k o ah ar true _ bb.out).mono ?_);rintro e ht ⟨rfl,hb⟩;refine⟨_,rfl,?_⟩;replace j:=bU j hb;replace HB:=bW HB hb;clear hb;obtain⟨_,_,_,_,_,_⟩:=b3 j)|(refine gB (some 94) Tryz.func89 #[.bool ((Go.bits .andNot .i64 af ar)==0)] rfl ?_;(refine(qF.calls ((Go.bits .andNot .i64 af ar)==0) aT _ gq.out).mono ?_);rintro e w' ⟨rfl,⟨nd,rfl⟩⟩;refine⟨_,rfl,?_⟩)|(refine gB (some 102) Tryz.func91 #[.int .i64 o,.slice aa I.length ab,.int .i64 ar] rfl ?_;(refine(pq.calls k o _ _ I ar aA _ ?_ ?_ gr.out).mono ?_);exact cY aj HB;exact ak.out;rintro e _ ⟨rfl,hb⟩;refine⟨_,rfl,?_⟩;replace j:=bU j hb;replace HB:=bW HB hb;clear hb)|(refine gB (some 103) Tryz.func86 #[.int .i64 aA] rfl ?_;(refine(strconv_Itoa.calls aA aU _ gu.out).mono ?_);rintro e w' ⟨rfl,⟨nd,rfl⟩⟩;refine⟨_,rfl,?_⟩)|(refine gB (some 82) Tryz.func73 #[.int .i64 o,.string ah] rfl ?_;(refine(kJ.calls k o ah ar false _ bb.out).mono ?_);rintro e _ ⟨rfl,hb⟩;refine⟨_,rfl,?_⟩;replace j:=bU j hb;replace HB:=bW HB hb;clear hb)|(refine gB (some 54) Tryz.func39 #[.string a1,.string (⟨#[32]⟩:BA)] rfl ?_;(refine(strings_Cut.calls a1 (⟨#[32]⟩:BA) ad ah false _ aJ.out).mono ?_);rintro e w' ⟨rfl,⟨nd,rfl⟩⟩;refine⟨_,rfl,?_⟩)))
 ·go_ret;exact⟨eF,wZ HB⟩
 ·go_loopg [6,34] k (fun kq v6 fX w'=>∃(aG:List BA) (av:Int),fX= .int .i64 av∧hJ (jf.l0 kq aG I (I.length:Int) av=some r)∧hJ (kq≤k)∧hJ (Kd.R Kd.string 9 w' w.heap.size (fun _=>True) v6 aG)∧hJ (w'.heap[ae]?=some (.cells #[.int .i64 o,(.slice aa I.length ab),(.slice an ag.length ao)] 26 (0,0)))∧hJ (Below w.heap.size w w'))
  case atStart=>exact⟨(bH),(0),eA,H',⟨Nat.le_refl _⟩,⟨rS bZ⟩,⟨kS j⟩,⟨wZ HB⟩⟩
  case round=>
   clear H';obtain⟨aG,av,rfl,HA,dx,oJ,j,HB⟩:=hrel;cases gk with
   |zero=>exact absurd HA.out (by simp[jf.l0])
   |succ k1=>
    have H:=HA.out;clear HA;simp only[jf.l0]at H;rcases pP H with⟨b0,H⟩|⟨b0,H⟩
    ·obtain⟨fY,H⟩:=pN H;obtain⟨fZ,H⟩:=pN H;obtain⟨aK,ga,H⟩:=bE H;try dsimp only at H
     obtain⟨dA,H⟩:=iN H;have b1:=bm dA;clear dA;obtain⟨bJ,ba⟩:∃y_:List BA,y_=(aG++ [aK]):=⟨_,rfl⟩;rw[←ba]at H
     have b4:=bm ba;clear ba;have H':=bm H;clear H;have bu:0≤(av:Int):=ko;have bw:av<(I.length:Int):=ko;obtain⟨gb,dB,aH⟩:=Kd.at_int aj.out av bu bw;cases dB;replace aH:=pE HB aH;replace bu:=pM bu;replace bw:=pM bw;go_wp2_with (first|(refine gB (some 40) Tryz.func86 #[.int .i64 (rd I av)] rfl ?_;(refine(strconv_Itoa.calls (rd I av) aK _ ga.out).mono ?_);rintro e w' ⟨rfl,⟨nd,rfl⟩⟩;refine⟨_,rfl,?_⟩)|((with_reducible refine gate_builtin (b:=.append) (xs:= #[.tmp 38,.tmp 41]) rfl ?_);at_builtin;refine Kd.R_append Kd.string (w0:=w) w.heap.size rfl (.tmp 38) (.tmp 41) 27 9 (.string ⟨#[]⟩) 16 rfl Tryz.underlying27 info9 rfl (by decide) (by omega) u6 aG aK [.string aK] (fun _=>True) (fun _=>False) rfl rfl ?aP (fun _ hk=>hk.elim) ?aF ?aO ?aB ?aS ?aL ?_;(case aP=>exact rfl);(case aB=>exact(wZ HB));(case aF=>exact(fun _ _=>trivial));(case aO=>exact(rS oJ));(case aS=>exact(below_size (wZ HB)));(case aL=>have:=b1.out;omega);intro _ _ ho hb hg gf;rw[←b4.out]at ho;replace j:=bN j hg (Kd.R_ne oJ.out j.out (by decide));replace HB:=bm (hb);have b5:=bm (ho);clear oJ;clear ho hb hg gf));go_roundg k1
     case measure=>have:=dx.out;omega
     case rel=>exact⟨(bJ),(wrap64 (av+1)),eA,H',⟨by have:=dx.out;omega⟩,⟨rS b5⟩,⟨kS j⟩,⟨wZ HB⟩⟩
    ·obtain⟨bl,gg,H⟩:=bE H;try dsimp only at H
     obtain rfl:=pd H;obtain⟨dC,dD,dE⟩:=Kd.R_slice oJ.out;subst dE;go_wp2_with (first|(refine gB (some 45) Tryz.func87 #[.slice dC aG.length dD,.string (⟨#[44]⟩:BA)] rfl ?_;(refine(strings_Join.calls _ _ aG (⟨#[44]⟩:BA) bl _ ?_ ?_ (strings_Join.own oJ.out) gg.out).mono ?_);exact cZ (Kd.R_reads' oJ.out).2.2;exact(Kd.R_reads' oJ.out).2.1;rintro e _ ⟨rfl,hb⟩;refine⟨_,rfl,?_⟩;replace oJ:=bR oJ hb;replace j:=bU j hb;replace HB:=bW HB hb;clear hb));go_ret;exact⟨eF,wZ HB⟩
 iterate 5(go_ret;exact⟨eF,wZ HB⟩)
 ·replace j:=pG j;replace HB:=pL HB;refine start_ (n:=10) (S:=fun w'=>w'.cell? ⟨ae,0,none⟩=some (.int .i64 o)∧w'.cell? ⟨ae,1,none⟩=some (.slice aa I.length ab)∧w'.cell? ⟨ae,2,none⟩=some (.slice an ag.length ao)) (ds:=[]) #[false,false,false,false,false,false,false,false,false,false] (by kernel_rfl) rfl rfl ⟨bz j 0,bz j 1,bz j 2⟩ (fun hHeld=>?_);refine with_tabW jf.AX jf.yk (fun al aM=>?_);generalize ht.drew=hC at j HB hHeld⊢;refine pA 0 106 al ?_ ?_ ?_ ?_ (pA 2 108 al ?_ ?_ ?_ ?_ (pA 4 110 al ?_ ?_ ?_ ?_ (pA 6 112 al ?_ ?_ ?_ ?_ (tA 1 107 al aM hHeld ?_ ?_ ?_ ?_ (tA 3 109 al aM hHeld ?_ ?_ ?_ ?_ (tA 5 111 al aM hHeld ?_ ?_ ?_ ?_ ?_))))))
  all_goals first|(rintro w' ⟨_,_,_⟩;go_simp;with_reducible rfl)|(intro w';go_simp;with_reducible rfl)|(simp only[Act.put,qA,qB,qC,i64_w,i32_w];rfl)|skip
  refine oA 7 (some 113) al (fun K hK=>?_);refine gO Tryz.func92 #[.int .i64 o,.slice aa I.length ab,.int .i64 ar] rfl ?_;refine(qb.calls k o _ _ I ar aC _ ?ix ?gH gv.out).mono ?_;(case ix=>exact cY aj HB);(case gH=>exact ak.out);rintro e _ ⟨rfl,hb⟩;refine⟨_,rfl,?_⟩;replace j:=bU j hb;replace HB:=bW HB hb;clear hb;refine hK.out _ _ ⟨bz j 0,bz j 1,bz j 2⟩ (fun hHeld=>?_);clear hK K;refine pU 113 ?_
  refine oA 8 (some 114) al (fun K hK=>?_);refine gO Tryz.func85 #[.int .i64 o,.int .i64 aC] rfl ?_;refine(gS.calls k o aC aV _ gw.out).mono ?_;rintro e w' ⟨rfl,⟨nd,rfl⟩⟩;refine⟨_,rfl,?_⟩;refine hK.out _ _ ⟨bz j 0,bz j 1,bz j 2⟩ (fun hHeld=>?_);clear hK K;refine pU 114 ?_
  refine pA 9 4 al ?_ ?_ ?_ ?_ ?_
  all_goals first|(intro w';go_simp;with_reducible rfl)|(simp only[Act.put,qA,qB,qC,i64_w,i32_w];rfl)|skip
  refine done_ (done_of al.out (by kernel_rfl)) ?_;try go_wp2
  go_ret;exact⟨eF,wZ HB⟩
 ·replace j:=pG j;replace HB:=pL HB;refine start_ (n:=9) (S:=fun w'=>w'.cell? ⟨ae,0,none⟩=some (.int .i64 o)∧w'.cell? ⟨ae,1,none⟩=some (.slice aa I.length ab)∧w'.cell? ⟨ae,2,none⟩=some (.slice an ag.length ao)) (ds:=[]) AW (by kernel_rfl) rfl rfl ⟨bz j 0,bz j 1,bz j 2⟩ (fun hHeld=>?_);refine with_tabW jf.AY jf.yl (fun al aM=>?_);generalize ht.drew=hG at j HB hHeld⊢;refine pA 0 117 al ?_ ?_ ?_ ?_ (pA 2 119 al ?_ ?_ ?_ ?_ (pA 4 121 al ?_ ?_ ?_ ?_ (pA 5 122 al ?_ ?_ ?_ ?_ (tA 1 118 al aM hHeld ?_ ?_ ?_ ?_ (tA 3 120 al aM hHeld ?_ ?_ ?_ ?_ ?_)))))
  all_goals first|(rintro w' ⟨_,_,_⟩;go_simp;with_reducible rfl)|(intro w';go_simp;with_reducible rfl)|(simp only[Act.put,qA,qB,qC,i64_w,i32_w];rfl)|skip
  refine oA 6 (some 123) al (fun K hK=>?_);refine gO Tryz.func93 #[.int .i64 o,.int .i64 af,.int .i64 ar] rfl ?_;refine(jm.calls k o af ar aD _ gy.out).mono ?_;rintro e _ ⟨rfl,hb⟩;refine⟨_,rfl,?_⟩;replace j:=bU j hb;replace HB:=bW HB hb;clear hb;refine hK.out _ _ ⟨bz j 0,bz j 1,bz j 2⟩ (fun hHeld=>?_);clear hK K;refine pU 123 ?_
  refine oA 7 (some 124) al (fun K hK=>?_);refine gO Tryz.func85 #[.int .i64 o,.int .i64 aD] rfl ?_;refine(gS.calls k o aD aW _ gz.out).mono ?_;rintro e w' ⟨rfl,⟨nd,rfl⟩⟩;refine⟨_,rfl,?_⟩;refine hK.out _ _ ⟨bz j 0,bz j 1,bz j 2⟩ (fun hHeld=>?_);clear hK K;refine pU 124 ?_
  refine pA 8 4 al ?_ ?_ ?_ ?_ ?_
  all_goals first|(intro w';go_simp;with_reducible rfl)|(simp only[Act.put,qA,qB,qC,i64_w,i32_w];rfl)|skip
  refine done_ (done_of al.out (by kernel_rfl)) ?_;try go_wp2
  go_ret;exact⟨eF,wZ HB⟩
 ·replace j:=pG j;replace HB:=pL HB;refine start_ (n:=9) (S:=fun w'=>w'.cell? ⟨ae,0,none⟩=some (.int .i64 o)∧w'.cell? ⟨ae,1,none⟩=some (.slice aa I.length ab)∧w'.cell? ⟨ae,2,none⟩=some (.slice an ag.length ao)) (ds:=[]) AW (by kernel_rfl) rfl rfl ⟨bz j 0,bz j 1,bz j 2⟩ (fun hHeld=>?_);refine with_tabW jf.AZ jf.ym (fun al aM=>?_);generalize ht.drew=gJ at j HB hHeld⊢;refine pA 0 127 al ?_ ?_ ?_ ?_ (pA 2 129 al ?_ ?_ ?_ ?_ (pA 4 131 al ?_ ?_ ?_ ?_ (pA 5 132 al ?_ ?_ ?_ ?_ (tA 1 128 al aM hHeld ?_ ?_ ?_ ?_ (tA 3 130 al aM hHeld ?_ ?_ ?_ ?_ ?_)))))
  all_goals first|(rintro w' ⟨_,_,_⟩;go_simp;with_reducible rfl)|(intro w';go_simp;with_reducible rfl)|(simp only[Act.put,qA,qB,qC,i64_w,i32_w];rfl)|skip
  refine oA 6 (some 133) al (fun K hK=>?_);refine gO Tryz.func94 #[.int .i64 o,.int .i64 af,.int .i64 ar] rfl ?_;refine(kd.calls k o af ar aE _ gC.out).mono ?_;rintro e _ ⟨rfl,hb⟩;refine⟨_,rfl,?_⟩;replace j:=bU j hb;replace HB:=bW HB hb;clear hb;refine hK.out _ _ ⟨bz j 0,bz j 1,bz j 2⟩ (fun hHeld=>?_);clear hK K;refine pU 133 ?_
  refine oA 7 (some 134) al (fun K hK=>?_);refine gO Tryz.func85 #[.int .i64 o,.int .i64 aE] rfl ?_;refine(gS.calls k o aE aY _ gD.out).mono ?_;rintro e w' ⟨rfl,⟨nd,rfl⟩⟩;refine⟨_,rfl,?_⟩;refine hK.out _ _ ⟨bz j 0,bz j 1,bz j 2⟩ (fun hHeld=>?_);clear hK K;refine pU 134 ?_
  refine pA 8 4 al ?_ ?_ ?_ ?_ ?_
  all_goals first|(intro w';go_simp;with_reducible rfl)|(simp only[Act.put,qA,qB,qC,i64_w,i32_w];rfl)|skip
  refine done_ (done_of al.out (by kernel_rfl)) ?_;try go_wp2
  go_ret;exact⟨eF,wZ HB⟩
 iterate 3(go_ret;exact⟨eF,wZ HB⟩)
end Go.Proofs.YtigeaokfhnlkcaaGreatDoor.P
