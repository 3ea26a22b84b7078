import Derived.Test.YtihgpkohglcijaaGreatDoorPx0
import Derived.Test.YtihgpkohglcijaaGreatDoorPx15
import Derived.Test.YtihgpkohglcijaaGreatDoorPx18
import Derived.Test.YtihgpkohglcijaaGreatDoorPx20
import Derived.Test.YtihgpkohglcijaaGreatDoorPx22
import Derived.Test.YtihgpkohglcijaaGreatDoorPx23
import Derived.Test.YtihgpkohglcijaaGreatDoorPx24
namespace Go.Proofs.YtihgpkohglcijaaGreatDoor.P
open Go.RowKit YtihgpkohglcijaaGreatDoorW PrintWords PrintLast PrintMore
attribute [local go_sem] max2_int min2_int max_two min_two max_three min_three max_four min_four
set_option linter.unusedVariables false
set_option linter.unusedSimpArgs false
set_option maxHeartbeats 8000000
set_option maxRecDepth 100000
abbrev zf:Array Bool:= #[false,false,false,false,false,false,false,false,false]
def iK.l0:Nat→List ByteArray→List Int→Int→Int→Option (ByteArray)
 |0,_,_,_,_=>none
 |k+1,x6,x32,Fk,x34=>if x34<Fk then(if 0≤x34 then(if x34<(x32.length:Int)then((strconv_Itoa.f (rd x32 x34)).bind fun aK=>(if x6.length<8796093022208 then(iK.l0 k (x6++ [aK]) x32 Fk (wrap64 (x34+1)))else(none)))else(none))else(none))else((strings_Join.f x6 (⟨#[44]⟩:ByteArray)).bind fun bl=>(some bl))
def iK.f (k:Nat) (o:Int) (I:List Int) (ag:List (List Int)) (a1:ByteArray):Option (ByteArray):=(ko.f o I).bind fun af=>(if a1.toList=([99,111,114,101]:List UInt8)then((gU.f k o af).bind fun aN=>(some aN))else(if a1.toList=([114,97,110,107,115]:List UInt8)then(iK.l0 k (([]:List ByteArray)) I (I.length:Int) 0)else(if a1.toList=([112,97,115,116]:List UInt8)then((strconv_Itoa.f (ag.length:Int)).bind fun aQ=>(some aQ))else((strings_Cut.f a1 (⟨#[32]⟩:ByteArray)).bind fun ai=>(if ai.2.2=true then(if ai.1.toList=([110,111,114,109,97,108,108,121]:List UInt8)then((kN.f k o ai.2.1).bind fun aw=>(if aw.2.2=true then((ks.f k o I aw.1 aw.2.1).bind fun az=>((mS.f az).bind fun aR=>(some aR)))else(some (⟨#[119,104,97,116]⟩:ByteArray))))else((jH.f k o ai.2.1).bind fun aq=>(if aq.2=true then(if ai.1.toList=([98,101,108,105,101,118,101]:List UInt8)then((mS.f ((Go.bits .andNot .i64 af aq.1)==0)).bind fun aT=>(some aT))else(if ai.1.toList=([102,105,114,109]:List UInt8)then((lJ.f k o I aq.1).bind fun aA=>((strconv_Itoa.f aA).bind fun aU=>(some aU)))else(if ai.1.toList=([103,105,118,101]:List UInt8)then((mb.f k o I aq.1).bind fun aC=>((gU.f k o aC).bind fun aV=>(some aV)))else(if ai.1.toList=([117,112,100,97,116,101]:List UInt8)then((iF.f k o af aq.1).bind fun aD=>((gU.f k o aD).bind fun aW=>(some aW)))else(if ai.1.toList=([110,101,97,114]:List UInt8)then((jt.f k o af aq.1).bind fun aE=>((gU.f k o aE).bind fun aY=>(some aY)))else(some (⟨#[119,104,97,116]⟩:ByteArray)))))))else(some (⟨#[119,104,97,116]⟩:ByteArray)))))else(some (⟨#[119,104,97,116]⟩:ByteArray)))))))
theorem iK.gF:∀k,(∀y0 y1 y2 y3,ku (iK.l0 k y0 y1 y2 y3) (iK.l0 (k+1) y0 y1 y2 y3))
 |0=>fun _ _ _ _=> .z (by simp only[iK.l0])
 |k+1=>by
  have i0:=iK.gF k;exact fun _ _ _ _=>by unfold iK.l0;repeat' first|infer_instance|refine ku.i (x:=?_) (y:=?_)|refine ku.b (x:=?_) (y:=fun _=>?_)
instance iK.mo {k a0 a1 a2 a3}:ku (iK.f k a0 a1 a2 a3) (iK.f (k+1) a0 a1 a2 a3):=by have i0:=iK.gF k;unfold iK.f;repeat' first|infer_instance|refine ku.i (x:=?_) (y:=?_)|refine ku.b (x:=?_) (y:=fun _=>?_)
def iK.Dk:Bool×List (List Nat×List Nat):=(true,[([],[]),([0],[0]),([],[]),([2],[2]),([],[]),([4],[4]),([],[]),([3,5,6],[3,5,6]),([1,7,7],[1,7]),([8,8,0,1,2,3,4,5,6,7,8],[8])])
def iK.Ey:List Nat:=[0,1,0,4,0,16,0,124,255,511]
theorem iK.zg:rtab .any (opsOf Tryz.f99 32)=iK.Dk:=by kernel_rfl
theorem iK.wU:waitsOk iK.Dk.2 iK.Ey=true:=by kernel_rfl
def iK.Dl:Bool×List (List Nat×List Nat):=(true,[([],[]),([0],[0]),([],[]),([2],[2]),([],[]),([],[]),([3,4,5],[3,4,5]),([1,6,6],[1,6]),([7,7,0,1,2,3,4,5,6,7],[7])])
def iK.Ez:List Nat:=[0,1,0,4,0,0,60,127,255]
theorem iK.zh:rtab .any (opsOf Tryz.f99 34)=iK.Dl:=by kernel_rfl
theorem iK.wV:waitsOk iK.Dl.2 iK.Ez=true:=by kernel_rfl
def iK.Dm:Bool×List (List Nat×List Nat):=(true,[([],[]),([0],[0]),([],[]),([2],[2]),([],[]),([],[]),([3,4,5],[3,4,5]),([1,6,6],[1,6]),([7,7,0,1,2,3,4,5,6,7],[7])])
def iK.EA:List Nat:=[0,1,0,4,0,0,60,127,255]
theorem iK.zi:rtab .any (opsOf Tryz.f99 36)=iK.Dm:=by kernel_rfl
theorem iK.wW:waitsOk iK.Dm.2 iK.EA=true:=by kernel_rfl
theorem iK.calls (k:Nat) (o:Int) (aa:Option Addr) (ab:Nat) (I:List Int) (an:Option Addr) (ao:Nat) (ag:List (List Int)) (a1:ByteArray) (r:ByteArray) (w:World) (m:Int) (hm:w.cell? ⟨0,0,none⟩=some (.int .i64 m)) (bn:Kd.C (Kd.int .i64) w aa I.length I) (bo:I.length≤ab) (bp:Kd.C (Kd.slice 3 (Kd.int .i64)) w an ag.length ag) (bq:ag.length≤ao) (h:iK.f k o I ag a1=some r):
  Calls Tryz.prog 99 #[.agg #[.int .i64 o,.slice aa I.length ab,.slice an ag.length ao],.string a1] w fun e w'=>e= .returned (.string r)∧Below w.heap.size w w':=by
 have gC:=Tryz.underlying26;have gD:=Tryz.underlying76;have aj:=bm bn;have ak:=bm bo;clear bn bo;have fS:=bm bp;have fT:=bm bq;clear bp bq;have HB:=bm (Below.refl w.heap.size w);have HM:=bm (fun W (hb:Below w.heap.size w W)=>(hb.cell (World.block_lt_of_cell? _ _ hm)).trans hm);clear hm;have H:=h;clear h;unfold iK.f at H;obtain⟨af,A3,H⟩:=bE H;try dsimp only at H
 rcases iT H with⟨c4,H⟩|⟨c4,H⟩
 obtain⟨df,dh⟩:=vl c4;clear c4;obtain⟨aN,A5,H⟩:=bE H;try dsimp only at H
 obtain rfl:=vZ H
 rotate_left
 obtain⟨df,dh⟩:=vk c4;rcases iT H with⟨c10,H⟩|⟨c10,H⟩
 obtain⟨bJ,bO⟩:=vl c10;clear c10;obtain⟨bF,a8⟩:∃y_:List ByteArray,y_=(([]:List ByteArray)):=⟨_,rfl⟩;replace H:(iK.l0 k bF I (I.length:Int) 0)=some r:=by first|(rw[a8];exact H)|exact H
 have br:=bm a8;clear a8;have H':=bm H;clear H
 rotate_left
 obtain⟨bJ,bO⟩:=vk c10;rcases iT H with⟨bc,H⟩|⟨bc,H⟩
 obtain⟨b5,b6⟩:=vl bc;clear bc;obtain⟨aQ,gf,H⟩:=bE H;try dsimp only at H
 obtain rfl:=vZ H
 rotate_left
 obtain⟨b5,b6⟩:=vk bc;obtain⟨⟨ad,ah,dR⟩,aJ,H⟩:=bE H;try dsimp only at H
 by_cases bA:dR=true
 subst bA;rw[if_pos rfl]at H;rcases iT H with⟨bd,H⟩|⟨bd,H⟩
 obtain⟨b7,b8⟩:=vl bd;clear bd;obtain⟨⟨a6,a7,dS⟩,dT,H⟩:=bE H;try dsimp only at H
 by_cases bB:dS=true
 subst bB;rw[if_pos rfl]at H;obtain⟨az,gg,H⟩:=bE H;try dsimp only at H
 obtain⟨aR,gh,H⟩:=bE H;try dsimp only at H
 obtain rfl:=vZ H
 rotate_left
 replace bB:=uZ bB;subst bB;rw[if_neg vR]at H;obtain rfl:=vZ H
 rotate_left
 obtain⟨b7,b8⟩:=vk bd;obtain⟨⟨ar,eK⟩,bb,H⟩:=bE H;try dsimp only at H
 by_cases bD:eK=true
 subst bD;rw[if_pos rfl]at H;rcases iT H with⟨bf,H⟩|⟨bf,H⟩
 obtain⟨cb,cc⟩:=vl bf;clear bf;obtain⟨aT,gn,H⟩:=bE H;try dsimp only at H
 obtain rfl:=vZ H
 rotate_left
 obtain⟨cb,cc⟩:=vk bf;rcases iT H with⟨bg,H⟩|⟨bg,H⟩
 obtain⟨cd,cf⟩:=vl bg;clear bg;obtain⟨aA,gp,H⟩:=bE H;try dsimp only at H
 obtain⟨aU,gq,H⟩:=bE H;try dsimp only at H
 obtain rfl:=vZ H
 rotate_left
 obtain⟨cd,cf⟩:=vk bg;rcases iT H with⟨bh,H⟩|⟨bh,H⟩
 obtain⟨cg,ch⟩:=vl bh;clear bh;obtain⟨aC,gr,H⟩:=bE H;try dsimp only at H
 obtain⟨aV,gu,H⟩:=bE H;try dsimp only at H
 obtain rfl:=vZ H
 rotate_left
 obtain⟨cg,ch⟩:=vk bh;rcases iT H with⟨bj,H⟩|⟨bj,H⟩
 obtain⟨cj,ck⟩:=vl bj;clear bj;obtain⟨aD,gw,H⟩:=bE H;try dsimp only at H
 obtain⟨aW,gx,H⟩:=bE H;try dsimp only at H
 obtain rfl:=vZ H
 rotate_left
 obtain⟨cj,ck⟩:=vk bj;rcases iT H with⟨bk,H⟩|⟨bk,H⟩
 obtain⟨cl,cm⟩:=vl bk;clear bk;obtain⟨aE,gz,H⟩:=bE H;try dsimp only at H
 obtain⟨aY,gA,H⟩:=bE H;try dsimp only at H
 obtain rfl:=vZ H
 rotate_left
 obtain⟨cl,cm⟩:=vk bk;obtain rfl:=vZ H
 rotate_left
 replace bD:=uZ bD;subst bD;rw[if_neg vR]at H;obtain rfl:=vZ H
 rotate_left
 replace bA:=uZ bA;subst bA;rw[if_neg vR]at H;obtain rfl:=vZ H
 rotate_left
 all_goals(go_enter Tryz.func99,Tryz.ntmps99;try go_wp2_with (first|(refine mK 2 #[.int .i64 o,.slice aa I.length ab,.slice an ag.length ao] 26 ?_;intro ae hg _ J hb;have j:=bm (J);have au:=bG HB hg;replace HB:=bW HB hb;clear hb J hg;obtain⟨_,_,_,_,_,_⟩:=b3 j)|(refine gB (some 20) Tryz.func67 #[.int .i64 o,.slice aa I.length ab] rfl ?_;(with_reducible refine(ko.calls o _ _ I af _ ?_ ?_ A3.out).mono ?_);exact cY aj HB;exact ak.out;rintro e _ ⟨rfl,hb⟩;refine⟨_,rfl,?_⟩;replace j:=bU j hb;replace HB:=bW HB hb;clear hb;obtain⟨_,_,_,_,_,_⟩:=b3 j)|(refine gB (some 27) Tryz.func128 #[.int .i64 o,.int .i64 af] rfl ?_;(with_reducible refine(gU.calls k o af aN _ A5.out).mono ?_);rintro e w' ⟨rfl,⟨nd,rfl⟩⟩;refine⟨_,rfl,?_⟩)|(refine gB (some 20) Tryz.func67 #[.int .i64 o,.slice aa I.length ab] rfl ?_;(with_reducible refine(ko.calls o _ _ I af _ ?_ ?_ A3.out).mono ?_);exact cY aj HB;exact ak.out;rintro e gS ⟨rfl,hb⟩;refine⟨_,rfl,?_⟩;replace j:=bU j hb;replace HB:=bW HB hb;clear hb;obtain⟨_,_,_,_,_,_⟩:=b3 j)|((with_reducible refine gate_dst (N:=30) rfl ?_);refine Kd.R_lit Kd.string _ 9 ?hg (N:=30) ?hd (xs:=([]:List ByteArray)) (inner:=[]) (ok:=fun _=>True) (okp:=fun _=>True) ?hr ?hp (fun _ hk=>hk) trivial (Below.refl _ _) (Nat.le_refl _) (by simp) ?_;(case hd=>rfl);(case hg=>rfl);(case hr=>first|(go_simp;done)|(go_simp;rfl));(case hp=>exact(Reps.none _ _));intro _ _ aZ hb fU bT;clear fU bT;(first|rw[←br.out]at aZ|(simp only[Int.reduceToNat]at aZ;rw[←br.out]at aZ));have bV:=vm aZ HB;replace j:=bU j hb;replace HB:=bW HB hb;clear hb aZ;obtain⟨_,_,_,_,_,_⟩:=b3 j)|(refine gB (some 51) Tryz.func129 #[.int .i64 (ag.length:Int)] rfl ?_;(with_reducible refine(strconv_Itoa.calls (ag.length:Int) aQ _ gf.out).mono ?_);rintro e w' ⟨rfl,⟨nd,rfl⟩⟩;refine⟨_,rfl,?_⟩)|(refine gB (some 54) Tryz.func85 #[.string a1,.string (⟨#[32]⟩:ByteArray)] rfl ?_;(with_reducible refine(strings_Cut.calls a1 (⟨#[32]⟩:ByteArray) ad ah true _ aJ.out).mono ?_);rintro e w' ⟨rfl,⟨nd,rfl⟩⟩;refine⟨_,rfl,?_⟩;(try(rw[drewN_self gS];generalize nz:World.drewN gS _=gS;replace j:lE gS ae #[.int .i64 o,.slice aa I.length ab,.slice an ag.length ao] 26:=⟨by rw[←nz];exact(kS j)⟩;replace HB:gm (Below w.heap.size w gS):=⟨by rw[←nz];exact(wZ HB)⟩;clear nz));obtain⟨_,_,_,_,_,_⟩:=b3 j)|(refine gB (some 66) Tryz.func131 #[.int .i64 o,.string ah] rfl ?_;(with_reducible refine(kN.calls k o ah a6 a7 true _ m (HM.out _ (wZ HB)) dT.out).mono ?_);rintro e _ ⟨rfl,hb⟩;refine⟨_,rfl,?_⟩;replace j:=bU j hb;replace HB:=bW HB hb;clear hb)|(refine mK 12 #[.int .i64 0,.int .i64 0] 76 ?_;intro _ hg _ J hb;have aI:=bm (J);have ca:=bG HB hg;replace HB:=bW HB hb;have ax:=bL j hg;have ay:=bM j hg;replace j:=bU j hb;clear hb J hg;obtain⟨_,_⟩:=vS ay ax;obtain⟨_,_,_,_⟩:=b2 aI;obtain⟨_,_,_,_,_,_⟩:=b3 j)|(refine gB (some 76) Tryz.func133 #[.int .i64 o,.slice aa I.length ab,.agg #[.int .i64 a6,.int .i64 a7]] rfl ?_;(with_reducible refine(ks.calls k o _ _ I a6 a7 az _ ?_ ?_ gg.out).mono ?_);exact Kd.C_below aj.out (wZ HB);exact ak.out;rintro e _ ⟨rfl,hb⟩;refine⟨_,rfl,?_⟩;replace j:=bU j hb;replace aI:=bP #[.int .i64 a6,.int .i64 a7] aI hb;replace HB:=bW HB hb;clear hb)|(refine gB (some 77) Tryz.func132 #[.bool az] rfl ?_;(with_reducible refine(mS.calls az aR _ gh.out).mono ?_);rintro e w' ⟨rfl,⟨nd,rfl⟩⟩;refine⟨_,rfl,?_⟩)|(refine gB (some 66) Tryz.func131 #[.int .i64 o,.string ah] rfl ?_;(with_reducible refine(kN.calls k o ah a6 a7 false _ m (HM.out _ (wZ HB)) dT.out).mono ?_);rintro e _ ⟨rfl,hb⟩;refine⟨_,rfl,?_⟩;replace j:=bU j hb;replace HB:=bW HB hb;clear hb)|(refine gB (some 54) Tryz.func85 #[.string a1,.string (⟨#[32]⟩:ByteArray)] rfl ?_;(with_reducible refine(strings_Cut.calls a1 (⟨#[32]⟩:ByteArray) ad ah true _ aJ.out).mono ?_);rintro e w' ⟨rfl,⟨nd,rfl⟩⟩;refine⟨_,rfl,?_⟩;obtain⟨_,_,_,_,_,_⟩:=b3 j)|(refine gB (some 82) Tryz.func15 #[.int .i64 o,.string ah] rfl ?_;(with_reducible refine(jH.calls k o ah ar true _ bb.out).mono ?_);rintro e hq ⟨rfl,hb⟩;refine⟨_,rfl,?_⟩;replace j:=bU j hb;replace HB:=bW HB hb;clear hb;obtain⟨_,_,_,_,_,_⟩:=b3 j)|(refine gB (some 94) Tryz.func132 #[.bool ((Go.bits .andNot .i64 af ar)==0)] rfl ?_;(with_reducible refine(mS.calls ((Go.bits .andNot .i64 af ar)==0) aT _ gn.out).mono ?_);rintro e w' ⟨rfl,⟨nd,rfl⟩⟩;refine⟨_,rfl,?_⟩)|(refine gB (some 102) Tryz.func134 #[.int .i64 o,.slice aa I.length ab,.int .i64 ar] rfl ?_;(with_reducible refine(lJ.calls k o _ _ I ar aA _ ?_ ?_ gp.out).mono ?_);exact cY aj HB;exact ak.out;rintro e _ ⟨rfl,hb⟩;refine⟨_,rfl,?_⟩;replace j:=bU j hb;replace HB:=bW HB hb;clear hb)|(refine gB (some 103) Tryz.func129 #[.int .i64 aA] rfl ?_;(with_reducible refine(strconv_Itoa.calls aA aU _ gq.out).mono ?_);rintro e w' ⟨rfl,⟨nd,rfl⟩⟩;refine⟨_,rfl,?_⟩)|(refine gB (some 82) Tryz.func15 #[.int .i64 o,.string ah] rfl ?_;(with_reducible refine(jH.calls k o ah ar false _ bb.out).mono ?_);rintro e _ ⟨rfl,hb⟩;refine⟨_,rfl,?_⟩;replace j:=bU j hb;replace HB:=bW HB hb;clear hb)|(refine gB (some 54) Tryz.func85 #[.string a1,.string (⟨#[32]⟩:ByteArray)] rfl ?_;(with_reducible refine(strings_Cut.calls a1 (⟨#[32]⟩:ByteArray) ad ah false _ aJ.out).mono ?_);rintro e w' ⟨rfl,⟨nd,rfl⟩⟩;refine⟨_,rfl,?_⟩)))
 ·go_ret;exact vo HB
 ·go_loopg [6,34] k (fun kq v6 fV w'=>∃(aG:List ByteArray) (av:Int),fV= .int .i64 av∧gm (iK.l0 kq aG I (I.length:Int) av=some r)∧gm (kq≤k)∧gm (Kd.R Kd.string 9 w' w.heap.size (fun _=>True) v6 aG)∧gm (w'.heap[ae]?=some (.cells #[.int .i64 o,(.slice aa I.length ab),(.slice an ag.length ao)] 26 (0,0)))∧gm (Below w.heap.size w w'))
  case atStart=>exact⟨(bF),(0),(by first|rfl|(simp;done)|(simp[*];done)),H',⟨Nat.le_refl _⟩,⟨by(repeat apply Kd.RS);exact bV.out⟩,⟨kS j⟩,⟨wZ HB⟩⟩
  case round=>
   clear H';obtain⟨aG,av,rfl,HA,dx,uL,j,HB⟩:=hrel;cases gk with
   |zero=>exact absurd HA.out (by simp[iK.l0])
   |succ k1=>
    have H:=HA.out;clear HA;simp only[iK.l0]at H;rcases vL H with⟨bZ,H⟩|⟨bZ,H⟩
    ·obtain⟨fW,H⟩:=vJ H;obtain⟨fX,H⟩:=vJ H;obtain⟨aK,fY,H⟩:=bE H;try dsimp only at H
     obtain⟨dA,H⟩:=iN H;have b0:=bm dA;clear dA;obtain⟨bH,ba⟩:∃y_:List ByteArray,y_=(aG++ [aK]):=⟨_,rfl⟩;rw[←ba]at H
     have b1:=bm ba;clear ba;have H':=bm H;clear H;have bu:0≤(av:Int):=jK;have bw:av<(I.length:Int):=jK;obtain⟨fZ,dB,aH⟩:=Kd.at_int aj.out av bu bw;cases dB;replace aH:=vA HB aH;replace bu:=vI bu;replace bw:=vI bw;go_wp2_with (first|(refine gB (some 40) Tryz.func129 #[.int .i64 (rd I av)] rfl ?_;(with_reducible refine(strconv_Itoa.calls (rd I av) aK _ fY.out).mono ?_);rintro e w' ⟨rfl,⟨nd,rfl⟩⟩;refine⟨_,rfl,?_⟩)|((with_reducible refine gate_builtin (b:=.append) (xs:= #[.tmp 38,.tmp 41]) rfl ?_);at_builtin;refine Kd.R_append Kd.string (w0:=w) w.heap.size rfl (.tmp 38) (.tmp 41) 37 9 (.string ⟨#[]⟩) 16 rfl Tryz.underlying37 info9 rfl (by decide) (by omega) u6 aG aK [.string aK] (fun _=>True) (fun _=>False) rfl rfl ?aP (fun _ hk=>hk.elim) ?aF ?aO ?aB ?aS ?aL ?_;(case aP=>exact rfl);(case aB=>exact(wZ HB));(case aF=>exact(fun _ _=>trivial));(case aO=>exact(rS uL));(case aS=>exact(below_size (wZ HB)));(case aL=>have:=b0.out;omega);intro _ _ ho hb hg ga;rw[←b1.out]at ho;replace j:=bN j hg (Kd.R_ne uL.out j.out (by decide));replace HB:=bm (hb);have b4:=bm (ho);clear uL;clear ho hb hg ga));go_roundg k1
     case measure=>have:=dx.out;omega
     case rel=>exact⟨(bH),(wrap64 (av+1)),(by first|rfl|(simp;done)|(simp[*];done)),H',⟨by have:=dx.out;omega⟩,⟨by(repeat apply Kd.RS);exact b4.out⟩,⟨kS j⟩,⟨wZ HB⟩⟩
    ·obtain⟨bl,gb,H⟩:=bE H;try dsimp only at H
     obtain rfl:=vZ H;obtain⟨dC,dD,dE⟩:=Kd.R_slice uL.out;subst dE;go_wp2_with (first|(refine gB (some 45) Tryz.func130 #[.slice dC aG.length dD,.string (⟨#[44]⟩:ByteArray)] rfl ?_;(with_reducible refine(strings_Join.calls _ _ aG (⟨#[44]⟩:ByteArray) bl _ ?_ ?_ (strings_Join.own uL.out) gb.out).mono ?_);exact cZ (Kd.R_reads' uL.out).2.2;exact(Kd.R_reads' uL.out).2.1;rintro e _ ⟨rfl,hb⟩;refine⟨_,rfl,?_⟩;replace uL:=bR uL hb;replace j:=bU j hb;replace HB:=bW HB hb;clear hb));go_ret;exact vo HB
 iterate 5(go_ret;exact vo HB)
 ·replace j:=vC j;replace HB:=vH HB;refine start_ (n:=10) (S:=fun w'=>w'.cell? ⟨ae,0,none⟩=some (.int .i64 o)∧w'.cell? ⟨ae,1,none⟩=some (.slice aa I.length ab)∧w'.cell? ⟨ae,2,none⟩=some (.slice an ag.length ao)) (ds:=[]) #[false,false,false,false,false,false,false,false,false,false] (by kernel_rfl) rfl rfl ⟨(ja j.out 0).trans rfl,(ja j.out 1).trans rfl,(ja j.out 2).trans rfl⟩ (fun hHeld=>?_);refine with_tabW iK.zg iK.wU (fun al aM=>?_);generalize hq.drew=hA at j HB hHeld⊢;refine pA 0 106 al ?_ ?_ ?_ ?_ (pA 2 108 al ?_ ?_ ?_ ?_ (pA 4 110 al ?_ ?_ ?_ ?_ (pA 6 112 al ?_ ?_ ?_ ?_ (tA 1 107 al aM hHeld ?_ ?_ ?_ ?_ (tA 3 109 al aM hHeld ?_ ?_ ?_ ?_ (tA 5 111 al aM hHeld ?_ ?_ ?_ ?_ ?_))))))
  all_goals first|(rintro w' ⟨_,_,_⟩;go_simp;with_reducible rfl)|(intro w';go_simp;with_reducible rfl)|(simp only[Act.put,qA,qB,qC,i64_w,i32_w];rfl)|skip
  refine oA 7 (some 113) al (fun K hK=>?_);refine goes_ Tryz.func135 (by kernel_rfl) rfl #[.int .i64 o,.slice aa I.length ab,.int .i64 ar] (by rfl) rfl rfl (by(try simp only[List.map_toArray,List.map_cons,List.map_nil]);first|done|rfl|(simp only[List.length_drop,List.length_take];rfl)) ?_;with_reducible refine(mb.calls k o _ _ I ar aC _ ?ig ?ij gr.out).mono ?_
  (case ig=>exact cY aj HB);(case ij=>exact ak.out);rintro e _ ⟨rfl,hb⟩;refine⟨_,rfl,?_⟩;replace j:=bU j hb;replace HB:=bW HB hb;(try clear hb);(try clear hb2);(try clear hk);(try clear hi);refine hK.out _ _ ⟨(ja j.out 0).trans rfl,(ja j.out 1).trans rfl,(ja j.out 2).trans rfl⟩ (fun hHeld=>?_);clear hK K;refine vQ 113 ?_
  refine oA 8 (some 114) al (fun K hK=>?_);refine goes_ Tryz.func128 (by kernel_rfl) rfl #[.int .i64 o,.int .i64 aC] (by rfl) rfl rfl (by(try simp only[List.map_toArray,List.map_cons,List.map_nil]);first|done|rfl|(simp only[List.length_drop,List.length_take];rfl)) ?_;with_reducible refine(gU.calls k o aC aV _ gu.out).mono ?_
  rintro e w' ⟨rfl,⟨nd,rfl⟩⟩;refine⟨_,rfl,?_⟩;refine hK.out _ _ ⟨(ja j.out 0).trans rfl,(ja j.out 1).trans rfl,(ja j.out 2).trans rfl⟩ (fun hHeld=>?_);clear hK K;refine vQ 114 ?_
  refine pA 9 4 al ?_ ?_ ?_ ?_ ?_
  all_goals first|(intro w';go_simp;with_reducible rfl)|(simp only[Act.put,qA,qB,qC,i64_w,i32_w];rfl)|skip
  refine done_ (done_of al.out (by kernel_rfl)) ?_;try go_wp2
  go_ret;exact vo HB
 ·replace j:=vC j;replace HB:=vH HB;refine start_ (n:=9) (S:=fun w'=>w'.cell? ⟨ae,0,none⟩=some (.int .i64 o)∧w'.cell? ⟨ae,1,none⟩=some (.slice aa I.length ab)∧w'.cell? ⟨ae,2,none⟩=some (.slice an ag.length ao)) (ds:=[]) zf (by kernel_rfl) rfl rfl ⟨(ja j.out 0).trans rfl,(ja j.out 1).trans rfl,(ja j.out 2).trans rfl⟩ (fun hHeld=>?_);refine with_tabW iK.zh iK.wV (fun al aM=>?_);generalize hq.drew=hE at j HB hHeld⊢;refine pA 0 117 al ?_ ?_ ?_ ?_ (pA 2 119 al ?_ ?_ ?_ ?_ (pA 4 121 al ?_ ?_ ?_ ?_ (pA 5 122 al ?_ ?_ ?_ ?_ (tA 1 118 al aM hHeld ?_ ?_ ?_ ?_ (tA 3 120 al aM hHeld ?_ ?_ ?_ ?_ ?_)))))
  all_goals first|(rintro w' ⟨_,_,_⟩;go_simp;with_reducible rfl)|(intro w';go_simp;with_reducible rfl)|(simp only[Act.put,qA,qB,qC,i64_w,i32_w];rfl)|skip
  refine oA 6 (some 123) al (fun K hK=>?_);refine goes_ Tryz.func136 (by kernel_rfl) rfl #[.int .i64 o,.int .i64 af,.int .i64 ar] (by rfl) rfl rfl (by(try simp only[List.map_toArray,List.map_cons,List.map_nil]);first|done|rfl|(simp only[List.length_drop,List.length_take];rfl)) ?_;with_reducible refine(iF.calls k o af ar aD _ gw.out).mono ?_
  rintro e _ ⟨rfl,hb⟩;refine⟨_,rfl,?_⟩;replace j:=bU j hb;replace HB:=bW HB hb;(try clear hb);(try clear hb2);(try clear hk);(try clear hi);refine hK.out _ _ ⟨(ja j.out 0).trans rfl,(ja j.out 1).trans rfl,(ja j.out 2).trans rfl⟩ (fun hHeld=>?_);clear hK K;refine vQ 123 ?_
  refine oA 7 (some 124) al (fun K hK=>?_);refine goes_ Tryz.func128 (by kernel_rfl) rfl #[.int .i64 o,.int .i64 aD] (by rfl) rfl rfl (by(try simp only[List.map_toArray,List.map_cons,List.map_nil]);first|done|rfl|(simp only[List.length_drop,List.length_take];rfl)) ?_;with_reducible refine(gU.calls k o aD aW _ gx.out).mono ?_
  rintro e w' ⟨rfl,⟨nd,rfl⟩⟩;refine⟨_,rfl,?_⟩;refine hK.out _ _ ⟨(ja j.out 0).trans rfl,(ja j.out 1).trans rfl,(ja j.out 2).trans rfl⟩ (fun hHeld=>?_);clear hK K;refine vQ 124 ?_
  refine pA 8 4 al ?_ ?_ ?_ ?_ ?_
  all_goals first|(intro w';go_simp;with_reducible rfl)|(simp only[Act.put,qA,qB,qC,i64_w,i32_w];rfl)|skip
  refine done_ (done_of al.out (by kernel_rfl)) ?_;try go_wp2
  go_ret;exact vo HB
 ·replace j:=vC j;replace HB:=vH HB;refine start_ (n:=9) (S:=fun w'=>w'.cell? ⟨ae,0,none⟩=some (.int .i64 o)∧w'.cell? ⟨ae,1,none⟩=some (.slice aa I.length ab)∧w'.cell? ⟨ae,2,none⟩=some (.slice an ag.length ao)) (ds:=[]) zf (by kernel_rfl) rfl rfl ⟨(ja j.out 0).trans rfl,(ja j.out 1).trans rfl,(ja j.out 2).trans rfl⟩ (fun hHeld=>?_);refine with_tabW iK.zi iK.wW (fun al aM=>?_);generalize hq.drew=gH at j HB hHeld⊢;refine pA 0 127 al ?_ ?_ ?_ ?_ (pA 2 129 al ?_ ?_ ?_ ?_ (pA 4 131 al ?_ ?_ ?_ ?_ (pA 5 132 al ?_ ?_ ?_ ?_ (tA 1 128 al aM hHeld ?_ ?_ ?_ ?_ (tA 3 130 al aM hHeld ?_ ?_ ?_ ?_ ?_)))))
  all_goals first|(rintro w' ⟨_,_,_⟩;go_simp;with_reducible rfl)|(intro w';go_simp;with_reducible rfl)|(simp only[Act.put,qA,qB,qC,i64_w,i32_w];rfl)|skip
  refine oA 6 (some 133) al (fun K hK=>?_);refine goes_ Tryz.func137 (by kernel_rfl) rfl #[.int .i64 o,.int .i64 af,.int .i64 ar] (by rfl) rfl rfl (by(try simp only[List.map_toArray,List.map_cons,List.map_nil]);first|done|rfl|(simp only[List.length_drop,List.length_take];rfl)) ?_;with_reducible refine(jt.calls k o af ar aE _ gz.out).mono ?_
  rintro e _ ⟨rfl,hb⟩;refine⟨_,rfl,?_⟩;replace j:=bU j hb;replace HB:=bW HB hb;(try clear hb);(try clear hb2);(try clear hk);(try clear hi);refine hK.out _ _ ⟨(ja j.out 0).trans rfl,(ja j.out 1).trans rfl,(ja j.out 2).trans rfl⟩ (fun hHeld=>?_);clear hK K;refine vQ 133 ?_
  refine oA 7 (some 134) al (fun K hK=>?_);refine goes_ Tryz.func128 (by kernel_rfl) rfl #[.int .i64 o,.int .i64 aE] (by rfl) rfl rfl (by(try simp only[List.map_toArray,List.map_cons,List.map_nil]);first|done|rfl|(simp only[List.length_drop,List.length_take];rfl)) ?_;with_reducible refine(gU.calls k o aE aY _ gA.out).mono ?_
  rintro e w' ⟨rfl,⟨nd,rfl⟩⟩;refine⟨_,rfl,?_⟩;refine hK.out _ _ ⟨(ja j.out 0).trans rfl,(ja j.out 1).trans rfl,(ja j.out 2).trans rfl⟩ (fun hHeld=>?_);clear hK K;refine vQ 134 ?_
  refine pA 8 4 al ?_ ?_ ?_ ?_ ?_
  all_goals first|(intro w';go_simp;with_reducible rfl)|(simp only[Act.put,qA,qB,qC,i64_w,i32_w];rfl)|skip
  refine done_ (done_of al.out (by kernel_rfl)) ?_;try go_wp2
  go_ret;exact vo HB
 iterate 3(go_ret;exact vo HB)
end Go.Proofs.YtihgpkohglcijaaGreatDoor.P
