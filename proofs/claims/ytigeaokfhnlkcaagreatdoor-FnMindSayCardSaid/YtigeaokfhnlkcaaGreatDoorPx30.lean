import Derived.Test.YtigeaokfhnlkcaaGreatDoorPx0
import Derived.Test.YtigeaokfhnlkcaaGreatDoorPx4
import Derived.Test.YtigeaokfhnlkcaaGreatDoorPx5
import Derived.Test.YtigeaokfhnlkcaaGreatDoorPx7
import Derived.Test.YtigeaokfhnlkcaaGreatDoorPx26
import Derived.Test.YtigeaokfhnlkcaaGreatDoorPx27
import Derived.Test.YtigeaokfhnlkcaaGreatDoorPx28
import Derived.Test.YtigeaokfhnlkcaaGreatDoorPx29
namespace Go.Proofs.YtigeaokfhnlkcaaGreatDoor.P
open Go.RowKit YtigeaokfhnlkcaaGreatDoorW PrintWords PrintLast PrintMore
attribute [local go_sem] max2_int min2_int max_two min_two max_three min_three max_four min_four
set_option linter.unusedVariables false
set_option linter.unusedSimpArgs false
set_option maxHeartbeats 8000000
set_option maxRecDepth 100000
abbrev Bb:Array Bool:= #[false,false,false,false,false,false,false,false,false,false,false,false]
abbrev Bc:Array Bool:= #[false,false,false,false,false,false,false,false,false,false,false]
abbrev Bd:Array Bool:= #[false,false,false,false,false,false,false,false,false,false]
abbrev Be:Array Bool:= #[false,false,false,false,false,false,false]
abbrev Cw:Array Bool:= #[true,true,true,true,true,true,true,true,true,true,true,false,false]
mutual
def fC.l0:Nat→BA→Int→Int→LI→LL→Int→LI→LL→Option (Int×LI×LL×BA)
 |0,_,_,_,_,_,_,_,_=>none
 |k+1,x12,uE,ou,nC,pQ,oM,ni,oO=>if uE<(nC.length:Int)then(if x12.size+1≤9223372036854775807 then(if 0≤uE then((gV.f k (rd nC uE)).bind fun cg=>(if(x12++(⟨#[44]⟩:BA)).size+cg.size≤9223372036854775807 then(fC.l0 k ((x12++(⟨#[44]⟩:BA))++cg) (wrap64 (uE+1)) ou nC pQ oM ni oO)else(none)))else(none))else(none))else(some (oM,ni,oO,x12))
def fC.j2:Nat→BA→Int→Int→Int→LI→LL→Int→LI→LL→Option (Int×LI×LL×BA)
 |0,_,_,_,_,_,_,_,_,_=>none
 |k+1,x1,x11,bp,ou,nC,pQ,oM,ni,oO=>if bp=(x1.size:Int)then(some (oM,ni,oO,(⟨#[119,104,97,116]⟩:BA)))else(if 0≤bp then(if bp≤(x1.size:Int)then(if 0≤(wrap64 (bp+1))then(if(wrap64 (bp+1))≤(x1.size:Int)then((jv.f k ou (x1.extract ((wrap64 (bp+1)):Int).toNat x1.size)).bind fun ch=>((iu.f k ou (x1.extract ((wrap64 (bp+1)):Int).toNat x1.size)).bind fun cc=>(if(x1.extract 0 (bp:Int).toNat).toList=([98,101,108,105,101,118,101]:List UInt8)then(fC.j3 k x11 (x1.extract 0 (bp:Int).toNat) ch.1 ch.2 cc.2.2 ch.2 ou nC pQ oM ni oO cc.1 cc.2.1)else(fC.j3 k x11 (x1.extract 0 (bp:Int).toNat) ch.1 ch.2 cc.2.2 false ou nC pQ oM ni oO cc.1 cc.2.1))))else(none))else(none))else(none))else(none))
def fC.j3:Nat→Int→BA→Int→Bool→Bool→Bool→Int→LI→LL→Int→LI→LL→Int→Int→Option (Int×LI×LL×BA)
 |0,_,_,_,_,_,_,_,_,_,_,_,_,_,_=>none
 |k+1,x11,x15,x16,x17,x19,GQ,ou,nC,pQ,oM,ni,oO,qQ,qR=>if GQ=true then((ki.f k x11 x16).bind fun cK=>((qX.f (cK==x11)).bind fun dD=>(some (oM,ni,oO,dD))))else(if x15.toList=([102,105,114,109]:List UInt8)then(fC.j4 k x11 x15 x16 x17 x19 x17 ou nC pQ oM ni oO qQ qR)else(fC.j4 k x11 x15 x16 x17 x19 false ou nC pQ oM ni oO qQ qR))
def fC.j4:Nat→Int→BA→Int→Bool→Bool→Bool→Int→LI→LL→Int→LI→LL→Int→Int→Option (Int×LI×LL×BA)
 |0,_,_,_,_,_,_,_,_,_,_,_,_,_,_=>none
 |k+1,x11,x15,x16,x17,x19,GS,ou,nC,pQ,oM,ni,oO,qQ,qR=>if GS=true then((jz.f k ou nC x16).bind fun cL=>((gV.f k cL).bind fun dE=>(some (oM,ni,oO,dE))))else(if x15.toList=([103,105,118,101]:List UInt8)then(fC.j5 k x11 x15 x16 x17 x19 x17 ou nC pQ oM ni oO qQ qR)else(fC.j5 k x11 x15 x16 x17 x19 false ou nC pQ oM ni oO qQ qR))
def fC.j5:Nat→Int→BA→Int→Bool→Bool→Bool→Int→LI→LL→Int→LI→LL→Int→Int→Option (Int×LI×LL×BA)
 |0,_,_,_,_,_,_,_,_,_,_,_,_,_,_=>none
 |k+1,x11,x15,x16,x17,x19,GU,ou,nC,pQ,oM,ni,oO,qQ,qR=>if GU=true then((kK.f k ou nC x16).bind fun cM=>((gX.f k ou cM).bind fun dF=>(some (oM,ni,oO,dF))))else(if x15.toList=([117,112,100,97,116,101]:List UInt8)then(fC.j6 k x11 x15 x16 x17 x19 x17 ou nC pQ oM ni oO qQ qR)else(fC.j6 k x11 x15 x16 x17 x19 false ou nC pQ oM ni oO qQ qR))
def fC.j6:Nat→Int→BA→Int→Bool→Bool→Bool→Int→LI→LL→Int→LI→LL→Int→Int→Option (Int×LI×LL×BA)
 |0,_,_,_,_,_,_,_,_,_,_,_,_,_,_=>none
 |k+1,x11,x15,x16,x17,x19,GV,ou,nC,pQ,oM,ni,oO,qQ,qR=>if GV=true then((jq.f k ou x11 x16).bind fun cN=>((gX.f k ou cN).bind fun dG=>(some (oM,ni,oO,dG))))else(if x15.toList=([110,101,97,114]:List UInt8)then(fC.j7 k x11 x15 x16 x19 x17 ou nC pQ oM ni oO qQ qR)else(fC.j7 k x11 x15 x16 x19 false ou nC pQ oM ni oO qQ qR))
def fC.j7:Nat→Int→BA→Int→Bool→Bool→Int→LI→LL→Int→LI→LL→Int→Int→Option (Int×LI×LL×BA)
 |0,_,_,_,_,_,_,_,_,_,_,_,_,_=>none
 |k+1,x11,x15,x16,x19,GX,ou,nC,pQ,oM,ni,oO,qQ,qR=>if GX=true then((ka.f k ou x11 x16).bind fun cO=>((gX.f k ou cO).bind fun dH=>(some (oM,ni,oO,dH))))else(if x15.toList=([110,111,114,109,97,108,108,121]:List UInt8)then(fC.j8 k x19 ou nC pQ oM ni oO qQ qR)else(fC.j8 k false ou nC pQ oM ni oO qQ qR))
def fC.j8:Nat→Bool→Int→LI→LL→Int→LI→LL→Int→Int→Option (Int×LI×LL×BA)
 |0,_,_,_,_,_,_,_,_,_=>none
 |k+1,x200,ou,nC,pQ,oM,ni,oO,qQ,qR=>if x200=true then((kk.f k ou nC qQ qR).bind fun cP=>((qX.f cP).bind fun dI=>(some (oM,ni,oO,dI))))else(some (oM,ni,oO,(⟨#[119,104,97,116]⟩:BA)))
def fC.l1:Nat→BA→Int→Int→Int→LI→LL→Int→LI→LL→Option (Int×LI×LL×BA)
 |0,_,_,_,_,_,_,_,_,_=>none
 |k+1,x1,x11,bp,ou,nC,pQ,oM,ni,oO=>if bp<(x1.size:Int)then(if 0≤bp then(if(bt x1 bp)=32 then(fC.j2 k x1 x11 bp ou nC pQ oM ni oO)else(fC.l1 k x1 x11 (wrap64 (bp+1)) ou nC pQ oM ni oO))else(none))else(fC.j2 k x1 x11 bp ou nC pQ oM ni oO)
end
def fC.f (k:Nat) (af:Int) (ah:LI) (az:LL) (a1:BA):Option (Int×LI×LL×BA):=(gI.f k af ah az).bind fun cr=>(if cr=true then((iR.f k af ah az).bind fun aJ=>((gU.f k a1).bind fun bO=>(if bO.2.2=true then((iH.f k af ah az bO.1 bO.2.1).bind fun aT=>(if aT.2.2.2=true then(some (aT.1,aT.2.1,aT.2.2.1,(⟨#[111,107]⟩:BA)))else(some (aT.1,aT.2.1,aT.2.2.1,(⟨#[110,111]⟩:BA)))))else((pz.f k af ah).bind fun aM=>(if a1.toList=([99,111,114,101]:List UInt8)then((gX.f k af aM).bind fun cQ=>(some (aJ.1,aJ.2.1,aJ.2.2,cQ)))else(if a1.toList=([114,97,110,107,115]:List UInt8)then(if 0<(ah.length:Int)then((gV.f k (rd ah 0)).bind fun ct=>(fC.l0 k ct 1 af ah az aJ.1 aJ.2.1 aJ.2.2))else(none))else(if a1.toList=([112,97,115,116]:List UInt8)then((gV.f k (az.length:Int)).bind fun cR=>(some (aJ.1,aJ.2.1,aJ.2.2,cR)))else(fC.l1 k a1 aM 0 af ah az aJ.1 aJ.2.1 aJ.2.2))))))))else(some (0,([]:LI),([]:LL),(⟨#[]⟩:BA))))
theorem fC.hZ:∀k,(∀y0 y1 y2 y3 y4 y5 y6 y7,lS (fC.l0 k y0 y1 y2 y3 y4 y5 y6 y7) (fC.l0 (k+1) y0 y1 y2 y3 y4 y5 y6 y7))∧(∀y0 y1 y2 y3 y4 y5 y6 y7 y8,lS (fC.j2 k y0 y1 y2 y3 y4 y5 y6 y7 y8) (fC.j2 (k+1) y0 y1 y2 y3 y4 y5 y6 y7 y8))∧(∀y0 y1 y2 y3 y4 y5 y6 y7 y8 y9 b0 b1 b4 cj,lS (fC.j3 k y0 y1 y2 y3 y4 y5 y6 y7 y8 y9 b0 b1 b4 cj) (fC.j3 (k+1) y0 y1 y2 y3 y4 y5 y6 y7 y8 y9 b0 b1 b4 cj))∧(∀y0 y1 y2 y3 y4 y5 y6 y7 y8 y9 b0 b1 b4 cj,lS (fC.j4 k y0 y1 y2 y3 y4 y5 y6 y7 y8 y9 b0 b1 b4 cj) (fC.j4 (k+1) y0 y1 y2 y3 y4 y5 y6 y7 y8 y9 b0 b1 b4 cj))∧(∀y0 y1 y2 y3 y4 y5 y6 y7 y8 y9 b0 b1 b4 cj,lS (fC.j5 k y0 y1 y2 y3 y4 y5 y6 y7 y8 y9 b0 b1 b4 cj) (fC.j5 (k+1) y0 y1 y2 y3 y4 y5 y6 y7 y8 y9 b0 b1 b4 cj))∧(∀y0 y1 y2 y3 y4 y5 y6 y7 y8 y9 b0 b1 b4 cj,lS (fC.j6 k y0 y1 y2 y3 y4 y5 y6 y7 y8 y9 b0 b1 b4 cj) (fC.j6 (k+1) y0 y1 y2 y3 y4 y5 y6 y7 y8 y9 b0 b1 b4 cj))∧(∀y0 y1 y2 y3 y4 y5 y6 y7 y8 y9 b0 b1 b4,lS (fC.j7 k y0 y1 y2 y3 y4 y5 y6 y7 y8 y9 b0 b1 b4) (fC.j7 (k+1) y0 y1 y2 y3 y4 y5 y6 y7 y8 y9 b0 b1 b4))∧(∀y0 y1 y2 y3 y4 y5 y6 y7 y8,lS (fC.j8 k y0 y1 y2 y3 y4 y5 y6 y7 y8) (fC.j8 (k+1) y0 y1 y2 y3 y4 y5 y6 y7 y8))∧(∀y0 y1 y2 y3 y4 y5 y6 y7 y8,lS (fC.l1 k y0 y1 y2 y3 y4 y5 y6 y7 y8) (fC.l1 (k+1) y0 y1 y2 y3 y4 y5 y6 y7 y8))
 |0=>⟨fun _ _ _ _ _ _ _ _=> .z (by simp only[fC.l0]),fun _ _ _ _ _ _ _ _ _=> .z (by simp only[fC.j2]),fun _ _ _ _ _ _ _ _ _ _ _ _ _ _=> .z (by simp only[fC.j3]),fun _ _ _ _ _ _ _ _ _ _ _ _ _ _=> .z (by simp only[fC.j4]),fun _ _ _ _ _ _ _ _ _ _ _ _ _ _=> .z (by simp only[fC.j5]),fun _ _ _ _ _ _ _ _ _ _ _ _ _ _=> .z (by simp only[fC.j6]),fun _ _ _ _ _ _ _ _ _ _ _ _ _=> .z (by simp only[fC.j7]),fun _ _ _ _ _ _ _ _ _=> .z (by simp only[fC.j8]),fun _ _ _ _ _ _ _ _ _=> .z (by simp only[fC.l1])⟩
 |k+1=>by
  have⟨i0,i1,i2,i3,i4,i5,i6,i7,i8⟩:=fC.hZ k;exact⟨fun _ _ _ _ _ _ _ _=>by unfold fC.l0;repeat' first|infer_instance|refine lS.i (x:=?_) (y:=?_)|refine lS.b (x:=?_) (y:=fun _=>?_),fun _ _ _ _ _ _ _ _ _=>by unfold fC.j2;repeat' first|infer_instance|refine lS.i (x:=?_) (y:=?_)|refine lS.b (x:=?_) (y:=fun _=>?_),fun _ _ _ _ _ _ _ _ _ _ _ _ _ _=>by unfold fC.j3;repeat' first|infer_instance|refine lS.i (x:=?_) (y:=?_)|refine lS.b (x:=?_) (y:=fun _=>?_),fun _ _ _ _ _ _ _ _ _ _ _ _ _ _=>by unfold fC.j4;repeat' first|infer_instance|refine lS.i (x:=?_) (y:=?_)|refine lS.b (x:=?_) (y:=fun _=>?_),fun _ _ _ _ _ _ _ _ _ _ _ _ _ _=>by unfold fC.j5;repeat' first|infer_instance|refine lS.i (x:=?_) (y:=?_)|refine lS.b (x:=?_) (y:=fun _=>?_),fun _ _ _ _ _ _ _ _ _ _ _ _ _ _=>by unfold fC.j6;repeat' first|infer_instance|refine lS.i (x:=?_) (y:=?_)|refine lS.b (x:=?_) (y:=fun _=>?_),fun _ _ _ _ _ _ _ _ _ _ _ _ _=>by unfold fC.j7;repeat' first|infer_instance|refine lS.i (x:=?_) (y:=?_)|refine lS.b (x:=?_) (y:=fun _=>?_),fun _ _ _ _ _ _ _ _ _=>by unfold fC.j8;repeat' first|infer_instance|refine lS.i (x:=?_) (y:=?_)|refine lS.b (x:=?_) (y:=fun _=>?_),fun _ _ _ _ _ _ _ _ _=>by unfold fC.l1;repeat' first|infer_instance|refine lS.i (x:=?_) (y:=?_)|refine lS.b (x:=?_) (y:=fun _=>?_)⟩
instance fC.mo {k a0 a1 a2 a3}:lS (fC.f k a0 a1 a2 a3) (fC.f (k+1) a0 a1 a2 a3):=by have⟨i0,i1,i2,i3,i4,i5,i6,i7,i8⟩:=fC.hZ k;unfold fC.f;repeat' first|infer_instance|refine lS.i (x:=?_) (y:=?_)|refine lS.b (x:=?_) (y:=fun _=>?_)
def fC.HV:Bool×List (List Nat×List Nat):=(true,[([],[]),([0],[0]),([],[]),([],[]),([3],[3]),([2,4],[2,4]),([1,5],[1,5]),([6],[6]),([7],[7]),([7],[7]),([8,6,0,1,2,3,4,5,6,7,8],[8]),([9,10,0,1,2,3,4,5,6,7,8,9,10],[9])])
def fC.Iu:List Nat:=[0,1,0,0,8,28,63,127,255,255,511,2047]
theorem fC.Fs:rtab .any (opsOf Tryz.f31 29)=fC.HV:=by kernel_rfl
theorem fC.DP:waitsOk fC.HV.2 fC.Iu=true:=by kernel_rfl
def fC.HX:Bool×List (List Nat×List Nat):=(true,[([],[]),([0],[0]),([],[]),([],[]),([3],[3]),([2,4],[2,4]),([1,5],[1,5]),([6],[6]),([7],[7]),([7],[7]),([],[]),([10,8,6,0,1,2,3,4,5,6,7,8,10],[8,10]),([9,11,0,1,2,3,4,5,6,7,8,9,10,11],[9])])
def fC.Iv:List Nat:=[0,1,0,0,8,28,63,127,255,255,0,1535,4095]
theorem fC.Ft:rtab .any (opsOf Tryz.f31 30)=fC.HX:=by kernel_rfl
theorem fC.DQ:waitsOk fC.HX.2 fC.Iv=true:=by kernel_rfl
def fC.Fm:Bool×List (List Nat×List Nat):=(true,[([],[]),([],[]),([],[]),([1,2],[1,2]),([],[]),([3,4],[3,4]),([5,3],[5]),([0,6,0],[0]),([6,7,0,1,2,3,4,5,6,7],[6])])
def fC.GM:List Nat:=[0,0,0,6,0,30,62,127,255]
theorem fC.AX:rtab .any (opsOf Tryz.f31 32)=fC.Fm:=by kernel_rfl
theorem fC.yk:waitsOk fC.Fm.2 fC.GM=true:=by kernel_rfl
def fC.Fo:Bool×List (List Nat×List Nat):=(true,[([],[]),([],[]),([1],[1]),([],[]),([3],[3]),([],[]),([2,4,5],[2,4,5]),([6,6],[6]),([0,7,0],[0]),([7,8,0,1,2,3,4,5,6,7,8],[7])])
def fC.GN:List Nat:=[0,0,2,0,8,0,62,126,255,511]
theorem fC.AY:rtab .any (opsOf Tryz.f31 34)=fC.Fo:=by kernel_rfl
theorem fC.yl:waitsOk fC.Fo.2 fC.GN=true:=by kernel_rfl
def fC.Fp:Bool×List (List Nat×List Nat):=(true,[([],[]),([],[]),([1],[1]),([],[]),([3],[3]),([],[]),([5],[5]),([],[]),([4,6,7],[4,6,7]),([2,8,8],[2,8]),([0,9,0],[0]),([9,10,0,1,2,3,4,5,6,7,8,9,10],[9])])
def fC.GO:List Nat:=[0,0,2,0,8,0,32,0,248,510,1023,2047]
theorem fC.AZ:rtab .any (opsOf Tryz.f31 36)=fC.Fp:=by kernel_rfl
theorem fC.ym:waitsOk fC.Fp.2 fC.GO=true:=by kernel_rfl
def fC.HY:Bool×List (List Nat×List Nat):=(true,[([],[]),([],[]),([1],[1]),([],[]),([3],[3]),([],[]),([],[]),([4,5,6],[4,5,6]),([2,7,7],[2,7]),([0,8,0],[0]),([8,9,0,1,2,3,4,5,6,7,8,9],[8])])
def fC.Iw:List Nat:=[0,0,2,0,8,0,0,120,254,511,1023]
theorem fC.Fu:rtab .any (opsOf Tryz.f31 38)=fC.HY:=by kernel_rfl
theorem fC.DR:waitsOk fC.HY.2 fC.Iw=true:=by kernel_rfl
def fC.HZ:Bool×List (List Nat×List Nat):=(true,[([],[]),([],[]),([1],[1]),([],[]),([3],[3]),([],[]),([],[]),([4,5,6],[4,5,6]),([2,7,7],[2,7]),([0,8,0],[0]),([8,9,0,1,2,3,4,5,6,7,8,9],[8])])
def fC.Ix:List Nat:=[0,0,2,0,8,0,0,120,254,511,1023]
theorem fC.Fv:rtab .any (opsOf Tryz.f31 40)=fC.HZ:=by kernel_rfl
theorem fC.DS:waitsOk fC.HZ.2 fC.Ix=true:=by kernel_rfl
def fC.T42:Bool×List (List Nat×List Nat):=(true,[([],[]),([],[]),([1],[1]),([],[]),([3],[3]),([],[]),([2,4,5],[2,4,5]),([6,6],[6]),([0,7,0],[0]),([7,8,0,1,2,3,4,5,6,7,8],[7])])
def fC.Iy:List Nat:=[0,0,2,0,8,0,62,126,255,511]
theorem fC.Fw:rtab .any (opsOf Tryz.f31 42)=fC.T42:=by kernel_rfl
theorem fC.DT:waitsOk fC.T42.2 fC.Iy=true:=by kernel_rfl
theorem fC.calls (k:Nat) (af:Int) (aI:Option Addr) (aH:Nat) (ah:LI) (aK:Option Addr) (aL:Nat) (az:LL) (a1:BA) (r1:Int) (r2:LI) (r3:LL) (r4:BA) (w:World) (dJ:Kd.C KI w aI ah.length ah) (dK:ah.length≤aH) (dL:Kd.C KS w aK az.length az) (dM:az.length≤aL) (h:fC.f k af ah az a1=some (r1,r2,r3,r4)):
  Calls Tryz.prog 31 #[.agg #[.int .i64 af,.slice aI ah.length aH,.slice aK az.length aL],.string a1] w fun e w'=>∃eG jF:Value,e= .returned (.tuple #[.agg #[.int .i64 r1,eG,jF],.string r4])∧Kd.R KI 3 w' w.heap.size (fun _=>True) eG r2∧Kd.Q KS 23 w' w.heap.size (fun k_=>some k_≠(eG:Value).ownBlock) jF r3∧Below w.heap.size w w':=by
 have ob:=Tryz.underlying26;have oc:=Tryz.underlying47;have od:=Tryz.underlying87;have bb:=bm dJ;have bh:=bm dK;clear dJ dK;have cW:=bm dL;have cX:=bm dM;clear dL dM;have HB:=bm (Below.refl w.heap.size w);have H:=h;clear h;unfold fC.f at H;obtain⟨cr,A3,H⟩:=bE H;try dsimp only at H
 go_enter Tryz.func31,Tryz.ntmps31;go_upto_if 22 with(first|(refine re 2 #[.int .i64 af,.slice aI ah.length aH,.slice aK az.length aL] 26 ?_;intro av hg _ aW hb;have o:=bm (aW);have nf:=bG HB hg;replace HB:=bW HB hb;clear hb aW hg)|(refine re 4 #[.int .i64 0,.slice none 0 0,.slice none 0 0] 26 ?_;intro aw hg _ aW hb;have I:=bm (aW);have ng:=bG HB hg;replace HB:=bW HB hb;have ad:=bL o hg;have ai:=bM o hg;replace o:=bU o hb;clear hb aW hg;obtain⟨_,_⟩:=pW ad ai;obtain⟨_,_,_,_,_,_⟩:=b3 o)|(refine gB (some 21) Tryz.func10 #[.agg #[.int .i64 af,.slice aI ah.length aH,.slice aK az.length aL]] rfl ?_;(refine(gI.calls k af _ _ ah _ _ az cr _ ?_ ?_ ?_ ?_ A3.out).mono ?_);exact cY bb HB;exact bh.out;exact cY cW HB;exact cX.out;rintro e _ ⟨rfl,hb⟩;refine⟨_,rfl,?_⟩;replace o:=bU o hb;replace I:=bU I hb;replace HB:=bW HB hb;clear hb;obtain⟨_,_,_,_,_,_⟩:=b3 o))
 by_cases c4:cr=true
 ·as_aux_lemma=>
  subst c4;rw[if_pos rfl]at H;obtain⟨⟨aD,ag,ao⟩,A5,H⟩:=bE H;try dsimp only at H
  obtain⟨⟨aY,aZ,en⟩,A6,H⟩:=bE H;try dsimp only at H
  go_upto_if 31 with(first|(refine gB (some 25) Tryz.func30 #[.agg #[.int .i64 af,.slice aI ah.length aH,.slice aK az.length aL]] rfl ?_;(refine(iR.calls k af _ _ ah _ _ az aD ag ao _ ?_ ?_ ?_ ?_ A5.out).mono ?_);exact cY bb HB;exact bh.out;exact cY cW HB;exact cX.out;rintro e _ ⟨_,_,rfl,c0,dA,hb⟩;refine⟨_,rfl,?_⟩;have aE:=rL c0 HB;have aF:=sL dA HB;replace o:=bU o hb;replace I:=bU I hb;replace HB:=bW HB hb;clear hb;clear c0 dA)|(refine re 6 #[.int .i64 0,.slice none 0 0,.slice none 0 0] 26 ?_;intro aA hg _ aW hb;replace aE:=bR aE hb;replace aF:=bS aF hb;have J:=bm (aW);have nj:=bG HB hg;replace HB:=bW HB hb;have bf:=bL o hg;have bg:=bM o hg;replace o:=bU o hb;have ak:=bL I hg;have ab:=bM I hg;replace I:=bU I hb;clear hb aW hg;obtain⟨_,_,_,_⟩:=pY bg bf ab ak;obtain⟨_,_,_,_,_,_⟩:=b3 J;obtain⟨ax,ay,jY⟩:=Kd.R_slice aE.out;subst jY;obtain⟨aB,aC,jZ⟩:=Kd.S_slice aF.out;subst jZ)|(refine gB (some 28) Tryz.func41 #[.string a1] rfl ?_;(refine(gU.calls k a1 aY aZ en _ A6.out).mono ?_);rintro e _ ⟨rfl,hb⟩;refine⟨_,rfl,?_⟩;replace aE:=bm (Kd.R_below (rT aE) hb);replace aF:=bm (Kd.S_below (sT aF) hb);replace o:=bU o hb;replace I:=bU I hb;replace J:=bP #[.int .i64 aD,.slice ax ag.length ay,.slice aB ao.length aC] J hb;replace HB:=bW HB hb;clear hb)|(refine re 7 #[.int .i64 0,.string (⟨#[]⟩:BA)] 47 ?_;intro aR hg _ aW hb;replace aE:=bR aE hb;replace aF:=bS aF hb;have aa:=bm (aW);have nq:=bG HB hg;replace HB:=bW HB hb;have bT:=bL o hg;have bV:=bM o hg;replace o:=bU o hb;have al:=bL I hg;have an:=bM I hg;replace I:=bU I hb;have bk:=bL J hg;have bl:=bM J hg;replace J:=bU J hb;clear hb aW hg;obtain⟨_,_,_,_,_,_⟩:=pa bV bT an al bl bk;obtain⟨_,_,_,_⟩:=b2 aa;obtain⟨_,_,_,_,_,_⟩:=b3 o))
  by_cases c7:en=true
  ·as_aux_lemma=>
   subst c7;rw[if_pos rfl]at H;obtain⟨⟨ck,cl,cm,eo⟩,A8,H⟩:=bE H;try dsimp only at H
   go_upto_if 39 with(first|(refine gB (some 35) Tryz.func48 #[.agg #[.int .i64 af,.slice aI ah.length aH,.slice aK az.length aL],.agg #[.int .i64 aY,.string aZ]] rfl ?_;(refine(iH.calls k af _ _ ah _ _ az aY aZ ck cl cm eo _ ?_ ?_ ?_ ?_ A8.out).mono ?_);exact Kd.C_below bb.out (wZ HB);exact bh.out;exact Kd.C_below cW.out (wZ HB);exact cX.out;rintro e _ ⟨_,_,rfl,c0,dA,hb⟩;refine⟨_,rfl,?_⟩;have cn:=bm (Kd.R_lower (Kd.R_new' c0 (Kd.R_lt (rT aE))) (below_size (wZ HB)));have cp:=bm (Kd.Q_lower (Kd.Q_new' (Kd.Q_new' dA (Kd.R_lt (rT aE))) (Kd.S_lt (sT aF))) (below_size (wZ HB)));replace aE:=bm (Kd.R_elder' (rT aE) (Kd.R_base c0) hb);replace aF:=bm (Kd.S_mono (Kd.S_told (Kd.S_told (Kd.S_old (sT aF) hb) (Kd.R_base c0)) (Kd.Q_base dA)) (fun _ h_=>h_.1));replace o:=bU o hb;replace I:=bU I hb;replace J:=bU J hb;replace aa:=bP #[.int .i64 aY,.string aZ] aa hb;replace HB:=bW HB hb;clear hb;clear c0 dA)|(refine re 9 #[.int .i64 0,.slice none 0 0,.slice none 0 0] 26 ?_;intro cd hg _ aW hb;replace aE:=bR aE hb;replace aF:=bS aF hb;replace cn:=bR cn hb;replace cp:=bQ cp hb;have c1:=bm (aW);have nx:=bG HB hg;replace HB:=bW HB hb;have da:=bL o hg;have db:=bM o hg;replace o:=bU o hb;have dc:=bL I hg;have dd:=bM I hg;replace I:=bU I hb;have de:=bL J hg;have df:=bM J hg;replace J:=bU J hb;have dg:=bL aa hg;have dh:=bM aa hg;replace aa:=bU aa hb;clear hb aW hg;obtain⟨_,_,_,_,_,_,_,_⟩:=pc db da dd dc df de dh dg;obtain⟨_,_,_,_,_,_⟩:=b3 c1;obtain⟨cu,cv,kp⟩:=Kd.R_slice cn.out;subst kp;obtain⟨cw,cx,kr,_⟩:=Kd.Q_slice cp.out;subst kr;obtain⟨_,_,_,_,_,_⟩:=b3 I))
   by_cases c9:eo=true
   ·as_aux_lemma=>
    subst c9;rw[if_pos rfl]at H;obtain⟨rfl,rfl,rfl,rfl⟩:=s4 H;try go_wp2
    refine rE #[.int .i64 ck,.slice cu cl.length cv,.slice cw cm.length cx] (kP I) Tryz.underlying26 ?_;exact⟨_,_,eF,rT cn,by(repeat apply Kd.QS);exact Kd.Q_mono (Kd.Q_far (p:=⟨aw,2,none⟩) (Kd.Q_far (p:=⟨aw,1,none⟩) (Kd.Q_far (p:=⟨aw,0,none⟩) (Kd.Q_far (p:=⟨cd,2,none⟩) (Kd.Q_far (p:=⟨cd,1,none⟩) (Kd.Q_far (p:=⟨cd,0,none⟩) (Kd.Q_types (Kd.Q_types cp.out c1.out (by decide)) I.out (by decide)) (fun _ hk=>hk.1.2) (.int .i64 ck)) (fun _ hk=>hk.1.2) (.slice cu cl.length cv)) (fun _ hk=>hk.1.2) (.slice cw cm.length cx)) (fun _ hk=>hk.2) (.int .i64 ck)) (fun _ hk=>hk.2) (.slice cu cl.length cv)) (fun _ hk=>hk.2) (.slice cw cm.length cx)) (fun _ hk=>hk.1.1.1.1),wZ HB⟩
   ·as_aux_lemma=>
    replace c9:=pD c9;subst c9;rw[if_neg pV]at H;obtain⟨rfl,rfl,rfl,rfl⟩:=s4 H;try go_wp2
    refine rE #[.int .i64 ck,.slice cu cl.length cv,.slice cw cm.length cx] (kP I) Tryz.underlying26 ?_;exact⟨_,_,eF,rT cn,by(repeat apply Kd.QS);exact Kd.Q_mono (Kd.Q_far (p:=⟨aw,2,none⟩) (Kd.Q_far (p:=⟨aw,1,none⟩) (Kd.Q_far (p:=⟨aw,0,none⟩) (Kd.Q_far (p:=⟨cd,2,none⟩) (Kd.Q_far (p:=⟨cd,1,none⟩) (Kd.Q_far (p:=⟨cd,0,none⟩) (Kd.Q_types (Kd.Q_types cp.out c1.out (by decide)) I.out (by decide)) (fun _ hk=>hk.1.2) (.int .i64 ck)) (fun _ hk=>hk.1.2) (.slice cu cl.length cv)) (fun _ hk=>hk.1.2) (.slice cw cm.length cx)) (fun _ hk=>hk.2) (.int .i64 ck)) (fun _ hk=>hk.2) (.slice cu cl.length cv)) (fun _ hk=>hk.2) (.slice cw cm.length cx)) (fun _ hk=>hk.1.1.1.1),wZ HB⟩
  ·as_aux_lemma=>
   replace c7:=pD c7;subst c7;rw[if_neg pV]at H;obtain⟨aM,dY,H⟩:=bE H;try dsimp only at H
   rcases iT H with⟨dB,H⟩|⟨dB,H⟩
   ·as_aux_lemma=>
    obtain⟨eH,eI⟩:=pf dB;clear dB;obtain⟨cQ,nG,H⟩:=bE H;try dsimp only at H
    obtain⟨rfl,rfl,rfl,rfl⟩:=s4 H;try go_wp2_with (first|(refine gB (some 46) Tryz.func56 #[.int .i64 af,.slice aI ah.length aH] rfl ?_;(refine(pz.calls k af _ _ ah aM _ ?_ ?_ dY.out).mono ?_);exact Kd.C_below bb.out (wZ HB);exact bh.out;rintro e nH ⟨rfl,hb⟩;refine⟨_,rfl,?_⟩;replace aE:=bm (Kd.R_below (rT aE) hb);replace aF:=bm (Kd.S_below (sT aF) hb);replace o:=bU o hb;replace I:=bU I hb;replace J:=bU J hb;replace aa:=bP #[.int .i64 aY,.string aZ] aa hb;replace HB:=bW HB hb;clear hb))
    replace aE:=pH aE;replace aF:=pJ aF;replace o:=pG o;replace I:=pG I;replace J:=pG J;replace aa:=pG aa;replace HB:=pL HB;refine start_ (n:=7) (S:=fun w'=>w'.cell? ⟨aA,0,none⟩=some (.int .i64 aD)∧w'.cell? ⟨aA,1,none⟩=some (.slice ax ag.length ay)∧w'.cell? ⟨aA,2,none⟩=some (.slice aB ao.length aC)∧w'.cell? ⟨av,0,none⟩=some (.int .i64 af)∧w'.cell? ⟨av,1,none⟩=some (.slice aI ah.length aH)∧w'.cell? ⟨av,2,none⟩=some (.slice aK az.length aL)) (ds:=[]) Be (by kernel_rfl) rfl rfl ⟨bz J 0,bz J 1,bz J 2,bz o 0,bz o 1,bz o 2⟩ (fun hHeld=>?_);generalize nH.drew=oY at aE aF o I J aa HB hHeld⊢;refine pB 1 51 ?_ ?_ ?_ ?_ (pB 3 53 ?_ ?_ ?_ ?_ (tB 0 50 hHeld ?_ ?_ ?_ ?_ (tB 2 52 hHeld ?_ ?_ ?_ ?_ ?_)))
    all_goals first|(rintro w' ⟨_,_,_,_,s4,_⟩;go_simp;with_reducible rfl)|(intro w';go_simp;with_reducible rfl)|(simp only[Act.put,qA,qB,qC,i64_w,i32_w];rfl)|skip
    refine one_ (i:=4) (N:=some 54) #[true,true,true,true,true,false,false] rfl rfl (by kernel_rfl) (by decide) (fun K hK=>?_);refine gO Tryz.func57 #[.int .i64 af,.int .i64 aM] rfl ?_;refine(gX.calls k af aM cQ _ nG.out).mono ?_;rintro e _ ⟨rfl,hb⟩;refine⟨_,rfl,?_⟩;replace aE:=bR aE hb;replace aF:=bS aF hb;replace o:=bU o hb;replace I:=bU I hb;replace J:=bU J hb;replace aa:=bU aa hb;replace HB:=bW HB hb;clear hb;refine hK.out _ _ ⟨bz J 0,bz J 1,bz J 2,bz o 0,bz o 1,bz o 2⟩ (fun hHeld=>?_);clear hK K;refine pU 54 ?_
    refine one_ (i:=5) (N:=none) #[true,true,true,true,true,true,false] rfl rfl (by kernel_rfl) (by decide) (fun K hK=>?_);have oj:=bC I 0;have nI:=qZ I.out 0;obtain⟨_,_,_,_,_,_⟩:=pa ad ab an ai ak al;have om:=bC I 1;have nJ:=qZ I.out 1;obtain⟨_,_,_,_,_,_⟩:=pa ad ab an ai ak al;have oo:=bC I 2;have nK:=qZ I.out 2;obtain⟨_,_,_,_,_,_⟩:=pa ad ab an ai ak al;refine skip_ (w1:=?_) (by rfl) rfl ?_ ?_;rotate_left
    ·go_simp;rfl
    refine hK.out _ _ ⟨k3 ab hHeld.1,k3 ab hHeld.2.1,k3 ab hHeld.2.2.1,k3 ad hHeld.2.2.2.1,k3 ad hHeld.2.2.2.2.1,k3 ad hHeld.2.2.2.2.2⟩ (fun hHeld=>?_);clear hK K;refine pB 6 5 ?_ ?_ ?_ ?_ ?_
    all_goals first|(intro w';go_simp;with_reducible rfl)|(simp only[Act.put,qA,qB,qC,i64_w,i32_w];rfl)|skip
    refine done_ (by kernel_rfl) ?_;try go_wp2
    refine rE #[.int .i64 aD,.slice ax ag.length ay,.slice aB ao.length aC] (kP I) Tryz.underlying26 ?_;exact⟨_,_,eF,rT aE,Kd.Q_of_R ((Kd.S_R (sT aF))),wZ HB⟩
   ·as_aux_lemma=>
    obtain⟨eH,eI⟩:=pe dB;rcases iT H with⟨dC,H⟩|⟨dC,H⟩
    ·as_aux_lemma=>
     obtain⟨eJ,eK⟩:=pf dC;clear dC;obtain⟨ep,H⟩:=iN H;have lE:=pK ep;have lF:decide (0<ah.length)=true:=pK (by omega);clear ep;obtain⟨ct,kT,H⟩:=bE H;try dsimp only at H
     have H':=bm H;clear H;try go_wp2_with (first|(refine gB (some 46) Tryz.func56 #[.int .i64 af,.slice aI ah.length aH] rfl ?_;(refine(pz.calls k af _ _ ah aM _ ?_ ?_ dY.out).mono ?_);exact Kd.C_below bb.out (wZ HB);exact bh.out;rintro e _ ⟨rfl,hb⟩;refine⟨_,rfl,?_⟩;replace aE:=bm (Kd.R_below (rT aE) hb);replace aF:=bm (Kd.S_below (sT aF) hb);replace o:=bU o hb;replace I:=bU I hb;replace J:=bU J hb;replace aa:=bP #[.int .i64 aY,.string aZ] aa hb;replace HB:=bW HB hb;clear hb;obtain⟨_,_,_,_,_,_⟩:=b3 o;have dN:0≤(0:Int):=(by omega);have dO:0<(ah.length:Int):=ko;obtain⟨dP,kU,bq⟩:=Kd.at_int bb.out 0 dN dO;cases kU;have nL:(0<ah.length)=True:=pM (by omega);(try rw[show((0:Int)).toNat=0 from rfl]at bq);(try rw[Addr.add_zero']at bq);replace bq:=pE HB bq;replace dN:=pM dN;replace dO:=pM dO)|(refine gB (some 61) Tryz.func58 #[.int .i64 (rd ah 0)] rfl ?_;(refine(gV.calls k (rd ah 0) ct _ kT.out).mono ?_);rintro e _ ⟨rfl,hb⟩;refine⟨_,rfl,?_⟩;replace aE:=bR aE hb;replace aF:=bS aF hb;replace o:=bU o hb;replace I:=bU I hb;replace J:=bU J hb;replace aa:=bU aa hb;replace HB:=bW HB hb;clear hb))
     go_loopg [12,13] k (fun kq v12 nM w'=>∃(bZ:BA) (bn:Int),v12= .string bZ∧nM= .int .i64 bn∧hJ (fC.l0 kq bZ bn af ah az aD ag ao=some (r1,r2,r3,r4))∧hJ (kq≤k)∧hJ (Kd.R KI 3 w' w.heap.size (fun _=>True) (.slice ax ag.length ay) ag)∧hJ (Kd.Q KS 23 w' w.heap.size (fun k_=>some k_≠((.slice ax ag.length ay):Value).ownBlock) (.slice aB ao.length aC) ao)∧hJ (w'.heap[av]?=some (.cells #[.int .i64 af,(.slice (some dP) ah.length aH),(.slice aK az.length aL)] 26 (0,0)))∧hJ (w'.heap[aw]?=some (.cells #[.int .i64 0,(.slice none 0 0),(.slice none 0 0)] 26 (0,0)))∧hJ (w'.heap[aA]?=some (.cells #[.int .i64 aD,(.slice ax ag.length ay),(.slice aB ao.length aC)] 26 (0,0)))∧hJ (w'.heap[aR]?=some (.cells #[.int .i64 aY,.string aZ] 47 (0,0)))∧hJ (Below w.heap.size w w'))
     case atStart=>exact⟨(ct),(1),eA,eA,H',⟨Nat.le_refl _⟩,⟨rS aE⟩,⟨Kd.Q_of_R ((Kd.S_R (sS aF)))⟩,⟨kS o⟩,⟨kS I⟩,⟨kS J⟩,⟨kS aa⟩,⟨wZ HB⟩⟩
     case round=>
      clear H';obtain⟨bZ,bn,rfl,rfl,HA,di,ij,iq,o,I,J,aa,HB⟩:=hrel;cases gk with
      |zero=>exact absurd HA.out (by simp[fC.l0])
      |succ k1=>
       have H:=HA.out;clear HA;simp only[fC.l0]at H;rcases iT H with⟨cS,H⟩|⟨cS,H⟩
       ·as_aux_lemma=>
        have dZ:=pK cS;clear cS;obtain⟨dQ,H⟩:=iN H;have lG:=pM dQ;have lH:=pK dQ;try have lI:(9223372036854775807<bZ.size+1)=False:=eq_false (Nat.not_lt.2 dQ)
        obtain⟨lJ,H⟩:=pN H;obtain⟨cg,kV,H⟩:=bE H;try dsimp only at H
        obtain⟨dt,H⟩:=iN H;have lK:=pM dt;have lL:=pK dt;try have lM:(9223372036854775807<(bZ++(⟨#[44]⟩:BA)).size+cg.size)=False:=eq_false (Nat.not_lt.2 dt)
        (try have lN:(9223372036854775807<bZ.size+1+cg.size)=False:=eq_false (by have h_:=dt;(repeat rw[ByteArray.size_append]at h_);exact Nat.not_lt.2 h_));have H':=bm H;clear H;obtain⟨_,_,_,_,_,_⟩:=pa ad ai bf bg bT bV;obtain⟨_,_,_,_,_,_⟩:=b3 o;have dR:0≤(bn:Int):=ko;have dS:bn<(ah.length:Int):=ko;obtain⟨eL,kW,cq⟩:=Kd.at_int bb.out bn dR dS;obtain rfl:dP=eL:=(by injection kW);replace cq:=pE HB cq;replace dR:=pM dR;replace dS:=pM dS;go_wp2_with (first|(refine gB (some 76) Tryz.func58 #[.int .i64 (rd ah bn)] rfl ?_;(refine(gV.calls k1 (rd ah bn) cg _ kV.out).mono ?_);rintro e _ ⟨rfl,hb⟩;refine⟨_,rfl,?_⟩;replace ij:=bR ij hb;replace iq:=bQ iq hb;replace o:=bU o hb;replace I:=bU I hb;replace J:=bU J hb;replace aa:=bU aa hb;replace HB:=bW HB hb;clear hb));go_roundg k1
        case measure=>have:=di.out;omega
        case rel=>exact⟨((bZ++(⟨#[44]⟩:BA))++cg),(wrap64 (bn+1)),eA,eA,H',⟨by have:=di.out;omega⟩,⟨rS ij⟩,⟨qS iq⟩,⟨kS o⟩,⟨kS I⟩,⟨kS J⟩,⟨kS aa⟩,⟨wZ HB⟩⟩
       ·as_aux_lemma=>
        have dZ:=pF cS;clear cS;obtain⟨rfl,rfl,rfl,rfl⟩:=s4 H;obtain⟨_,_,_,_,_,_⟩:=pa ad ai bf bg bT bV;obtain⟨_,_,_,_,_,_⟩:=b3 o;obtain⟨_,_,_,_⟩:=pY ab ak bk bl;obtain⟨_,_,_,_,_,_⟩:=b3 J;obtain⟨_,_⟩:=pW al an;obtain⟨_,_,_,_,_,_⟩:=b3 I;go_wp2;refine rE #[.int .i64 aD,.slice ax ag.length ay,.slice aB ao.length aC] (kP I) Tryz.underlying26 ?_;exact⟨_,_,eF,rT ij,by(repeat apply Kd.QS);exact Kd.Q_mono (Kd.Q_far (p:=⟨aw,2,none⟩) (Kd.Q_far (p:=⟨aw,1,none⟩) (Kd.Q_far (p:=⟨aw,0,none⟩) (Kd.Q_types iq.out I.out (by decide)) (fun _ hk=>hk.2) (.int .i64 aD)) (fun _ hk=>hk.2) (.slice ax ag.length ay)) (fun _ hk=>hk.2) (.slice aB ao.length aC)) (fun _ hk=>hk.1),wZ HB⟩
    ·as_aux_lemma=>
     obtain⟨eJ,eK⟩:=pe dC;rcases iT H with⟨cy,H⟩|⟨cy,H⟩
     ·as_aux_lemma=>
      obtain⟨ea,eb⟩:=pf cy;clear cy;obtain⟨cR,kX,H⟩:=bE H;try dsimp only at H
      obtain⟨rfl,rfl,rfl,rfl⟩:=s4 H;try go_wp2_with (first|(refine gB (some 46) Tryz.func56 #[.int .i64 af,.slice aI ah.length aH] rfl ?_;(refine(pz.calls k af _ _ ah aM _ ?_ ?_ dY.out).mono ?_);exact Kd.C_below bb.out (wZ HB);exact bh.out;rintro e kY ⟨rfl,hb⟩;refine⟨_,rfl,?_⟩;replace aE:=bm (Kd.R_below (rT aE) hb);replace aF:=bm (Kd.S_below (sT aF) hb);replace o:=bU o hb;replace I:=bU I hb;replace J:=bU J hb;replace aa:=bP #[.int .i64 aY,.string aZ] aa hb;replace HB:=bW HB hb;clear hb))
      replace aE:=pH aE;replace aF:=pJ aF;replace o:=pG o;replace I:=pG I;replace J:=pG J;replace aa:=pG aa;replace HB:=pL HB;refine start_ (n:=7) (S:=fun w'=>w'.cell? ⟨aA,0,none⟩=some (.int .i64 aD)∧w'.cell? ⟨aA,1,none⟩=some (.slice ax ag.length ay)∧w'.cell? ⟨aA,2,none⟩=some (.slice aB ao.length aC)∧w'.cell? ⟨av,0,none⟩=some (.int .i64 af)∧w'.cell? ⟨av,1,none⟩=some (.slice aI ah.length aH)∧w'.cell? ⟨av,2,none⟩=some (.slice aK az.length aL)) (ds:=[]) Be (by kernel_rfl) rfl rfl ⟨bz J 0,bz J 1,bz J 2,bz o 0,bz o 1,bz o 2⟩ (fun hHeld=>?_);generalize kY.drew=ov at aE aF o I J aa HB hHeld⊢;refine pB 1 83 ?_ ?_ ?_ ?_ (tB 0 82 hHeld ?_ ?_ ?_ ?_ (tB 2 84 hHeld ?_ ?_ ?_ ?_ (pB 3 85 ?_ ?_ ?_ ?_ ?_)))
      all_goals first|(rintro w' ⟨_,_,_,_,s4,_⟩;go_simp;with_reducible rfl)|(intro w';go_simp;with_reducible rfl)|(simp only[Act.put,qA,qB,qC,i64_w,i32_w];rfl)|skip
      refine one_ (i:=4) (N:=some 86) #[true,true,true,true,true,false,false] rfl rfl (by kernel_rfl) (by decide) (fun K hK=>?_);refine gO Tryz.func58 #[.int .i64 (az.length:Int)] rfl ?_;refine(gV.calls k (az.length:Int) cR _ kX.out).mono ?_;rintro e _ ⟨rfl,hb⟩;refine⟨_,rfl,?_⟩;replace aE:=bR aE hb;replace aF:=bS aF hb;replace o:=bU o hb;replace I:=bU I hb;replace J:=bU J hb;replace aa:=bU aa hb;replace HB:=bW HB hb;clear hb;refine hK.out _ _ ⟨bz J 0,bz J 1,bz J 2,bz o 0,bz o 1,bz o 2⟩ (fun hHeld=>?_);clear hK K;refine pU 86 ?_
      refine one_ (i:=5) (N:=none) #[true,true,true,true,true,true,false] rfl rfl (by kernel_rfl) (by decide) (fun K hK=>?_);have nN:=bC I 0;have l9:=qZ I.out 0;obtain⟨_,_,_,_,_,_⟩:=pa ad ab an ai ak al;have nO:=bC I 1;have ma:=qZ I.out 1;obtain⟨_,_,_,_,_,_⟩:=pa ad ab an ai ak al;have nP:=bC I 2;have mb:=qZ I.out 2;obtain⟨_,_,_,_,_,_⟩:=pa ad ab an ai ak al;refine skip_ (w1:=?_) (by rfl) rfl ?_ ?_;rotate_left
      ·go_simp;rfl
      refine hK.out _ _ ⟨k3 ab hHeld.1,k3 ab hHeld.2.1,k3 ab hHeld.2.2.1,k3 ad hHeld.2.2.2.1,k3 ad hHeld.2.2.2.2.1,k3 ad hHeld.2.2.2.2.2⟩ (fun hHeld=>?_);clear hK K;refine pB 6 5 ?_ ?_ ?_ ?_ ?_
      all_goals first|(intro w';go_simp;with_reducible rfl)|(simp only[Act.put,qA,qB,qC,i64_w,i32_w];rfl)|skip
      refine done_ (by kernel_rfl) ?_;try go_wp2
      refine rE #[.int .i64 aD,.slice ax ag.length ay,.slice aB ao.length aC] (kP I) Tryz.underlying26 ?_;exact⟨_,_,eF,rT aE,Kd.Q_of_R ((Kd.S_R (sT aF))),wZ HB⟩
     ·as_aux_lemma=>
      obtain⟨ea,eb⟩:=pe cy;have dj:=bm H;clear H;go_upto_block 3 with(first|(refine gB (some 46) Tryz.func56 #[.int .i64 af,.slice aI ah.length aH] rfl ?_;(refine(pz.calls k af _ _ ah aM _ ?_ ?_ dY.out).mono ?_);exact Kd.C_below bb.out (wZ HB);exact bh.out;rintro e _ ⟨rfl,hb⟩;refine⟨_,rfl,?_⟩;replace aE:=bm (Kd.R_below (rT aE) hb);replace aF:=bm (Kd.S_below (sT aF) hb);replace o:=bU o hb;replace I:=bU I hb;replace J:=bU J hb;replace aa:=bP #[.int .i64 aY,.string aZ] aa hb;replace HB:=bW HB hb;clear hb))
      (try simp only[Act.put,qA,qB,qC]);go_cut [14] (fun eM wc=>∃(kq:Nat) (aj:Int),eM= .int .i64 aj∧hJ (fC.j2 kq a1 aM aj af ah az aD ag ao=some (r1,r2,r3,r4))∧hJ (kq≤k)∧hJ (Kd.R KI 3 wc w.heap.size (fun _=>True) (.slice ax ag.length ay) ag)∧hJ (Kd.Q KS 23 wc w.heap.size (fun k_=>some k_≠((.slice ax ag.length ay):Value).ownBlock) (.slice aB ao.length aC) ao)∧oI wc av #[.int .i64 af,(.slice aI ah.length aH),(.slice aK az.length aL)] 26∧oI wc aw #[.int .i64 0,(.slice none 0 0),(.slice none 0 0)] 26∧oI wc aA #[.int .i64 aD,(.slice ax ag.length ay),(.slice aB ao.length aC)] 26∧oI wc aR #[.int .i64 aY,.string aZ] 47∧hJ (Below w.heap.size w wc))
      case first=>
       have H:=dj.out;clear dj;have H':=bm H;clear H;go_wp2;go_loopg [14] k (fun kq eM w'=>∃(aS:Int),eM= .int .i64 aS∧hJ (fC.l1 kq a1 aM aS af ah az aD ag ao=some (r1,r2,r3,r4))∧hJ (kq≤k)∧hJ (Kd.R KI 3 w' w.heap.size (fun _=>True) (.slice ax ag.length ay) ag)∧hJ (Kd.Q KS 23 w' w.heap.size (fun k_=>some k_≠((.slice ax ag.length ay):Value).ownBlock) (.slice aB ao.length aC) ao)∧hJ (w'.heap[av]?=some (.cells #[.int .i64 af,(.slice aI ah.length aH),(.slice aK az.length aL)] 26 (0,0)))∧hJ (w'.heap[aw]?=some (.cells #[.int .i64 0,(.slice none 0 0),(.slice none 0 0)] 26 (0,0)))∧hJ (w'.heap[aA]?=some (.cells #[.int .i64 aD,(.slice ax ag.length ay),(.slice aB ao.length aC)] 26 (0,0)))∧hJ (w'.heap[aR]?=some (.cells #[.int .i64 aY,.string aZ] 47 (0,0)))∧hJ (Below w.heap.size w w'))
       case atStart=>exact⟨(0),eA,H',⟨Nat.le_refl _⟩,⟨rS aE⟩,⟨Kd.Q_of_R ((Kd.S_R (sS aF)))⟩,⟨kS o⟩,⟨kS I⟩,⟨kS J⟩,⟨kS aa⟩,⟨wZ HB⟩⟩
       case round=>
        clear H';obtain⟨aS,rfl,HA,di,ij,iq,o,I,J,aa,HB⟩:=hrel;cases gk with
        |zero=>exact absurd HA.out (by simp[fC.l1])
        |succ k1=>
         have H:=HA.out;clear HA;simp only[fC.l1]at H;rcases iT H with⟨cT,H⟩|⟨cT,H⟩
         ·as_aux_lemma=>
          have b5:=pK cT;clear cT;(first|rw[b5]|(simp only[i64_w,i32_w];rw[b5])|skip);obtain⟨mc,H⟩:=pN H;rcases iT H with⟨cz,H⟩|⟨cz,H⟩
          ·as_aux_lemma=>
           obtain⟨ec,ed⟩:=pf cz;clear cz;have H':=bm H;clear H;have cU:0≤(aS:Int):=ko;have cV:aS<(a1.size:Int):=ko;have eN:=bt_at a1 aS;replace cU:=pM cU;replace cV:=pM cV;go_wp2;go_meet
           case rel=>exact⟨_,(aS),eA,H',⟨by have:=di.out;first|omega|exact Nat.le_refl _⟩,⟨rS ij⟩,⟨qS iq⟩,⟨kS o⟩,⟨kS I⟩,⟨kS J⟩,⟨kS aa⟩,⟨wZ HB⟩⟩
          ·as_aux_lemma=>
           obtain⟨ec,ed⟩:=pe cz;have H':=bm H;clear H;have cU:0≤(aS:Int):=ko;have cV:aS<(a1.size:Int):=ko;have eN:=bt_at a1 aS;replace cU:=pM cU;replace cV:=pM cV;go_wp2;go_roundg k1
           case measure=>have:=di.out;omega
           case rel=>exact⟨(wrap64 (aS+1)),eA,H',⟨by have:=di.out;omega⟩,⟨rS ij⟩,⟨qS iq⟩,⟨kS o⟩,⟨kS I⟩,⟨kS J⟩,⟨kS aa⟩,⟨wZ HB⟩⟩
         ·as_aux_lemma=>
          have b5:=pF cT;clear cT;(first|rw[b5]|(simp only[i64_w,i32_w];rw[b5])|skip);have H':=bm H;clear H;go_wp2;go_meet
          case rel=>exact⟨_,(aS),eA,H',⟨by have:=di.out;first|omega|exact Nat.le_refl _⟩,⟨rS ij⟩,⟨qS iq⟩,⟨kS o⟩,⟨kS I⟩,⟨kS J⟩,⟨kS aa⟩,⟨wZ HB⟩⟩
      case rest=>
       clear dj;obtain⟨kq,aj,rfl,HA,bc,ij,iq,o,I,J,aa,HB⟩:=hcut;cases kq with
       |zero=>exact absurd HA.out (by simp[fC.j2])
       |succ ze=>
        have H:=HA.out;clear HA;simp only[fC.j2]at H;rcases iT H with⟨cA,H⟩|⟨cA,H⟩
        ·as_aux_lemma=>
         obtain⟨ee,ef⟩:=pf cA;clear cA;obtain⟨rfl,rfl,rfl,rfl⟩:=s4 H;obtain⟨_,_,_,_,_,_⟩:=pa bg bf ab ak bk bl;obtain⟨_,_,_,_,_,_⟩:=b3 J;obtain⟨_,_,_,_⟩:=pY ai ad al an;obtain⟨_,_,_,_,_,_⟩:=b3 I;go_wp2;refine rE #[.int .i64 aD,.slice ax ag.length ay,.slice aB ao.length aC] (kP I) Tryz.underlying26 ?_;exact⟨_,_,eF,rT ij,by(repeat apply Kd.QS);exact Kd.Q_mono (Kd.Q_far (p:=⟨aw,2,none⟩) (Kd.Q_far (p:=⟨aw,1,none⟩) (Kd.Q_far (p:=⟨aw,0,none⟩) (Kd.Q_types iq.out I.out (by decide)) (fun _ hk=>hk.2) (.int .i64 aD)) (fun _ hk=>hk.2) (.slice ax ag.length ay)) (fun _ hk=>hk.2) (.slice aB ao.length aC)) (fun _ hk=>hk.1),wZ HB⟩
        ·as_aux_lemma=>
         obtain⟨ee,ef⟩:=pe cA;obtain⟨mu,mv,H⟩:=pO H;obtain⟨mw,my,H⟩:=pO H;obtain⟨bo,aO⟩:∃j_:Int,(wrap64 (aj+1))=j_:=⟨_,rfl⟩;first|rw[aO]at H|simp only[aO]at H
         have k0:(IntKind.i64.wrap (aj+1))=bo:=(i64_w _).trans aO;obtain⟨mz,mA,H⟩:=pO H;obtain⟨mB,mC,H⟩:=pO H;obtain⟨⟨bd,bJ⟩,k4,H⟩:=bE H;try dsimp only at H
         have mD:=pM (ko:0≤(bo));have mE:=pM (ko:(bo)≤(a1.size:Int));obtain⟨⟨aP,aQ,br⟩,eu,H⟩:=bE H;try dsimp only at H
         have dk:=bm H;clear H;try go_wp2
         replace ij:=pH ij;replace iq:=pI iq;replace o:=pG o;replace I:=pG I;replace J:=pG J;replace aa:=pG aa;replace HB:=pL HB;refine start_ (n:=12) (S:=fun w'=>w'.cell? ⟨av,0,none⟩=some (.int .i64 af)∧w'.cell? ⟨av,1,none⟩=some (.slice aI ah.length aH)∧w'.cell? ⟨av,2,none⟩=some (.slice aK az.length aL)) (ds:=[]) Bb (by kernel_rfl) rfl rfl ⟨bz o 0,bz o 1,bz o 2⟩ (fun hHeld=>?_);refine with_tabW fC.Fs fC.DP (fun ar a6=>?_);generalize wc.drew=bs at ij iq o I J aa HB hHeld⊢;refine pA 0 108 ar ?_ ?_ ?_ ?_ (pA 2 110 ar ?_ ?_ ?_ ?_ (pA 3 111 ar ?_ ?_ ?_ ?_ (pA 4 112 ar ?_ ?_ ?_ ?_ (pA 5 113 ar ?_ ?_ ?_ ?_ (tA 1 109 ar a6 hHeld ?_ ?_ ?_ ?_ ?_)))))
         all_goals first|(rintro w' ⟨_,_,_⟩;go_simp;with_reducible rfl)|(intro w';go_simp;with_reducible rfl)|(simp only[Act.put,qA,qB,qC,i64_w,i32_w];rfl)|skip
         refine oA 6 (some 114) ar (fun K hK=>?_);refine goes_ Tryz.func59 (by kernel_rfl) rfl #[.int .i64 af,.string (a1.extract ((bo):Int).toNat a1.size)] (by rfl) rfl rfl (by(try simp only[List.map_toArray,List.map_cons,List.map_nil]);first|done|(simp only[aO];rfl)|rfl|(simp only[List.length_drop,List.length_take];rfl)) ?_;refine(jv.calls ze af (a1.extract ((bo):Int).toNat a1.size) bd bJ _ k4.out).mono ?_;rintro e w' ⟨rfl,⟨nd,rfl⟩⟩;refine⟨_,rfl,?_⟩;refine hK.out _ _ ⟨bz o 0,bz o 1,bz o 2⟩ (fun hHeld=>?_);clear hK K;refine pU 114 ?_
         refine pA 7 107 ar ?_ ?_ ?_ ?_ (pA 8 115 ar ?_ ?_ ?_ ?_ (pA 9 116 ar ?_ ?_ ?_ ?_ (pA 10 16 ar ?_ ?_ ?_ ?_ (pA 11 17 ar ?_ ?_ ?_ ?_ ?_))))
         all_goals first|(intro w';go_simp;with_reducible rfl)|(simp only[Act.put,qA,qB,qC,i64_w,i32_w];rfl)|skip
         refine done_ (done_of ar.out (by kernel_rfl)) ?_;try go_wp2
         (try(rw[drewN_self bs];generalize rk:World.drewN bs _=bs;replace ij:hJ (Kd.R KI 3 bs w.heap.size (fun _=>True) (.slice ax ag.length ay) ag):=⟨by rw[←rk];exact(rS ij)⟩;replace iq:hJ (Kd.Q KS 23 bs w.heap.size (fun k_=>some k_≠(.slice ax ag.length ay:Value).ownBlock) (.slice aB ao.length aC) ao):=⟨by rw[←rk];exact(qS iq)⟩;replace o:oI bs av #[.int .i64 af,.slice aI ah.length aH,.slice aK az.length aL] 26:=⟨by rw[←rk];exact(kS o)⟩;replace I:oI bs aw #[.int .i64 0,.slice none 0 0,.slice none 0 0] 26:=⟨by rw[←rk];exact(kS I)⟩;replace J:oI bs aA #[.int .i64 aD,.slice ax ag.length ay,.slice aB ao.length aC] 26:=⟨by rw[←rk];exact(kS J)⟩;replace aa:oI bs aR #[.int .i64 aY,.string aZ] 47:=⟨by rw[←rk];exact(kS aa)⟩;replace HB:hJ (Below w.heap.size w bs):=⟨by rw[←rk];exact(wZ HB)⟩;clear rk));replace ij:=pH ij;replace iq:=pI iq;replace o:=pG o;replace I:=pG I;replace J:=pG J;replace aa:=pG aa;replace HB:=pL HB;refine start_ (n:=13) (S:=fun w'=>w'.cell? ⟨av,0,none⟩=some (.int .i64 af)∧w'.cell? ⟨av,1,none⟩=some (.slice aI ah.length aH)∧w'.cell? ⟨av,2,none⟩=some (.slice aK az.length aL)) (ds:=[]) #[false,false,false,false,false,false,false,false,false,false,false,false,false] (by kernel_rfl) rfl rfl ⟨bz o 0,bz o 1,bz o 2⟩ (fun hHeld=>?_);refine with_tabW fC.Ft fC.DQ (fun ar a6=>?_);generalize bs.drew=oy at ij iq o I J aa HB hHeld⊢;refine pA 0 118 ar ?_ ?_ ?_ ?_ (pA 2 120 ar ?_ ?_ ?_ ?_ (pA 3 121 ar ?_ ?_ ?_ ?_ (pA 4 122 ar ?_ ?_ ?_ ?_ (pA 5 123 ar ?_ ?_ ?_ ?_ (tA 1 119 ar a6 hHeld ?_ ?_ ?_ ?_ ?_)))))
         all_goals first|(rintro w' ⟨_,_,_⟩;go_simp;with_reducible rfl)|(intro w';go_simp;with_reducible rfl)|(simp only[Act.put,qA,qB,qC,i64_w,i32_w];rfl)|skip
         refine join_ (σ:=Nat) 2 Cw (fun s_=>[(124,.tuple #[.agg #[.int .i64 aP,.int .i64 aQ],.bool br]),(18,.pointer (some ⟨s_,0,none⟩)),(117,.tuple #[.agg #[.int .i64 aP,.int .i64 aQ],.bool br]),(125,.agg #[.int .i64 aP,.int .i64 aQ]),(126,.bool br)]) (fun s_ w'=>(w'.cell? ⟨av,0,none⟩=some (.int .i64 af)∧w'.cell? ⟨av,1,none⟩=some (.slice aI ah.length aH)∧w'.cell? ⟨av,2,none⟩=some (.slice aK az.length aL))∧(Kd.R KI 3 w' w.heap.size (fun _=>True) (.slice ax ag.length ay) ag)∧(Kd.Q KS 23 w' w.heap.size (fun k_=>some k_≠(.slice ax ag.length ay:Value).ownBlock) (.slice aB ao.length aC) ao)∧(w'.heap[av]?=some (.cells #[.int .i64 af,.slice aI ah.length aH,.slice aK az.length aL] 26 (0,0)))∧(w'.heap[aw]?=some (.cells #[.int .i64 0,.slice none 0 0,.slice none 0 0] 26 (0,0)))∧(w'.heap[aA]?=some (.cells #[.int .i64 aD,.slice ax ag.length ay,.slice aB ao.length aC] 26 (0,0)))∧(w'.heap[aR]?=some (.cells #[.int .i64 aY,.string aZ] 47 (0,0)))∧(w'.heap[s_]?=some (.cells #[.int .i64 0,.int .i64 0] 87 (0,0)))∧(w.heap.size≤s_)∧(w.heap.size≤s_)∧(av≠s_)∧(s_≠av)∧(aw≠s_)∧(s_≠aw)∧(aA≠s_)∧(s_≠aA)∧(aR≠s_)∧(s_≠aR)∧(Below w.heap.size w w')) ?_ ?_;rotate_left
         ·intro qU;refine two_ (i:=6) (j:=10) (Ni:=some 124) (Nj:=some 18) #[true,true,true,true,true,true,true,false,false,false,false,false,false] #[true,true,true,true,true,true,false,false,false,false,true,false,false] rfl rfl rfl rfl (two_of ar.out (by kernel_rfl)) (by decide) (by decide) (fun K hK=>?_) (fun K hK=>?_)
          ·skip;refine goes_ Tryz.func60 (by kernel_rfl) rfl #[.int .i64 af,.string (a1.extract ((bo):Int).toNat a1.size)] (by rfl) rfl rfl (by(try simp only[List.map_toArray,List.map_cons,List.map_nil]);first|done|(simp only[aO];rfl)|rfl|(simp only[List.length_drop,List.length_take];rfl)) ?_;refine(iu.calls ze af (a1.extract ((bo):Int).toNat a1.size) aP aQ br _ eu.out).mono ?_;rintro e _ ⟨rfl,hb⟩;refine⟨_,rfl,?_⟩;replace ij:=bR ij hb;replace iq:=bQ iq hb;replace o:=bU o hb;replace I:=bU I hb;replace J:=bU J hb;replace aa:=bU aa hb;replace HB:=bW HB hb;clear hb;refine hK.out _ _ ⟨bz o 0,bz o 1,bz o 2⟩ (fun hHeld=>?_);clear hK K;refine pU 124 ?_
           refine pA 7 117 ar ?_ ?_ ?_ ?_ (pA 8 125 ar ?_ ?_ ?_ ?_ (pA 9 126 ar ?_ ?_ ?_ ?_ ?_))
           all_goals first|(intro w';go_simp;with_reducible rfl)|(simp only[Act.put,qA,qB,qC,i64_w,i32_w];rfl)|skip
           refine oA 10 (some 18) ar (fun K hK=>?_);refine box_step ?hg (N:=18) ?hd (cs:= #[.int .i64 0,.int .i64 0]) (t:=87) ?hr ?_;(case hd=>rfl);(case hg=>rfl);(case hr=>first|(go_simp;done)|(go_simp;rfl));intro aG hg _ aW hb;replace ij:=bR ij hb;replace iq:=bQ iq hb;have ae:=bm (aW);have cH:=bG HB hg;have cI:=bG HB hg;replace HB:=bW HB hb;have aN:=bL o hg;have a7:=bM o hg;replace o:=bU o hb;have au:=bL I hg;have aq:=bM I hg;replace I:=bU I hb;have aU:=bL J hg;have aV:=bM J hg;replace J:=bU J hb;have a8:=bL aa hg;have ba:=bM aa hg;replace aa:=bU aa hb;clear hb aW hg;refine hK.out _ _ ⟨bz o 0,bz o 1,bz o 2⟩ (fun hHeld=>?_);clear hK K;refine pU 18 ?_
           exact norm_ (by simp only[putAll,Act.put,qA,qB,qC]) (qU (aG) _ ⟨hHeld,(rS ij),(qS iq),(kS o),(kS I),(kS J),(kS aa),(kS ae),cH.out,cI.out,aN.out,a7.out,au.out,aq.out,aU.out,aV.out,a8.out,ba.out,(wZ HB)⟩)
          ·skip;refine box_step ?hg (N:=18) ?hd (cs:= #[.int .i64 0,.int .i64 0]) (t:=87) ?hr ?_;(case hd=>rfl);(case hg=>rfl);(case hr=>first|(go_simp;done)|(go_simp;rfl));intro aG hg _ aW hb;replace ij:=bR ij hb;replace iq:=bQ iq hb;have ae:=bm (aW);have cH:=bG HB hg;have cI:=bG HB hg;replace HB:=bW HB hb;have aN:=bL o hg;have a7:=bM o hg;replace o:=bU o hb;have au:=bL I hg;have aq:=bM I hg;replace I:=bU I hb;have aU:=bL J hg;have aV:=bM J hg;replace J:=bU J hb;have a8:=bL aa hg;have ba:=bM aa hg;replace aa:=bU aa hb;clear hb aW hg;refine hK.out _ _ ⟨bz o 0,bz o 1,bz o 2⟩ (fun hHeld=>?_);clear hK K;refine pU 18 ?_
           refine oA 6 (some 124) ar (fun K hK=>?_);refine goes_ Tryz.func60 (by kernel_rfl) rfl #[.int .i64 af,.string (a1.extract ((bo):Int).toNat a1.size)] (by rfl) rfl rfl (by(try simp only[List.map_toArray,List.map_cons,List.map_nil]);first|done|(simp only[aO];rfl)|rfl|(simp only[List.length_drop,List.length_take];rfl)) ?_;refine(iu.calls ze af (a1.extract ((bo):Int).toNat a1.size) aP aQ br _ eu.out).mono ?_;rintro e _ ⟨rfl,hb⟩;refine⟨_,rfl,?_⟩;replace ij:=bR ij hb;replace iq:=bQ iq hb;replace o:=bU o hb;replace I:=bU I hb;replace J:=bU J hb;replace aa:=bU aa hb;replace ae:=bU ae hb;replace HB:=bW HB hb;clear hb;refine hK.out _ _ ⟨bz o 0,bz o 1,bz o 2⟩ (fun hHeld=>?_);clear hK K;refine pU 124 ?_
           refine pA 7 117 ar ?_ ?_ ?_ ?_ (pA 8 125 ar ?_ ?_ ?_ ?_ (pA 9 126 ar ?_ ?_ ?_ ?_ ?_))
           all_goals first|(intro w';go_simp;with_reducible rfl)|(simp only[Act.put,qA,qB,qC,i64_w,i32_w];rfl)|skip
           exact norm_ (by simp only[putAll,Act.put,qA,qB,qC]) (qU (aG) _ ⟨hHeld,(rS ij),(qS iq),(kS o),(kS I),(kS J),(kS aa),(kS ae),cH.out,cI.out,aN.out,a7.out,au.out,aq.out,aU.out,aV.out,a8.out,ba.out,(wZ HB)⟩)
         rintro aG bu ⟨zN,k7,k8,k9,la,lb,ld,lf,lg,lh,lj,ev,ew,ey,ez,eB,eC,eD,eE⟩;replace ij:hJ (Kd.R KI 3 bu w.heap.size (fun _=>True) (.slice ax ag.length ay) ag):=⟨k7⟩;replace iq:hJ (Kd.Q KS 23 bu w.heap.size (fun k_=>some k_≠(.slice ax ag.length ay:Value).ownBlock) (.slice aB ao.length aC) ao):=⟨k8⟩;replace o:oI bu av #[.int .i64 af,.slice aI ah.length aH,.slice aK az.length aL] 26:=⟨k9⟩;replace I:oI bu aw #[.int .i64 0,.slice none 0 0,.slice none 0 0] 26:=⟨la⟩;replace J:oI bu aA #[.int .i64 aD,.slice ax ag.length ay,.slice aB ao.length aC] 26:=⟨lb⟩;replace aa:oI bu aR #[.int .i64 aY,.string aZ] 47:=⟨ld⟩;have ae:oI bu aG #[.int .i64 0,.int .i64 0] 87:=⟨lf⟩;have cH:hJ (w.heap.size≤aG):=⟨lg⟩;have cI:hJ (w.heap.size≤aG):=⟨lh⟩;have aN:hJ (av≠aG):=⟨lj⟩;have a7:hJ (aG≠av):=⟨ev⟩;have au:hJ (aw≠aG):=⟨ew⟩;have aq:hJ (aG≠aw):=⟨ey⟩;have aU:hJ (aA≠aG):=⟨ez⟩;have aV:hJ (aG≠aA):=⟨eB⟩;have a8:hJ (aR≠aG):=⟨eC⟩;have ba:hJ (aG≠aR):=⟨eD⟩;replace HB:hJ (Below w.heap.size w bu):=⟨eE⟩;clear k7 k8 k9 la lb ld lf lg lh lj ev ew ey ez eB eC eD eE;have hHeld:bu.cell? ⟨av,0,none⟩=some (.int .i64 af)∧bu.cell? ⟨av,1,none⟩=some (.slice aI ah.length aH)∧bu.cell? ⟨av,2,none⟩=some (.slice aK az.length aL):=zN;refine norm_ (a':=?_) ?_ ?_;rotate_left
         ·simp only[putAll,Act.put,qA,qB,qC];rfl
         refine oA 11 (none) ar (fun K hK=>?_);have nQ:=bC ae 0;have mF:=qZ ae.out 0;obtain⟨_,_,_,_,_,_,_,_⟩:=pc aN au aU a8 a7 aq aV ba;have nR:=bC ae 1;have mG:=qZ ae.out 1;obtain⟨_,_,_,_,_,_,_,_⟩:=pc aN au aU a8 a7 aq aV ba;refine skip_ (w1:=?_) (by rfl) rfl ?_ ?_;rotate_left
         ·go_simp;rfl
         refine hK.out _ _ ⟨k2 aN hHeld.1,k2 aN hHeld.2.1,k2 aN hHeld.2.2⟩ (fun hHeld=>?_);clear hK K;refine pA 12 19 ar ?_ ?_ ?_ ?_ ?_
         all_goals first|(intro w';go_simp;with_reducible rfl)|(simp only[Act.put,qA,qB,qC,i64_w,i32_w];rfl)|skip
         refine done_ (done_of ar.out (by kernel_rfl)) ?_;go_upto_region 31 with(fail)
         go_cut [127] (fun v127 wc=>∃(kq:Nat) (bx:Bool),v127= .bool bx∧hJ (fC.j3 kq aM (a1.extract 0 (aj:Int).toNat) bd bJ br bx af ah az aD ag ao aP aQ=some (r1,r2,r3,r4))∧hJ (kq≤ze)∧hJ (Kd.R KI 3 wc w.heap.size (fun _=>True) (.slice ax ag.length ay) ag)∧hJ (Kd.Q KS 23 wc w.heap.size (fun k_=>some k_≠((.slice ax ag.length ay):Value).ownBlock) (.slice aB ao.length aC) ao)∧oI wc av #[.int .i64 af,(.slice aI ah.length aH),(.slice aK az.length aL)] 26∧oI wc aw #[.int .i64 0,(.slice none 0 0),(.slice none 0 0)] 26∧oI wc aA #[.int .i64 aD,(.slice ax ag.length ay),(.slice aB ao.length aC)] 26∧oI wc aR #[.int .i64 aY,.string aZ] 47∧oI wc aG #[.int .i64 aP,.int .i64 aQ] 87∧hJ (Below w.heap.size w wc))
         case first=>
          have H:=dk.out;clear dk;rcases iT H with⟨cB,H⟩|⟨cB,H⟩
          ·as_aux_lemma=>
           obtain⟨b6,eg⟩:=pf cB;clear cB;(first|rw[b6]|(simp only[i64_w,i32_w];rw[b6])|skip);have H':=bm H;clear H;go_wp2;go_meet
           case rel=>exact⟨_,(bJ),eA,H',⟨by have:=bc.out;first|omega|exact Nat.le_refl _⟩,⟨rT ij⟩,⟨by(repeat apply Kd.QS);exact Kd.Q_mono (Kd.Q_far (p:=⟨aG,1,none⟩) (Kd.Q_far (p:=⟨aG,0,none⟩) (Kd.Q_types iq.out ae.out (by decide)) (fun _ hk=>hk.2) (.int .i64 aP)) (fun _ hk=>hk.2) (.int .i64 aQ)) (fun _ hk=>hk.1)⟩,⟨kS o⟩,⟨kS I⟩,⟨kS J⟩,⟨kS aa⟩,⟨kP ae⟩,⟨wZ HB⟩⟩
          ·as_aux_lemma=>
           obtain⟨b6,eg⟩:=pe cB;(first|rw[b6]|(simp only[i64_w,i32_w];rw[b6])|skip);have H':=bm H;clear H;go_wp2;go_meet
           case rel=>exact⟨_,(false),eA,H',⟨by have:=bc.out;first|omega|exact Nat.le_refl _⟩,⟨rT ij⟩,⟨by(repeat apply Kd.QS);exact Kd.Q_mono (Kd.Q_far (p:=⟨aG,1,none⟩) (Kd.Q_far (p:=⟨aG,0,none⟩) (Kd.Q_types iq.out ae.out (by decide)) (fun _ hk=>hk.2) (.int .i64 aP)) (fun _ hk=>hk.2) (.int .i64 aQ)) (fun _ hk=>hk.1)⟩,⟨kS o⟩,⟨kS I⟩,⟨kS J⟩,⟨kS aa⟩,⟨kP ae⟩,⟨wZ HB⟩⟩
         case rest=>
          clear dk;obtain⟨kq,bx,rfl,HA,bj,ij,iq,o,I,J,aa,ae,HB⟩:=hcut;cases kq with
          |zero=>exact absurd HA.out (by simp[fC.j3])
          |succ Di=>
           have H:=HA.out;clear HA;simp only[fC.j3]at H;by_cases du:bx=true
           ·as_aux_lemma=>
            subst du;rw[if_pos rfl]at H;obtain⟨cK,lk,H⟩:=bE H;try dsimp only at H
            obtain⟨dD,ll,H⟩:=bE H;try dsimp only at H
            obtain⟨rfl,rfl,rfl,rfl⟩:=s4 H;try go_wp2
            replace ij:=pH ij;replace iq:=pI iq;replace o:=pG o;replace I:=pG I;replace J:=pG J;replace aa:=pG aa;replace ae:=pG ae;replace HB:=pL HB;refine start_ (n:=9) (S:=fun w'=>w'.cell? ⟨aA,0,none⟩=some (.int .i64 aD)∧w'.cell? ⟨aA,1,none⟩=some (.slice ax ag.length ay)∧w'.cell? ⟨aA,2,none⟩=some (.slice aB ao.length aC)) (ds:=[]) #[false,false,false,false,false,false,false,false,false] (by kernel_rfl) rfl rfl ⟨bz J 0,bz J 1,bz J 2⟩ (fun hHeld=>?_);refine with_tabW fC.AX fC.yk (fun ar a6=>?_);generalize wc.drew=oz at ij iq o I J aa ae HB hHeld⊢;refine pA 1 134 ar ?_ ?_ ?_ ?_ (pA 2 135 ar ?_ ?_ ?_ ?_ (pA 4 137 ar ?_ ?_ ?_ ?_ (tA 0 133 ar a6 hHeld ?_ ?_ ?_ ?_ ?_)))
            all_goals first|(rintro w' ⟨_,_,_⟩;go_simp;with_reducible rfl)|(intro w';go_simp;with_reducible rfl)|(simp only[Act.put,qA,qB,qC,i64_w,i32_w];rfl)|skip
            refine oA 3 (some 136) ar (fun K hK=>?_);refine gO Tryz.func62 #[.int .i64 aM,.int .i64 bd] rfl ?_;refine(ki.calls Di aM bd cK _ lk.out).mono ?_;rintro e w' ⟨rfl,⟨nd,rfl⟩⟩;refine⟨_,rfl,?_⟩;refine hK.out _ _ ⟨bz J 0,bz J 1,bz J 2⟩ (fun hHeld=>?_);clear hK K;refine pU 136 ?_
            refine pA 5 138 ar ?_ ?_ ?_ ?_ ?_
            all_goals first|(intro w';go_simp;with_reducible rfl)|(simp only[Act.put,qA,qB,qC,i64_w,i32_w];rfl)|skip
            refine oA 6 (some 139) ar (fun K hK=>?_);refine gO Tryz.func61 #[.bool (cK==aM)] rfl ?_;refine(qX.calls (cK==aM) dD _ ll.out).mono ?_;rintro e w' ⟨rfl,⟨nd,rfl⟩⟩;refine⟨_,rfl,?_⟩;refine hK.out _ _ ⟨bz J 0,bz J 1,bz J 2⟩ (fun hHeld=>?_);clear hK K;refine pU 139 ?_
            refine oA 7 (none) ar (fun K hK=>?_);have nS:=bC I 0;have mH:=qZ I.out 0;obtain⟨_,_,_,_,_,_,_,_⟩:=pc ad ab an aq ai ak al au;have nT:=bC I 1;have mI:=qZ I.out 1;obtain⟨_,_,_,_,_,_,_,_⟩:=pc ad ab an aq ai ak al au;have nU:=bC I 2;have mJ:=qZ I.out 2;obtain⟨_,_,_,_,_,_,_,_⟩:=pc ad ab an aq ai ak al au;refine skip_ (w1:=?_) (by rfl) rfl ?_ ?_;rotate_left
            ·go_simp;rfl
            refine hK.out _ _ ⟨k3 ab hHeld.1,k3 ab hHeld.2.1,k3 ab hHeld.2.2⟩ (fun hHeld=>?_);clear hK K;refine pA 8 5 ar ?_ ?_ ?_ ?_ ?_
            all_goals first|(intro w';go_simp;with_reducible rfl)|(simp only[Act.put,qA,qB,qC,i64_w,i32_w];rfl)|skip
            refine done_ (done_of ar.out (by kernel_rfl)) ?_;try go_wp2
            refine rE #[.int .i64 aD,.slice ax ag.length ay,.slice aB ao.length aC] (kP I) Tryz.underlying26 ?_;exact⟨_,_,by first|rfl|(simp[iJ,iK]<;>rfl)|(simp only[←aO];first|rfl|(simp[iJ,iK]<;>rfl))|(simp[*,iJ,iK]<;>rfl),rT ij,by(repeat apply Kd.QS);exact Kd.Q_mono (Kd.Q_far (p:=⟨aw,2,none⟩) (Kd.Q_far (p:=⟨aw,1,none⟩) (Kd.Q_far (p:=⟨aw,0,none⟩) (Kd.Q_types iq.out I.out (by decide)) (fun _ hk=>hk.2) (.int .i64 aD)) (fun _ hk=>hk.2) (.slice ax ag.length ay)) (fun _ hk=>hk.2) (.slice aB ao.length aC)) (fun _ hk=>hk.1),wZ HB⟩
           ·as_aux_lemma=>
            replace du:=pD du;subst du;rw[if_neg pV]at H;have dm:=bm H;clear H;go_upto_region 33 with(fail)
            go_cut [140] (fun ln wc=>∃(kq:Nat) (bA:Bool),ln= .bool bA∧hJ (fC.j4 kq aM (a1.extract 0 (aj:Int).toNat) bd bJ br bA af ah az aD ag ao aP aQ=some (r1,r2,r3,r4))∧hJ (kq≤Di)∧hJ (Kd.R KI 3 wc w.heap.size (fun _=>True) (.slice ax ag.length ay) ag)∧hJ (Kd.Q KS 23 wc w.heap.size (fun k_=>some k_≠((.slice ax ag.length ay):Value).ownBlock) (.slice aB ao.length aC) ao)∧oI wc av #[.int .i64 af,(.slice aI ah.length aH),(.slice aK az.length aL)] 26∧oI wc aw #[.int .i64 0,(.slice none 0 0),(.slice none 0 0)] 26∧oI wc aA #[.int .i64 aD,(.slice ax ag.length ay),(.slice aB ao.length aC)] 26∧oI wc aR #[.int .i64 aY,.string aZ] 47∧oI wc aG #[.int .i64 aP,.int .i64 aQ] 87∧hJ (Below w.heap.size w wc))
            case first=>
             have H:=dm.out;clear dm;rcases iT H with⟨cC,H⟩|⟨cC,H⟩
             ·as_aux_lemma=>
              obtain⟨b7,eh⟩:=pf cC;clear cC;(first|rw[b7]|(simp only[i64_w,i32_w];rw[b7])|skip);have H':=bm H;clear H;go_wp2;go_meet
              case rel=>exact⟨_,(bJ),eA,H',⟨by have:=bc.out;have:=bj.out;first|omega|exact Nat.le_refl _⟩,⟨rS ij⟩,⟨qS iq⟩,⟨kS o⟩,⟨kS I⟩,⟨kS J⟩,⟨kS aa⟩,⟨kS ae⟩,⟨wZ HB⟩⟩
             ·as_aux_lemma=>
              obtain⟨b7,eh⟩:=pe cC;(first|rw[b7]|(simp only[i64_w,i32_w];rw[b7])|skip);have H':=bm H;clear H;go_wp2;go_meet
              case rel=>exact⟨_,(false),eA,H',⟨by have:=bc.out;have:=bj.out;first|omega|exact Nat.le_refl _⟩,⟨rS ij⟩,⟨qS iq⟩,⟨kS o⟩,⟨kS I⟩,⟨kS J⟩,⟨kS aa⟩,⟨kS ae⟩,⟨wZ HB⟩⟩
            case rest=>
             clear dm;obtain⟨kq,bA,rfl,HA,bw,ij,iq,o,I,J,aa,ae,HB⟩:=hcut;cases kq with
             |zero=>exact absurd HA.out (by simp[fC.j4])
             |succ Bf=>
              have H:=HA.out;clear HA;simp only[fC.j4]at H;by_cases dv:bA=true
              ·as_aux_lemma=>
               subst dv;rw[if_pos rfl]at H;obtain⟨cL,lo,H⟩:=bE H;try dsimp only at H
               obtain⟨dE,lp,H⟩:=bE H;try dsimp only at H
               obtain⟨rfl,rfl,rfl,rfl⟩:=s4 H;try go_wp2
               replace ij:=pH ij;replace iq:=pI iq;replace o:=pG o;replace I:=pG I;replace J:=pG J;replace aa:=pG aa;replace ae:=pG ae;replace HB:=pL HB;refine start_ (n:=10) (S:=fun w'=>w'.cell? ⟨aA,0,none⟩=some (.int .i64 aD)∧w'.cell? ⟨aA,1,none⟩=some (.slice ax ag.length ay)∧w'.cell? ⟨aA,2,none⟩=some (.slice aB ao.length aC)∧w'.cell? ⟨av,0,none⟩=some (.int .i64 af)∧w'.cell? ⟨av,1,none⟩=some (.slice aI ah.length aH)∧w'.cell? ⟨av,2,none⟩=some (.slice aK az.length aL)) (ds:=[]) Bd (by kernel_rfl) rfl rfl ⟨bz J 0,bz J 1,bz J 2,bz o 0,bz o 1,bz o 2⟩ (fun hHeld=>?_);refine with_tabW fC.AY fC.yl (fun ar a6=>?_);generalize wc.drew=oB at ij iq o I J aa ae HB hHeld⊢;refine pA 1 147 ar ?_ ?_ ?_ ?_ (pA 3 149 ar ?_ ?_ ?_ ?_ (pA 5 151 ar ?_ ?_ ?_ ?_ (tA 0 146 ar a6 hHeld ?_ ?_ ?_ ?_ (tA 2 148 ar a6 hHeld ?_ ?_ ?_ ?_ (tA 4 150 ar a6 hHeld ?_ ?_ ?_ ?_ ?_)))))
               all_goals first|(rintro w' ⟨_,_,_,_,s4,_⟩;go_simp;with_reducible rfl)|(intro w';go_simp;with_reducible rfl)|(simp only[Act.put,qA,qB,qC,i64_w,i32_w];rfl)|skip
               refine oA 6 (some 152) ar (fun K hK=>?_);refine gO Tryz.func63 #[.int .i64 af,.slice aI ah.length aH,.int .i64 bd] rfl ?_;refine(jz.calls Bf af _ _ ah bd cL _ ?ix ?gH lo.out).mono ?_;(case ix=>exact cY bb HB);(case gH=>exact bh.out);rintro e _ ⟨rfl,hb⟩;refine⟨_,rfl,?_⟩;replace ij:=bR ij hb;replace iq:=bQ iq hb;replace o:=bU o hb;replace I:=bU I hb;replace J:=bU J hb;replace aa:=bU aa hb;replace ae:=bU ae hb;replace HB:=bW HB hb;clear hb;refine hK.out _ _ ⟨bz J 0,bz J 1,bz J 2,bz o 0,bz o 1,bz o 2⟩ (fun hHeld=>?_);clear hK K;refine pU 152 ?_
               refine oA 7 (some 153) ar (fun K hK=>?_);refine gO Tryz.func58 #[.int .i64 cL] rfl ?_;refine(gV.calls Bf cL dE _ lp.out).mono ?_;rintro e _ ⟨rfl,hb⟩;refine⟨_,rfl,?_⟩;replace ij:=bR ij hb;replace iq:=bQ iq hb;replace o:=bU o hb;replace I:=bU I hb;replace J:=bU J hb;replace aa:=bU aa hb;replace ae:=bU ae hb;replace HB:=bW HB hb;clear hb;refine hK.out _ _ ⟨bz J 0,bz J 1,bz J 2,bz o 0,bz o 1,bz o 2⟩ (fun hHeld=>?_);clear hK K;refine pU 153 ?_
               refine oA 8 (none) ar (fun K hK=>?_);have nV:=bC I 0;have mK:=qZ I.out 0;obtain⟨_,_,_,_,_,_,_,_⟩:=pc ad ab an aq ai ak al au;have nW:=bC I 1;have mL:=qZ I.out 1;obtain⟨_,_,_,_,_,_,_,_⟩:=pc ad ab an aq ai ak al au;have nX:=bC I 2;have mM:=qZ I.out 2;obtain⟨_,_,_,_,_,_,_,_⟩:=pc ad ab an aq ai ak al au;refine skip_ (w1:=?_) (by rfl) rfl ?_ ?_;rotate_left
               ·go_simp;rfl
               refine hK.out _ _ ⟨k3 ab hHeld.1,k3 ab hHeld.2.1,k3 ab hHeld.2.2.1,k3 ad hHeld.2.2.2.1,k3 ad hHeld.2.2.2.2.1,k3 ad hHeld.2.2.2.2.2⟩ (fun hHeld=>?_);clear hK K;refine pA 9 5 ar ?_ ?_ ?_ ?_ ?_
               all_goals first|(intro w';go_simp;with_reducible rfl)|(simp only[Act.put,qA,qB,qC,i64_w,i32_w];rfl)|skip
               refine done_ (done_of ar.out (by kernel_rfl)) ?_;try go_wp2
               refine rE #[.int .i64 aD,.slice ax ag.length ay,.slice aB ao.length aC] (kP I) Tryz.underlying26 ?_;exact⟨_,_,by first|rfl|(simp[iJ,iK]<;>rfl)|(simp only[←aO];first|rfl|(simp[iJ,iK]<;>rfl))|(simp[*,iJ,iK]<;>rfl),rT ij,by(repeat apply Kd.QS);exact Kd.Q_mono (Kd.Q_far (p:=⟨aw,2,none⟩) (Kd.Q_far (p:=⟨aw,1,none⟩) (Kd.Q_far (p:=⟨aw,0,none⟩) (Kd.Q_types iq.out I.out (by decide)) (fun _ hk=>hk.2) (.int .i64 aD)) (fun _ hk=>hk.2) (.slice ax ag.length ay)) (fun _ hk=>hk.2) (.slice aB ao.length aC)) (fun _ hk=>hk.1),wZ HB⟩
              ·as_aux_lemma=>
               replace dv:=pD dv;subst dv;rw[if_neg pV]at H;have dn:=bm H;clear H;go_upto_region 35 with(fail)
               go_cut [154] (fun v154 wc=>∃(kq:Nat) (bB:Bool),v154= .bool bB∧hJ (fC.j5 kq aM (a1.extract 0 (aj:Int).toNat) bd bJ br bB af ah az aD ag ao aP aQ=some (r1,r2,r3,r4))∧hJ (kq≤Bf)∧hJ (Kd.R KI 3 wc w.heap.size (fun _=>True) (.slice ax ag.length ay) ag)∧hJ (Kd.Q KS 23 wc w.heap.size (fun k_=>some k_≠((.slice ax ag.length ay):Value).ownBlock) (.slice aB ao.length aC) ao)∧oI wc av #[.int .i64 af,(.slice aI ah.length aH),(.slice aK az.length aL)] 26∧oI wc aw #[.int .i64 0,(.slice none 0 0),(.slice none 0 0)] 26∧oI wc aA #[.int .i64 aD,(.slice ax ag.length ay),(.slice aB ao.length aC)] 26∧oI wc aR #[.int .i64 aY,.string aZ] 47∧oI wc aG #[.int .i64 aP,.int .i64 aQ] 87∧hJ (Below w.heap.size w wc))
               case first=>
                have H:=dn.out;clear dn;rcases iT H with⟨cD,H⟩|⟨cD,H⟩
                ·as_aux_lemma=>
                 obtain⟨b8,ei⟩:=pf cD;clear cD;(first|rw[b8]|(simp only[i64_w,i32_w];rw[b8])|skip);have H':=bm H;clear H;go_wp2;go_meet
                 case rel=>exact⟨_,(bJ),eA,H',⟨by have:=bc.out;have:=bj.out;have:=bw.out;first|omega|exact Nat.le_refl _⟩,⟨rS ij⟩,⟨qS iq⟩,⟨kS o⟩,⟨kS I⟩,⟨kS J⟩,⟨kS aa⟩,⟨kS ae⟩,⟨wZ HB⟩⟩
                ·as_aux_lemma=>
                 obtain⟨b8,ei⟩:=pe cD;(first|rw[b8]|(simp only[i64_w,i32_w];rw[b8])|skip);have H':=bm H;clear H;go_wp2;go_meet
                 case rel=>exact⟨_,(false),eA,H',⟨by have:=bc.out;have:=bj.out;have:=bw.out;first|omega|exact Nat.le_refl _⟩,⟨rS ij⟩,⟨qS iq⟩,⟨kS o⟩,⟨kS I⟩,⟨kS J⟩,⟨kS aa⟩,⟨kS ae⟩,⟨wZ HB⟩⟩
               case rest=>
                clear dn;obtain⟨kq,bB,rfl,HA,cf,ij,iq,o,I,J,aa,ae,HB⟩:=hcut;cases kq with
                |zero=>exact absurd HA.out (by simp[fC.j5])
                |succ Bg=>
                 have H:=HA.out;clear HA;simp only[fC.j5]at H;by_cases dw:bB=true
                 ·as_aux_lemma=>
                  subst dw;rw[if_pos rfl]at H;obtain⟨cM,lq,H⟩:=bE H;try dsimp only at H
                  obtain⟨dF,lr,H⟩:=bE H;try dsimp only at H
                  obtain⟨rfl,rfl,rfl,rfl⟩:=s4 H;try go_wp2
                  replace ij:=pH ij;replace iq:=pI iq;replace o:=pG o;replace I:=pG I;replace J:=pG J;replace aa:=pG aa;replace ae:=pG ae;replace HB:=pL HB;refine start_ (n:=12) (S:=fun w'=>w'.cell? ⟨aA,0,none⟩=some (.int .i64 aD)∧w'.cell? ⟨aA,1,none⟩=some (.slice ax ag.length ay)∧w'.cell? ⟨aA,2,none⟩=some (.slice aB ao.length aC)∧w'.cell? ⟨av,0,none⟩=some (.int .i64 af)∧w'.cell? ⟨av,1,none⟩=some (.slice aI ah.length aH)∧w'.cell? ⟨av,2,none⟩=some (.slice aK az.length aL)) (ds:=[]) Bb (by kernel_rfl) rfl rfl ⟨bz J 0,bz J 1,bz J 2,bz o 0,bz o 1,bz o 2⟩ (fun hHeld=>?_);refine with_tabW fC.AZ fC.ym (fun ar a6=>?_);generalize wc.drew=oE at ij iq o I J aa ae HB hHeld⊢;refine pA 1 161 ar ?_ ?_ ?_ ?_ (pA 3 163 ar ?_ ?_ ?_ ?_ (pA 5 165 ar ?_ ?_ ?_ ?_ (pA 7 167 ar ?_ ?_ ?_ ?_ (tA 0 160 ar a6 hHeld ?_ ?_ ?_ ?_ (tA 2 162 ar a6 hHeld ?_ ?_ ?_ ?_ (tA 4 164 ar a6 hHeld ?_ ?_ ?_ ?_ (tA 6 166 ar a6 hHeld ?_ ?_ ?_ ?_ ?_)))))))
                  all_goals first|(rintro w' ⟨_,_,_,_,s4,_⟩;go_simp;with_reducible rfl)|(intro w';go_simp;with_reducible rfl)|(simp only[Act.put,qA,qB,qC,i64_w,i32_w];rfl)|skip
                  refine oA 8 (some 168) ar (fun K hK=>?_);refine gO Tryz.func64 #[.int .i64 af,.slice aI ah.length aH,.int .i64 bd] rfl ?_;refine(kK.calls Bg af _ _ ah bd cM _ ?ix ?gH lq.out).mono ?_;(case ix=>exact cY bb HB);(case gH=>exact bh.out);rintro e _ ⟨rfl,hb⟩;refine⟨_,rfl,?_⟩;replace ij:=bR ij hb;replace iq:=bQ iq hb;replace o:=bU o hb;replace I:=bU I hb;replace J:=bU J hb;replace aa:=bU aa hb;replace ae:=bU ae hb;replace HB:=bW HB hb;clear hb;refine hK.out _ _ ⟨bz J 0,bz J 1,bz J 2,bz o 0,bz o 1,bz o 2⟩ (fun hHeld=>?_);clear hK K;refine pU 168 ?_
                  refine oA 9 (some 169) ar (fun K hK=>?_);refine gO Tryz.func57 #[.int .i64 af,.int .i64 cM] rfl ?_;refine(gX.calls Bg af cM dF _ lr.out).mono ?_;rintro e _ ⟨rfl,hb⟩;refine⟨_,rfl,?_⟩;replace ij:=bR ij hb;replace iq:=bQ iq hb;replace o:=bU o hb;replace I:=bU I hb;replace J:=bU J hb;replace aa:=bU aa hb;replace ae:=bU ae hb;replace HB:=bW HB hb;clear hb;refine hK.out _ _ ⟨bz J 0,bz J 1,bz J 2,bz o 0,bz o 1,bz o 2⟩ (fun hHeld=>?_);clear hK K;refine pU 169 ?_
                  refine oA 10 (none) ar (fun K hK=>?_);have nY:=bC I 0;have mN:=qZ I.out 0;obtain⟨_,_,_,_,_,_,_,_⟩:=pc ad ab an aq ai ak al au;have nZ:=bC I 1;have mO:=qZ I.out 1;obtain⟨_,_,_,_,_,_,_,_⟩:=pc ad ab an aq ai ak al au;have n0:=bC I 2;have mP:=qZ I.out 2;obtain⟨_,_,_,_,_,_,_,_⟩:=pc ad ab an aq ai ak al au;refine skip_ (w1:=?_) (by rfl) rfl ?_ ?_;rotate_left
                  ·go_simp;rfl
                  refine hK.out _ _ ⟨k3 ab hHeld.1,k3 ab hHeld.2.1,k3 ab hHeld.2.2.1,k3 ad hHeld.2.2.2.1,k3 ad hHeld.2.2.2.2.1,k3 ad hHeld.2.2.2.2.2⟩ (fun hHeld=>?_);clear hK K;refine pA 11 5 ar ?_ ?_ ?_ ?_ ?_
                  all_goals first|(intro w';go_simp;with_reducible rfl)|(simp only[Act.put,qA,qB,qC,i64_w,i32_w];rfl)|skip
                  refine done_ (done_of ar.out (by kernel_rfl)) ?_;try go_wp2
                  refine rE #[.int .i64 aD,.slice ax ag.length ay,.slice aB ao.length aC] (kP I) Tryz.underlying26 ?_;exact⟨_,_,by first|rfl|(simp[iJ,iK]<;>rfl)|(simp only[←aO];first|rfl|(simp[iJ,iK]<;>rfl))|(simp[*,iJ,iK]<;>rfl),rT ij,by(repeat apply Kd.QS);exact Kd.Q_mono (Kd.Q_far (p:=⟨aw,2,none⟩) (Kd.Q_far (p:=⟨aw,1,none⟩) (Kd.Q_far (p:=⟨aw,0,none⟩) (Kd.Q_types iq.out I.out (by decide)) (fun _ hk=>hk.2) (.int .i64 aD)) (fun _ hk=>hk.2) (.slice ax ag.length ay)) (fun _ hk=>hk.2) (.slice aB ao.length aC)) (fun _ hk=>hk.1),wZ HB⟩
                 ·as_aux_lemma=>
                  replace dw:=pD dw;subst dw;rw[if_neg pV]at H;have dp:=bm H;clear H;go_upto_region 37 with(fail)
                  go_cut [170] (fun lu wc=>∃(kq:Nat) (bD:Bool),lu= .bool bD∧hJ (fC.j6 kq aM (a1.extract 0 (aj:Int).toNat) bd bJ br bD af ah az aD ag ao aP aQ=some (r1,r2,r3,r4))∧hJ (kq≤Bg)∧hJ (Kd.R KI 3 wc w.heap.size (fun _=>True) (.slice ax ag.length ay) ag)∧hJ (Kd.Q KS 23 wc w.heap.size (fun k_=>some k_≠((.slice ax ag.length ay):Value).ownBlock) (.slice aB ao.length aC) ao)∧oI wc av #[.int .i64 af,(.slice aI ah.length aH),(.slice aK az.length aL)] 26∧oI wc aw #[.int .i64 0,(.slice none 0 0),(.slice none 0 0)] 26∧oI wc aA #[.int .i64 aD,(.slice ax ag.length ay),(.slice aB ao.length aC)] 26∧oI wc aR #[.int .i64 aY,.string aZ] 47∧oI wc aG #[.int .i64 aP,.int .i64 aQ] 87∧hJ (Below w.heap.size w wc))
                  case first=>
                   have H:=dp.out;clear dp;rcases iT H with⟨cE,H⟩|⟨cE,H⟩
                   ·as_aux_lemma=>
                    obtain⟨b9,ej⟩:=pf cE;clear cE;(first|rw[b9]|(simp only[i64_w,i32_w];rw[b9])|skip);have H':=bm H;clear H;go_wp2;go_meet
                    case rel=>exact⟨_,(bJ),eA,H',⟨by have:=bc.out;have:=bj.out;have:=bw.out;have:=cf.out;first|omega|exact Nat.le_refl _⟩,⟨rS ij⟩,⟨qS iq⟩,⟨kS o⟩,⟨kS I⟩,⟨kS J⟩,⟨kS aa⟩,⟨kS ae⟩,⟨wZ HB⟩⟩
                   ·as_aux_lemma=>
                    obtain⟨b9,ej⟩:=pe cE;(first|rw[b9]|(simp only[i64_w,i32_w];rw[b9])|skip);have H':=bm H;clear H;go_wp2;go_meet
                    case rel=>exact⟨_,(false),eA,H',⟨by have:=bc.out;have:=bj.out;have:=bw.out;have:=cf.out;first|omega|exact Nat.le_refl _⟩,⟨rS ij⟩,⟨qS iq⟩,⟨kS o⟩,⟨kS I⟩,⟨kS J⟩,⟨kS aa⟩,⟨kS ae⟩,⟨wZ HB⟩⟩
                  case rest=>
                   clear dp;obtain⟨kq,bD,rfl,HA,cJ,ij,iq,o,I,J,aa,ae,HB⟩:=hcut;cases kq with
                   |zero=>exact absurd HA.out (by simp[fC.j6])
                   |succ Bh=>
                    have H:=HA.out;clear HA;simp only[fC.j6]at H;by_cases dx:bD=true
                    ·as_aux_lemma=>
                     subst dx;rw[if_pos rfl]at H;obtain⟨cN,lv,H⟩:=bE H;try dsimp only at H
                     obtain⟨dG,lx,H⟩:=bE H;try dsimp only at H
                     obtain⟨rfl,rfl,rfl,rfl⟩:=s4 H;try go_wp2
                     replace ij:=pH ij;replace iq:=pI iq;replace o:=pG o;replace I:=pG I;replace J:=pG J;replace aa:=pG aa;replace ae:=pG ae;replace HB:=pL HB;refine start_ (n:=11) (S:=fun w'=>w'.cell? ⟨aA,0,none⟩=some (.int .i64 aD)∧w'.cell? ⟨aA,1,none⟩=some (.slice ax ag.length ay)∧w'.cell? ⟨aA,2,none⟩=some (.slice aB ao.length aC)∧w'.cell? ⟨av,0,none⟩=some (.int .i64 af)∧w'.cell? ⟨av,1,none⟩=some (.slice aI ah.length aH)∧w'.cell? ⟨av,2,none⟩=some (.slice aK az.length aL)) (ds:=[]) Bc (by kernel_rfl) rfl rfl ⟨bz J 0,bz J 1,bz J 2,bz o 0,bz o 1,bz o 2⟩ (fun hHeld=>?_);refine with_tabW fC.Fu fC.DR (fun ar a6=>?_);generalize wc.drew=oH at ij iq o I J aa ae HB hHeld⊢;refine pA 1 177 ar ?_ ?_ ?_ ?_ (pA 3 179 ar ?_ ?_ ?_ ?_ (pA 5 181 ar ?_ ?_ ?_ ?_ (pA 6 182 ar ?_ ?_ ?_ ?_ (tA 0 176 ar a6 hHeld ?_ ?_ ?_ ?_ (tA 2 178 ar a6 hHeld ?_ ?_ ?_ ?_ (tA 4 180 ar a6 hHeld ?_ ?_ ?_ ?_ ?_))))))
                     all_goals first|(rintro w' ⟨_,_,_,_,s4,_⟩;go_simp;with_reducible rfl)|(intro w';go_simp;with_reducible rfl)|(simp only[Act.put,qA,qB,qC,i64_w,i32_w];rfl)|skip
                     refine oA 7 (some 183) ar (fun K hK=>?_);refine gO Tryz.func65 #[.int .i64 af,.int .i64 aM,.int .i64 bd] rfl ?_;refine(jq.calls Bh af aM bd cN _ lv.out).mono ?_;rintro e _ ⟨rfl,hb⟩;refine⟨_,rfl,?_⟩;replace ij:=bR ij hb;replace iq:=bQ iq hb;replace o:=bU o hb;replace I:=bU I hb;replace J:=bU J hb;replace aa:=bU aa hb;replace ae:=bU ae hb;replace HB:=bW HB hb;clear hb;refine hK.out _ _ ⟨bz J 0,bz J 1,bz J 2,bz o 0,bz o 1,bz o 2⟩ (fun hHeld=>?_);clear hK K;refine pU 183 ?_
                     refine oA 8 (some 184) ar (fun K hK=>?_);refine gO Tryz.func57 #[.int .i64 af,.int .i64 cN] rfl ?_;refine(gX.calls Bh af cN dG _ lx.out).mono ?_;rintro e _ ⟨rfl,hb⟩;refine⟨_,rfl,?_⟩;replace ij:=bR ij hb;replace iq:=bQ iq hb;replace o:=bU o hb;replace I:=bU I hb;replace J:=bU J hb;replace aa:=bU aa hb;replace ae:=bU ae hb;replace HB:=bW HB hb;clear hb;refine hK.out _ _ ⟨bz J 0,bz J 1,bz J 2,bz o 0,bz o 1,bz o 2⟩ (fun hHeld=>?_);clear hK K;refine pU 184 ?_
                     refine oA 9 (none) ar (fun K hK=>?_);have n1:=bC I 0;have mQ:=qZ I.out 0;obtain⟨_,_,_,_,_,_,_,_⟩:=pc ad ab an aq ai ak al au;have n2:=bC I 1;have mR:=qZ I.out 1;obtain⟨_,_,_,_,_,_,_,_⟩:=pc ad ab an aq ai ak al au;have n3:=bC I 2;have mS:=qZ I.out 2;obtain⟨_,_,_,_,_,_,_,_⟩:=pc ad ab an aq ai ak al au;refine skip_ (w1:=?_) (by rfl) rfl ?_ ?_;rotate_left
                     ·go_simp;rfl
                     refine hK.out _ _ ⟨k3 ab hHeld.1,k3 ab hHeld.2.1,k3 ab hHeld.2.2.1,k3 ad hHeld.2.2.2.1,k3 ad hHeld.2.2.2.2.1,k3 ad hHeld.2.2.2.2.2⟩ (fun hHeld=>?_);clear hK K;refine pA 10 5 ar ?_ ?_ ?_ ?_ ?_
                     all_goals first|(intro w';go_simp;with_reducible rfl)|(simp only[Act.put,qA,qB,qC,i64_w,i32_w];rfl)|skip
                     refine done_ (done_of ar.out (by kernel_rfl)) ?_;try go_wp2
                     refine rE #[.int .i64 aD,.slice ax ag.length ay,.slice aB ao.length aC] (kP I) Tryz.underlying26 ?_;exact⟨_,_,by first|rfl|(simp[iJ,iK]<;>rfl)|(simp only[←aO];first|rfl|(simp[iJ,iK]<;>rfl))|(simp[*,iJ,iK]<;>rfl),rT ij,by(repeat apply Kd.QS);exact Kd.Q_mono (Kd.Q_far (p:=⟨aw,2,none⟩) (Kd.Q_far (p:=⟨aw,1,none⟩) (Kd.Q_far (p:=⟨aw,0,none⟩) (Kd.Q_types iq.out I.out (by decide)) (fun _ hk=>hk.2) (.int .i64 aD)) (fun _ hk=>hk.2) (.slice ax ag.length ay)) (fun _ hk=>hk.2) (.slice aB ao.length aC)) (fun _ hk=>hk.1),wZ HB⟩
                    ·as_aux_lemma=>
                     replace dx:=pD dx;subst dx;rw[if_neg pV]at H;have dq:=bm H;clear H;go_upto_region 39 with(fail)
                     go_cut [185] (fun ly wc=>∃(kq:Nat) (bF:Bool),ly= .bool bF∧hJ (fC.j7 kq aM (a1.extract 0 (aj:Int).toNat) bd br bF af ah az aD ag ao aP aQ=some (r1,r2,r3,r4))∧hJ (kq≤Bh)∧hJ (Kd.R KI 3 wc w.heap.size (fun _=>True) (.slice ax ag.length ay) ag)∧hJ (Kd.Q KS 23 wc w.heap.size (fun k_=>some k_≠((.slice ax ag.length ay):Value).ownBlock) (.slice aB ao.length aC) ao)∧oI wc av #[.int .i64 af,(.slice aI ah.length aH),(.slice aK az.length aL)] 26∧oI wc aw #[.int .i64 0,(.slice none 0 0),(.slice none 0 0)] 26∧oI wc aA #[.int .i64 aD,(.slice ax ag.length ay),(.slice aB ao.length aC)] 26∧oI wc aR #[.int .i64 aY,.string aZ] 47∧oI wc aG #[.int .i64 aP,.int .i64 aQ] 87∧hJ (Below w.heap.size w wc))
                     case first=>
                      have H:=dq.out;clear dq;rcases iT H with⟨cF,H⟩|⟨cF,H⟩
                      ·as_aux_lemma=>
                       obtain⟨ca,ek⟩:=pf cF;clear cF;(first|rw[ca]|(simp only[i64_w,i32_w];rw[ca])|skip);have H':=bm H;clear H;go_wp2;go_meet
                       case rel=>exact⟨_,(bJ),eA,H',⟨by have:=bc.out;have:=bj.out;have:=bw.out;have:=cf.out;have:=cJ.out;first|omega|exact Nat.le_refl _⟩,⟨rS ij⟩,⟨qS iq⟩,⟨kS o⟩,⟨kS I⟩,⟨kS J⟩,⟨kS aa⟩,⟨kS ae⟩,⟨wZ HB⟩⟩
                      ·as_aux_lemma=>
                       obtain⟨ca,ek⟩:=pe cF;(first|rw[ca]|(simp only[i64_w,i32_w];rw[ca])|skip);have H':=bm H;clear H;go_wp2;go_meet
                       case rel=>exact⟨_,(false),eA,H',⟨by have:=bc.out;have:=bj.out;have:=bw.out;have:=cf.out;have:=cJ.out;first|omega|exact Nat.le_refl _⟩,⟨rS ij⟩,⟨qS iq⟩,⟨kS o⟩,⟨kS I⟩,⟨kS J⟩,⟨kS aa⟩,⟨kS ae⟩,⟨wZ HB⟩⟩
                     case rest=>
                      clear dq;obtain⟨kq,bF,rfl,HA,dX,ij,iq,o,I,J,aa,ae,HB⟩:=hcut;cases kq with
                      |zero=>exact absurd HA.out (by simp[fC.j7])
                      |succ Bi=>
                       have H:=HA.out;clear HA;simp only[fC.j7]at H;by_cases dy:bF=true
                       ·as_aux_lemma=>
                        subst dy;rw[if_pos rfl]at H;obtain⟨cO,lz,H⟩:=bE H;try dsimp only at H
                        obtain⟨dH,lA,H⟩:=bE H;try dsimp only at H
                        obtain⟨rfl,rfl,rfl,rfl⟩:=s4 H;try go_wp2
                        replace ij:=pH ij;replace iq:=pI iq;replace o:=pG o;replace I:=pG I;replace J:=pG J;replace aa:=pG aa;replace ae:=pG ae;replace HB:=pL HB;refine start_ (n:=11) (S:=fun w'=>w'.cell? ⟨aA,0,none⟩=some (.int .i64 aD)∧w'.cell? ⟨aA,1,none⟩=some (.slice ax ag.length ay)∧w'.cell? ⟨aA,2,none⟩=some (.slice aB ao.length aC)∧w'.cell? ⟨av,0,none⟩=some (.int .i64 af)∧w'.cell? ⟨av,1,none⟩=some (.slice aI ah.length aH)∧w'.cell? ⟨av,2,none⟩=some (.slice aK az.length aL)) (ds:=[]) Bc (by kernel_rfl) rfl rfl ⟨bz J 0,bz J 1,bz J 2,bz o 0,bz o 1,bz o 2⟩ (fun hHeld=>?_);refine with_tabW fC.Fv fC.DS (fun ar a6=>?_);generalize wc.drew=oK at ij iq o I J aa ae HB hHeld⊢;refine pA 1 192 ar ?_ ?_ ?_ ?_ (pA 3 194 ar ?_ ?_ ?_ ?_ (pA 5 196 ar ?_ ?_ ?_ ?_ (pA 6 197 ar ?_ ?_ ?_ ?_ (tA 0 191 ar a6 hHeld ?_ ?_ ?_ ?_ (tA 2 193 ar a6 hHeld ?_ ?_ ?_ ?_ (tA 4 195 ar a6 hHeld ?_ ?_ ?_ ?_ ?_))))))
                        all_goals first|(rintro w' ⟨_,_,_,_,s4,_⟩;go_simp;with_reducible rfl)|(intro w';go_simp;with_reducible rfl)|(simp only[Act.put,qA,qB,qC,i64_w,i32_w];rfl)|skip
                        refine oA 7 (some 198) ar (fun K hK=>?_);refine gO Tryz.func66 #[.int .i64 af,.int .i64 aM,.int .i64 bd] rfl ?_;refine(ka.calls Bi af aM bd cO _ lz.out).mono ?_;rintro e _ ⟨rfl,hb⟩;refine⟨_,rfl,?_⟩;replace ij:=bR ij hb;replace iq:=bQ iq hb;replace o:=bU o hb;replace I:=bU I hb;replace J:=bU J hb;replace aa:=bU aa hb;replace ae:=bU ae hb;replace HB:=bW HB hb;clear hb;refine hK.out _ _ ⟨bz J 0,bz J 1,bz J 2,bz o 0,bz o 1,bz o 2⟩ (fun hHeld=>?_);clear hK K;refine pU 198 ?_
                        refine oA 8 (some 199) ar (fun K hK=>?_);refine gO Tryz.func57 #[.int .i64 af,.int .i64 cO] rfl ?_;refine(gX.calls Bi af cO dH _ lA.out).mono ?_;rintro e _ ⟨rfl,hb⟩;refine⟨_,rfl,?_⟩;replace ij:=bR ij hb;replace iq:=bQ iq hb;replace o:=bU o hb;replace I:=bU I hb;replace J:=bU J hb;replace aa:=bU aa hb;replace ae:=bU ae hb;replace HB:=bW HB hb;clear hb;refine hK.out _ _ ⟨bz J 0,bz J 1,bz J 2,bz o 0,bz o 1,bz o 2⟩ (fun hHeld=>?_);clear hK K;refine pU 199 ?_
                        refine oA 9 (none) ar (fun K hK=>?_);have n4:=bC I 0;have mT:=qZ I.out 0;obtain⟨_,_,_,_,_,_,_,_⟩:=pc ad ab an aq ai ak al au;have n5:=bC I 1;have mU:=qZ I.out 1;obtain⟨_,_,_,_,_,_,_,_⟩:=pc ad ab an aq ai ak al au;have n6:=bC I 2;have mV:=qZ I.out 2;obtain⟨_,_,_,_,_,_,_,_⟩:=pc ad ab an aq ai ak al au;refine skip_ (w1:=?_) (by rfl) rfl ?_ ?_;rotate_left
                        ·go_simp;rfl
                        refine hK.out _ _ ⟨k3 ab hHeld.1,k3 ab hHeld.2.1,k3 ab hHeld.2.2.1,k3 ad hHeld.2.2.2.1,k3 ad hHeld.2.2.2.2.1,k3 ad hHeld.2.2.2.2.2⟩ (fun hHeld=>?_);clear hK K;refine pA 10 5 ar ?_ ?_ ?_ ?_ ?_
                        all_goals first|(intro w';go_simp;with_reducible rfl)|(simp only[Act.put,qA,qB,qC,i64_w,i32_w];rfl)|skip
                        refine done_ (done_of ar.out (by kernel_rfl)) ?_;try go_wp2
                        refine rE #[.int .i64 aD,.slice ax ag.length ay,.slice aB ao.length aC] (kP I) Tryz.underlying26 ?_;exact⟨_,_,by first|rfl|(simp[iJ,iK]<;>rfl)|(simp only[←aO];first|rfl|(simp[iJ,iK]<;>rfl))|(simp[*,iJ,iK]<;>rfl),rT ij,by(repeat apply Kd.QS);exact Kd.Q_mono (Kd.Q_far (p:=⟨aw,2,none⟩) (Kd.Q_far (p:=⟨aw,1,none⟩) (Kd.Q_far (p:=⟨aw,0,none⟩) (Kd.Q_types iq.out I.out (by decide)) (fun _ hk=>hk.2) (.int .i64 aD)) (fun _ hk=>hk.2) (.slice ax ag.length ay)) (fun _ hk=>hk.2) (.slice aB ao.length aC)) (fun _ hk=>hk.1),wZ HB⟩
                       ·as_aux_lemma=>
                        replace dy:=pD dy;subst dy;rw[if_neg pV]at H;have dr:=bm H;clear H;go_upto_region 41 with(fail)
                        go_cut [200] (fun lB wc=>∃(kq:Nat) (bH:Bool),lB= .bool bH∧hJ (fC.j8 kq bH af ah az aD ag ao aP aQ=some (r1,r2,r3,r4))∧hJ (kq≤Bi)∧hJ (Kd.R KI 3 wc w.heap.size (fun _=>True) (.slice ax ag.length ay) ag)∧hJ (Kd.Q KS 23 wc w.heap.size (fun k_=>some k_≠((.slice ax ag.length ay):Value).ownBlock) (.slice aB ao.length aC) ao)∧oI wc av #[.int .i64 af,(.slice aI ah.length aH),(.slice aK az.length aL)] 26∧oI wc aw #[.int .i64 0,(.slice none 0 0),(.slice none 0 0)] 26∧oI wc aA #[.int .i64 aD,(.slice ax ag.length ay),(.slice aB ao.length aC)] 26∧oI wc aR #[.int .i64 aY,.string aZ] 47∧oI wc aG #[.int .i64 aP,.int .i64 aQ] 87∧hJ (Below w.heap.size w wc))
                        case first=>
                         have H:=dr.out;clear dr;rcases iT H with⟨cG,H⟩|⟨cG,H⟩
                         ·as_aux_lemma=>
                          obtain⟨cb,el⟩:=pf cG;clear cG;(first|rw[cb]|(simp only[i64_w,i32_w];rw[cb])|skip);have H':=bm H;clear H;go_wp2;go_meet
                          case rel=>exact⟨_,(br),eA,H',⟨by have:=bc.out;have:=bj.out;have:=bw.out;have:=cf.out;have:=cJ.out;have:=dX.out;first|omega|exact Nat.le_refl _⟩,⟨rS ij⟩,⟨qS iq⟩,⟨kS o⟩,⟨kS I⟩,⟨kS J⟩,⟨kS aa⟩,⟨kS ae⟩,⟨wZ HB⟩⟩
                         ·as_aux_lemma=>
                          obtain⟨cb,el⟩:=pe cG;(first|rw[cb]|(simp only[i64_w,i32_w];rw[cb])|skip);have H':=bm H;clear H;go_wp2;go_meet
                          case rel=>exact⟨_,(false),eA,H',⟨by have:=bc.out;have:=bj.out;have:=bw.out;have:=cf.out;have:=cJ.out;have:=dX.out;first|omega|exact Nat.le_refl _⟩,⟨rS ij⟩,⟨qS iq⟩,⟨kS o⟩,⟨kS I⟩,⟨kS J⟩,⟨kS aa⟩,⟨kS ae⟩,⟨wZ HB⟩⟩
                        case rest=>
                         clear dr;obtain⟨kq,bH,rfl,HA,n7,ij,iq,o,I,J,aa,ae,HB⟩:=hcut;cases kq with
                         |zero=>exact absurd HA.out (by simp[fC.j8])
                         |succ Fx=>
                          have H:=HA.out;clear HA;simp only[fC.j8]at H;by_cases dz:bH=true
                          ·as_aux_lemma=>
                           subst dz;rw[if_pos rfl]at H;obtain⟨cP,lC,H⟩:=bE H;try dsimp only at H
                           obtain⟨dI,lD,H⟩:=bE H;try dsimp only at H
                           obtain⟨rfl,rfl,rfl,rfl⟩:=s4 H;try go_wp2
                           replace ij:=pH ij;replace iq:=pI iq;replace o:=pG o;replace I:=pG I;replace J:=pG J;replace aa:=pG aa;replace ae:=pG ae;replace HB:=pL HB;refine start_ (n:=10) (S:=fun w'=>w'.cell? ⟨aA,0,none⟩=some (.int .i64 aD)∧w'.cell? ⟨aA,1,none⟩=some (.slice ax ag.length ay)∧w'.cell? ⟨aA,2,none⟩=some (.slice aB ao.length aC)∧w'.cell? ⟨av,0,none⟩=some (.int .i64 af)∧w'.cell? ⟨av,1,none⟩=some (.slice aI ah.length aH)∧w'.cell? ⟨av,2,none⟩=some (.slice aK az.length aL)∧w'.cell? ⟨aG,0,none⟩=some (.int .i64 aP)∧w'.cell? ⟨aG,1,none⟩=some (.int .i64 aQ)) (ds:=[]) Bd (by kernel_rfl) rfl rfl ⟨bz J 0,bz J 1,bz J 2,bz o 0,bz o 1,bz o 2,bz ae 0,bz ae 1⟩ (fun hHeld=>?_);refine with_tabW fC.Fw fC.DT (fun ar a6=>?_);generalize wc.drew=oN at ij iq o I J aa ae HB hHeld⊢;refine pA 1 207 ar ?_ ?_ ?_ ?_ (pA 3 209 ar ?_ ?_ ?_ ?_ (tA 0 206 ar a6 hHeld ?_ ?_ ?_ ?_ (tA 2 208 ar a6 hHeld ?_ ?_ ?_ ?_ (tA 4 210 ar a6 hHeld ?_ ?_ ?_ ?_ (tA 5 211 ar a6 hHeld ?_ ?_ ?_ ?_ ?_)))))
                           all_goals first|(rintro w' ⟨_,_,_,_,s4,_,_,_⟩;go_simp;with_reducible rfl)|(intro w';go_simp;with_reducible rfl)|(simp only[Act.put,qA,qB,qC,i64_w,i32_w];rfl)|skip
                           refine oA 6 (some 212) ar (fun K hK=>?_);refine gO Tryz.func67 #[.int .i64 af,.slice aI ah.length aH,.agg #[.int .i64 aP,.int .i64 aQ]] rfl ?_;refine(kk.calls Fx af _ _ ah aP aQ cP _ ?ix ?gH lC.out).mono ?_;(case ix=>exact cY bb HB);(case gH=>exact bh.out);rintro e _ ⟨rfl,hb⟩;refine⟨_,rfl,?_⟩;replace ij:=bR ij hb;replace iq:=bQ iq hb;replace o:=bU o hb;replace I:=bU I hb;replace J:=bU J hb;replace aa:=bU aa hb;replace ae:=bU ae hb;replace HB:=bW HB hb;clear hb;refine hK.out _ _ ⟨bz J 0,bz J 1,bz J 2,bz o 0,bz o 1,bz o 2,bz ae 0,bz ae 1⟩ (fun hHeld=>?_);clear hK K;refine pU 212 ?_
                           refine oA 7 (some 213) ar (fun K hK=>?_);refine gO Tryz.func61 #[.bool cP] rfl ?_;refine(qX.calls cP dI _ lD.out).mono ?_;rintro e w' ⟨rfl,⟨nd,rfl⟩⟩;refine⟨_,rfl,?_⟩;refine hK.out _ _ ⟨bz J 0,bz J 1,bz J 2,bz o 0,bz o 1,bz o 2,bz ae 0,bz ae 1⟩ (fun hHeld=>?_);clear hK K;refine pU 213 ?_
                           refine oA 8 (none) ar (fun K hK=>?_);have n8:=bC I 0;have mW:=qZ I.out 0;obtain⟨_,_,_,_,_,_,_,_⟩:=pc ad ab an aq ai ak al au;have n9:=bC I 1;have mX:=qZ I.out 1;obtain⟨_,_,_,_,_,_,_,_⟩:=pc ad ab an aq ai ak al au;have oa:=bC I 2;have mY:=qZ I.out 2;obtain⟨_,_,_,_,_,_,_,_⟩:=pc ad ab an aq ai ak al au;refine skip_ (w1:=?_) (by rfl) rfl ?_ ?_;rotate_left
                           ·go_simp;rfl
                           refine hK.out _ _ ⟨k3 ab hHeld.1,k3 ab hHeld.2.1,k3 ab hHeld.2.2.1,k3 ad hHeld.2.2.2.1,k3 ad hHeld.2.2.2.2.1,k3 ad hHeld.2.2.2.2.2.1,k3 aq hHeld.2.2.2.2.2.2.1,k3 aq hHeld.2.2.2.2.2.2.2⟩ (fun hHeld=>?_);clear hK K;refine pA 9 5 ar ?_ ?_ ?_ ?_ ?_
                           all_goals first|(intro w';go_simp;with_reducible rfl)|(simp only[Act.put,qA,qB,qC,i64_w,i32_w];rfl)|skip
                           refine done_ (done_of ar.out (by kernel_rfl)) ?_;try go_wp2
                           refine rE #[.int .i64 aD,.slice ax ag.length ay,.slice aB ao.length aC] (kP I) Tryz.underlying26 ?_;exact⟨_,_,by first|rfl|(simp[iJ,iK]<;>rfl)|(simp only[←aO];first|rfl|(simp[iJ,iK]<;>rfl))|(simp[*,iJ,iK]<;>rfl),rT ij,by(repeat apply Kd.QS);exact Kd.Q_mono (Kd.Q_far (p:=⟨aw,2,none⟩) (Kd.Q_far (p:=⟨aw,1,none⟩) (Kd.Q_far (p:=⟨aw,0,none⟩) (Kd.Q_types iq.out I.out (by decide)) (fun _ hk=>hk.2) (.int .i64 aD)) (fun _ hk=>hk.2) (.slice ax ag.length ay)) (fun _ hk=>hk.2) (.slice aB ao.length aC)) (fun _ hk=>hk.1),wZ HB⟩
                          ·as_aux_lemma=>
                           replace dz:=pD dz;subst dz;rw[if_neg pV]at H;obtain⟨rfl,rfl,rfl,rfl⟩:=s4 H;obtain⟨_,_,_,_,_,_,_,_⟩:=pc bg bf ab ak bk bl aU aV;obtain⟨_,_,_,_,_,_⟩:=b3 J;obtain⟨_,_,_,_,_,_⟩:=pa ai ad al an au aq;obtain⟨_,_,_,_,_,_⟩:=b3 I;go_wp2;refine rE #[.int .i64 aD,.slice ax ag.length ay,.slice aB ao.length aC] (kP I) Tryz.underlying26 ?_;exact⟨_,_,by first|rfl|(simp[iJ,iK]<;>rfl)|(simp only[←aO];first|rfl|(simp[iJ,iK]<;>rfl))|(simp[*,iJ,iK]<;>rfl),rT ij,by(repeat apply Kd.QS);exact Kd.Q_mono (Kd.Q_far (p:=⟨aw,2,none⟩) (Kd.Q_far (p:=⟨aw,1,none⟩) (Kd.Q_far (p:=⟨aw,0,none⟩) (Kd.Q_types iq.out I.out (by decide)) (fun _ hk=>hk.2) (.int .i64 aD)) (fun _ hk=>hk.2) (.slice ax ag.length ay)) (fun _ hk=>hk.2) (.slice aB ao.length aC)) (fun _ hk=>hk.1),wZ HB⟩
 ·as_aux_lemma=>
  replace c4:=pD c4;subst c4;rw[if_neg pV]at H;obtain⟨rfl,rfl,rfl,rfl⟩:=s4 H;obtain⟨_,_,_,_,_,_⟩:=b3 I;try go_wp2
  refine rE #[.int .i64 0,.slice none 0 0,.slice none 0 0] (kP I) Tryz.underlying26 ?_;exact⟨_,_,eF,by first|exact Kd.R_nil _ _ _ _ _|exact Kd.N_nil _ _ _ _ _|exact Kd.V_nil _ _ _ _ _|exact Kd.Q_nil _ _ _ _ _|exact Kd.S_nil _ _ _ _ _,Kd.Q_of_R ((Kd.S_R (by first|exact Kd.S_nil _ _ _ _ _|exact Kd.N_nil _ _ _ _ _|exact Kd.V_nil _ _ _ _ _|exact Kd.Q_nil _ _ _ _ _|exact Kd.R_nil _ _ _ _ _))),wZ HB⟩
end Go.Proofs.YtigeaokfhnlkcaaGreatDoor.P
