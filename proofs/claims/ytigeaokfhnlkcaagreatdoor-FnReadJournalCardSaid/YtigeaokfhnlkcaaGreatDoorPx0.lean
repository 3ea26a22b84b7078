import Derived.Test.YtigeaokfhnlkcaaGreatDoorProg
import Derived.Below
import Derived.Deep.Draws
import Derived.Deep.AppendLies
import Derived.Maps.AppendAt
import Derived.OwnWalk
import Derived.Laws.BytesArg
import Derived.Laws.MakeOwn
import Derived.Laws.OwnMore
import Derived.Deep.OwnRows
import Derived.Tactics
import Derived.Lib.ConvBytes
import Derived.Laws.Slices
import Derived.WalkKit
import Derived.KernelRfl
import Derived.RowKit3
import Derived.Deep.LoopGhost
import Derived.Deep.QuietTactic
import Derived.BigQuiet
import Derived.WideLaws
import Derived.Deep.DeepCutAuto
import Derived.Deep.CutBlock
import Derived.Deep.RegionHeld3
import Derived.Laws.Rows
import Derived.Lib.AppendStr
import Derived.ArgAppend
import Derived.Laws.IdiomCopy
import Derived.OrdersHeld
import Derived.Laws.BitsLemmas
import Derived.RowKit
import Derived.Test.YtigeaokfhnlkcaaGreatDoorHof
import Derived.Test.YtigeaokfhnlkcaaGreatDoorV0
namespace Go.Proofs.YtigeaokfhnlkcaaGreatDoor.P
open Go.RowKit YtigeaokfhnlkcaaGreatDoorW PrintWords PrintLast PrintMore
attribute [local go_sem] max2_int min2_int max_two min_two max_three min_three max_four min_four
set_option linter.unusedVariables false
set_option linter.unusedSimpArgs false
def Ck:Option Int→Value
 |none=> .nilIface
 |some c=> .iface 0 (.int .i64 c)
theorem jY:Ck none= .nilIface:=rfl
theorem jZ (c:Int):Ck (some c)= .iface 0 (.int .i64 c):=rfl
theorem info3:(Tryz.prog.info? 3).map (fun i=>(i.zero,i.size,i.bytes))=some (some (.int .i64 0),1,8):=by kernel_rfl
theorem info5:(Tryz.prog.info? 5).map (fun i=>(i.zero,i.size,i.bytes))=some (some (.int .u8 0),1,1):=by kernel_rfl
theorem info9:(Tryz.prog.info? 9).map (fun i=>(i.zero,i.size,i.bytes))=some (some (.string ⟨#[]⟩),1,16):=by kernel_rfl
theorem info23:(Tryz.prog.info? 23).map (fun i=>(i.zero,i.size,i.bytes))=some (some (.slice none 0 0),1,24):=by kernel_rfl
theorem rI:(Tryz.prog.info? 47).map (fun i=>(i.zero,i.size,i.bytes))=some (some (.agg #[(.int .i64 0),(.string ⟨#[]⟩)]),2,24):=by kernel_rfl
def oP (xs:List (List Int)) (i:Int):(List Int):=xs.getD i.toNat ([]:List Int)
theorem tt {w:World} {A:Option Addr} {n:Nat} {xs:List (List Int)} (h:Kd.C (Kd.slice 3 (Kd.int .i64)) w A n xs) (i:Int) (h0:0≤i) (h1:i<n):∃ad A0 c0,A=some ad∧w.cell? (ad.add i.toNat)=some (.slice A0 (oP xs i).length c0)∧(oP xs i).length≤c0∧(Kd.int .i64).C w A0 (oP xs i).length (oP xs i):=by
 obtain⟨ad,c,e,_,hK,o⟩:=Kd.C_get h ([]:List Int) i h0 h1;have hc:∀j u,c[j]?=some u→w.cell? (ad.add (i.toNat*1+j))=some u:=o;obtain⟨A0,c0,rfl,l0,g0⟩:=hK;exact⟨ad,A0,c0,e,by have hq:=hc 0 _ rfl;rwa [Nat.mul_one,Nat.add_zero]at hq,l0,g0⟩
def xC (xs:List (List (List Int))) (i:Int):(List (List Int)):=xs.getD i.toNat ([]:List (List Int))
theorem DL {w:World} {A:Option Addr} {n:Nat} {xs:List (List (List Int))} (h:Kd.C (Kd.slice 23 (Kd.slice 3 (Kd.int .i64))) w A n xs) (i:Int) (h0:0≤i) (h1:i<n):∃ad A0 c0,A=some ad∧w.cell? (ad.add i.toNat)=some (.slice A0 (xC xs i).length c0)∧(xC xs i).length≤c0∧(Kd.slice 3 (Kd.int .i64)).C w A0 (xC xs i).length (xC xs i):=by
 obtain⟨ad,c,e,_,hK,o⟩:=Kd.C_get h ([]:List (List Int)) i h0 h1;have hc:∀j u,c[j]?=some u→w.cell? (ad.add (i.toNat*1+j))=some u:=o;obtain⟨A0,c0,rfl,l0,g0⟩:=hK;exact⟨ad,A0,c0,e,by have hq:=hc 0 _ rfl;rwa [Nat.mul_one,Nat.add_zero]at hq,l0,g0⟩
structure zd where
 f0:Int
 f1:(List Int)
 f2:(List (List Int))
def z26:zd:=⟨(0:Int),([]:List Int),([]:List (List Int))⟩
def k26:Kd zd:=Kd.iso (Kd.pair (Kd.int .i64) (Kd.pair (Kd.slice 3 (Kd.int .i64)) (Kd.slice 23 (Kd.slice 3 (Kd.int .i64))))) (fun x:zd=>(x.f0,x.f1,x.f2))
theorem tu {w:World} {x:zd} {cs:List Value} (h:k26.K w x cs):∃A1 c1 A2 c2,cs= [.int .i64 x.f0,.slice A1 x.f1.length c1,.slice A2 x.f2.length c2]∧x.f1.length≤c1∧(Kd.int .i64).C w A1 x.f1.length x.f1∧x.f2.length≤c2∧(Kd.slice 3 (Kd.int .i64)).C w A2 x.f2.length x.f2:=by
 obtain⟨_,_,rfl,rfl,⟨_,_,rfl,⟨A1,c1,rfl,l1,g1⟩,⟨A2,c2,rfl,l2,g2⟩⟩⟩:=h;exact⟨A1,c1,A2,c2,rfl,l1,g1,l2,g2⟩
theorem Cc {w:World} {base:Nat} {ok:Nat→Prop} {x:zd} {cs:List Value} (h:k26.M w base ok x cs):∃v1 v2,cs= [.int .i64 x.f0,v1,v2]∧(Kd.int .i64).R 3 w base ok v1 x.f1∧(Kd.slice 3 (Kd.int .i64)).R 23 w base ok v2 x.f2:=by
 obtain⟨_,_,rfl,rfl,⟨_,_,rfl,⟨v1,rfl,g1⟩,⟨v2,rfl,g2⟩⟩⟩:=h;exact⟨v1,v2,rfl,g1,g2⟩
theorem Ba (w:World) (x:zd) {A1:Option Addr} {c1:Nat} (l1:x.f1.length≤c1) (g1:(Kd.int .i64).C w A1 x.f1.length x.f1) {A2:Option Addr} {c2:Nat} (l2:x.f2.length≤c2) (g2:(Kd.slice 3 (Kd.int .i64)).C w A2 x.f2.length x.f2):k26.K w x [.int .i64 x.f0,.slice A1 x.f1.length c1,.slice A2 x.f2.length c2]:=⟨[.int .i64 x.f0],[.slice A1 x.f1.length c1,.slice A2 x.f2.length c2],rfl,rfl,⟨[.slice A1 x.f1.length c1],[.slice A2 x.f2.length c2],rfl,⟨A1,c1,rfl,l1,g1⟩,⟨A2,c2,rfl,l2,g2⟩⟩⟩
theorem CS (w:World) (base:Nat) (ok:Nat→Prop) (x:zd) {v1:Value} (g1:(Kd.int .i64).R 3 w base ok v1 x.f1) {v2:Value} (g2:(Kd.slice 3 (Kd.int .i64)).R 23 w base ok v2 x.f2):k26.M w base ok x [.int .i64 x.f0,v1,v2]:=⟨[.int .i64 x.f0],[v1,v2],rfl,rfl,⟨[v1],[v2],rfl,⟨v1,rfl,g1⟩,⟨v2,rfl,g2⟩⟩⟩
theorem Cd {W:World} {ok:Nat→Prop} {x:zd} {cs:List Value} (h:Kd.FK k26 W ok x cs):∃A1 c1 A2 c2,cs= [.int .i64 x.f0,.slice A1 x.f1.length c1,.slice A2 x.f2.length c2]∧x.f1.length≤c1∧Kd.F (Kd.int .i64) W ok A1 x.f1.length x.f1∧x.f2.length≤c2∧Kd.F (Kd.slice 3 (Kd.int .i64)) W ok A2 x.f2.length x.f2:=by
 obtain⟨A1,c1,A2,c2,rfl,l1,_,l2,_⟩:=tu (Kd.FK_now h);exact⟨A1,c1,A2,c2,rfl,l1,(fun W' hW=>by obtain⟨I,J,aa,ab,he,ag,ae,ah,af⟩:=tu (h W' hW);injection(oJ (show some (Value.slice A1 x.f1.length c1)=some (Value.slice I x.f1.length J) from congrArg (fun l=>l[1]?) he))with Db _ _;rw[Db];exact ae),l2,(fun W' hW=>by obtain⟨I,J,aa,ab,he,ag,ae,ah,af⟩:=tu (h W' hW);injection(oJ (show some (Value.slice A2 x.f2.length c2)=some (Value.slice aa x.f2.length ab) from congrArg (fun l=>l[2]?) he))with Db _ _;rw[Db];exact af)⟩
theorem CT (W:World) (ok:Nat→Prop) (x:zd) {A1:Option Addr} {c1:Nat} (l1:x.f1.length≤c1) (g1:Kd.F (Kd.int .i64) W ok A1 x.f1.length x.f1) {A2:Option Addr} {c2:Nat} (l2:x.f2.length≤c2) (g2:Kd.F (Kd.slice 3 (Kd.int .i64)) W ok A2 x.f2.length x.f2):Kd.FK k26 W ok x [.int .i64 x.f0,.slice A1 x.f1.length c1,.slice A2 x.f2.length c2]:=fun W2 hW=>Ba W2 x l1 (g1 W2 hW) l2 (g2 W2 hW)
def rK (xs:List zd) (i:Int):zd:=xs.getD i.toNat z26
theorem Dc {w:World} {A:Option Addr} {n:Nat} {xs:List zd} (h:Kd.C k26 w A n xs) (i:Int) (h0:0≤i) (h1:i<n):∃ad A1 c1 A2 c2,A=some ad∧w.cell? (ad.add (i.toNat*3))=some (.int .i64 (rK xs i).f0)∧w.cell? ⟨(ad.add (i.toNat*3)).block,(ad.add (i.toNat*3)).off+1,none⟩=some (.slice A1 (rK xs i).f1.length c1)∧w.cell? ⟨(ad.add (i.toNat*3)).block,(ad.add (i.toNat*3)).off+2,none⟩=some (.slice A2 (rK xs i).f2.length c2)∧(rK xs i).f1.length≤c1∧(Kd.int .i64).C w A1 (rK xs i).f1.length (rK xs i).f1∧(rK xs i).f2.length≤c2∧(Kd.slice 3 (Kd.int .i64)).C w A2 (rK xs i).f2.length (rK xs i).f2:=by
 obtain⟨ad,c,e,_,hK,o⟩:=Kd.C_get h z26 i h0 h1;have hc:∀j u,c[j]?=some u→w.cell? (ad.add (i.toNat*3+j))=some u:=o;obtain⟨A1,c1,A2,c2,rfl,l1,g1,l2,g2⟩:=tu hK;exact⟨ad,A1,c1,A2,c2,e,hc 0 _ rfl,by rw[←add_field _ _ 1 (by omega)];exact hc 1 _ rfl,by rw[←add_field _ _ 2 (by omega)];exact hc 2 _ rfl,l1,g1,l2,g2⟩
structure uG where
 f0:Int
 f1:ByteArray
 f2:Int
def z130:uG:=⟨(0:Int),(⟨#[]⟩:ByteArray),(0:Int)⟩
def yK:Kd uG:=Kd.iso (Kd.pair (Kd.int .i64) (Kd.pair Kd.string (Kd.int .i64))) (fun x:uG=>(x.f0,x.f1,x.f2))
theorem yL {w:World} {x:uG} {cs:List Value} (h:yK.K w x cs):cs= [.int .i64 x.f0,.string x.f1,.int .i64 x.f2]:=by
 obtain⟨_,_,rfl,rfl,⟨_,_,rfl,rfl,rfl⟩⟩:=h;exact rfl
theorem Bb {w:World} {base:Nat} {ok:Nat→Prop} {x:uG} {cs:List Value} (h:yK.M w base ok x cs):cs= [.int .i64 x.f0,.string x.f1,.int .i64 x.f2]:=by
 obtain⟨_,_,rfl,rfl,⟨_,_,rfl,rfl,rfl⟩⟩:=h;exact rfl
theorem Aj (w:World) (x:uG):yK.K w x [.int .i64 x.f0,.string x.f1,.int .i64 x.f2]:=⟨[.int .i64 x.f0],[.string x.f1,.int .i64 x.f2],rfl,rfl,⟨[.string x.f1],[.int .i64 x.f2],rfl,rfl,rfl⟩⟩
theorem Cl (w:World) (base:Nat) (ok:Nat→Prop) (x:uG):yK.M w base ok x [.int .i64 x.f0,.string x.f1,.int .i64 x.f2]:=⟨[.int .i64 x.f0],[.string x.f1,.int .i64 x.f2],rfl,rfl,⟨[.string x.f1],[.int .i64 x.f2],rfl,rfl,rfl⟩⟩
theorem Cm (W:World) (ok:Nat→Prop) (x:uG):Kd.FK yK W ok x [.int .i64 x.f0,.string x.f1,.int .i64 x.f2]:=fun W2 _=>Aj W2 x
def vJ (xs:List uG) (i:Int):uG:=xs.getD i.toNat z130
theorem CU {w:World} {A:Option Addr} {n:Nat} {xs:List uG} (h:Kd.C yK w A n xs) (i:Int) (h0:0≤i) (h1:i<n):∃ad,A=some ad∧w.cell? (ad.add (i.toNat*3))=some (.int .i64 (vJ xs i).f0)∧w.cell? ⟨(ad.add (i.toNat*3)).block,(ad.add (i.toNat*3)).off+1,none⟩=some (.string (vJ xs i).f1)∧w.cell? ⟨(ad.add (i.toNat*3)).block,(ad.add (i.toNat*3)).off+2,none⟩=some (.int .i64 (vJ xs i).f2):=by
 obtain⟨ad,c,e,_,hK,o⟩:=Kd.C_get h z130 i h0 h1;have hc:∀j u,c[j]?=some u→w.cell? (ad.add (i.toNat*3+j))=some u:=o;obtain rfl:=yL hK;exact⟨ad,e,hc 0 _ rfl,by rw[←add_field _ _ 1 (by omega)];exact hc 1 _ rfl,by rw[←add_field _ _ 2 (by omega)];exact hc 2 _ rfl⟩
structure oK where
 f0:Int
 f1:ByteArray
def z47:oK:=⟨(0:Int),(⟨#[]⟩:ByteArray)⟩
def qL:Kd oK:=Kd.iso (Kd.pair (Kd.int .i64) Kd.string) (fun x:oK=>(x.f0,x.f1))
theorem zj {w:World} {x:oK} {cs:List Value} (h:qL.K w x cs):cs= [.int .i64 x.f0,.string x.f1]:=by
 obtain⟨_,_,rfl,rfl,rfl⟩:=h;exact rfl
theorem Ce {w:World} {base:Nat} {ok:Nat→Prop} {x:oK} {cs:List Value} (h:qL.M w base ok x cs):cs= [.int .i64 x.f0,.string x.f1]:=by
 obtain⟨_,_,rfl,rfl,rfl⟩:=h;exact rfl
theorem Bc (w:World) (x:oK):qL.K w x [.int .i64 x.f0,.string x.f1]:=⟨[.int .i64 x.f0],[.string x.f1],rfl,rfl,rfl⟩
theorem qQ (w:World) (base:Nat) (ok:Nat→Prop) (x:oK):qL.M w base ok x [.int .i64 x.f0,.string x.f1]:=⟨[.int .i64 x.f0],[.string x.f1],rfl,rfl,rfl⟩
theorem CV (W:World) (ok:Nat→Prop) (x:oK):Kd.FK qL W ok x [.int .i64 x.f0,.string x.f1]:=fun W2 _=>Bc W2 x
def la (xs:List oK) (i:Int):oK:=xs.getD i.toNat z47
theorem qg {w:World} {A:Option Addr} {n:Nat} {xs:List oK} (h:Kd.C qL w A n xs) (i:Int) (h0:0≤i) (h1:i<n):∃ad,A=some ad∧w.cell? (ad.add (i.toNat*2))=some (.int .i64 (la xs i).f0)∧w.cell? ⟨(ad.add (i.toNat*2)).block,(ad.add (i.toNat*2)).off+1,none⟩=some (.string (la xs i).f1):=by
 obtain⟨ad,c,e,_,hK,o⟩:=Kd.C_get h z47 i h0 h1;have hc:∀j u,c[j]?=some u→w.cell? (ad.add (i.toNat*2+j))=some u:=o;obtain rfl:=zj hK;exact⟨ad,e,hc 0 _ rfl,by rw[←add_field _ _ 1 (by omega)];exact hc 1 _ rfl⟩
end Go.Proofs.YtigeaokfhnlkcaaGreatDoor.P
