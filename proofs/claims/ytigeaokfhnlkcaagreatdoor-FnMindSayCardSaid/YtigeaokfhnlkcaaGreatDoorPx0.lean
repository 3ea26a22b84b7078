import Derived.Test.YtigeaokfhnlkcaaGreatDoorProg
import Derived.Below
import Derived.Deep.Draws
import Derived.Deep.AppendLies
import Derived.Maps.AppendAt
import Derived.OwnWalk
import Derived.Laws.BytesArg
import Derived.Laws.MakeOwn
import Derived.Laws.OwnMore
import Derived.Deep.OwnRows
import Derived.Tactics
import Derived.Lib.ConvBytes
import Derived.Laws.Slices
import Derived.WalkKit
import Derived.KernelRfl
import Derived.RowKit3
import Derived.Deep.LoopGhost
import Derived.Deep.QuietTactic
import Derived.BigQuiet
import Derived.WideLaws
import Derived.Deep.DeepCutAuto
import Derived.Deep.CutBlock
import Derived.Deep.RegionHeld3
import Derived.Laws.Rows
import Derived.Lib.AppendStr
import Derived.ArgAppend
import Derived.Laws.IdiomCopy
import Derived.OrdersHeld
import Derived.Laws.BitsLemmas
import Derived.RowKit
import Derived.Test.YtigeaokfhnlkcaaGreatDoorHof
import Derived.Test.YtigeaokfhnlkcaaGreatDoorV0
namespace Go.Proofs.YtigeaokfhnlkcaaGreatDoor.P
open Go.RowKit YtigeaokfhnlkcaaGreatDoorW PrintWords PrintLast PrintMore
attribute [local go_sem] max2_int min2_int max_two min_two max_three min_three max_four min_four
set_option linter.unusedVariables false
set_option linter.unusedSimpArgs false
def EU:Option Int→Value
 |none=> .nilIface
 |some c=> .iface 0 (.int .i64 c)
theorem iJ:EU none= .nilIface:=rfl
theorem iK (c:Int):EU (some c)= .iface 0 (.int .i64 c):=rfl
theorem info3:(Tryz.prog.info? 3).map (fun i=>(i.zero,i.size,i.bytes))=some (some (.int .i64 0),1,8):=by kernel_rfl
theorem info5:(Tryz.prog.info? 5).map (fun i=>(i.zero,i.size,i.bytes))=some (some (.int .u8 0),1,1):=by kernel_rfl
theorem info9:(Tryz.prog.info? 9).map (fun i=>(i.zero,i.size,i.bytes))=some (some (.string ⟨#[]⟩),1,16):=by kernel_rfl
theorem info23:(Tryz.prog.info? 23).map (fun i=>(i.zero,i.size,i.bytes))=some (some (.slice none 0 0),1,24):=by kernel_rfl
theorem Aq:(Tryz.prog.info? 47).map (fun i=>(i.zero,i.size,i.bytes))=some (some (.agg #[(.int .i64 0),(.string ⟨#[]⟩)]),2,24):=by kernel_rfl
def ox (xs:LL) (i:Int):LI:=xs.getD i.toNat ([]:LI)
theorem tY {w:World} {A:Option Addr} {n:Nat} {xs:LL} (h:Kd.C KS w A n xs) (i:Int) (h0:0≤i) (h1:i<n):∃ad A0 c0,A=some ad∧w.cell? (ad.add i.toNat)=some (.slice A0 (ox xs i).length c0)∧(ox xs i).length≤c0∧KI.C w A0 (ox xs i).length (ox xs i):=by
 obtain⟨ad,c,e,_,hK,o⟩:=Kd.C_get h ([]:LI) i h0 h1;have hc:∀j u,c[j]?=some u→w.cell? (ad.add (i.toNat*1+j))=some u:=o;obtain⟨A0,c0,rfl,l0,g0⟩:=hK;exact⟨ad,A0,c0,e,by have hq:=hc 0 _ rfl;rwa [Nat.mul_one,Nat.add_zero]at hq,l0,g0⟩
def yQ (xs:List LL) (i:Int):LL:=xs.getD i.toNat ([]:LL)
theorem Hw {w:World} {A:Option Addr} {n:Nat} {xs:List LL} (h:Kd.C (Kd.slice 23 KS) w A n xs) (i:Int) (h0:0≤i) (h1:i<n):∃ad A0 c0,A=some ad∧w.cell? (ad.add i.toNat)=some (.slice A0 (yQ xs i).length c0)∧(yQ xs i).length≤c0∧KS.C w A0 (yQ xs i).length (yQ xs i):=by
 obtain⟨ad,c,e,_,hK,o⟩:=Kd.C_get h ([]:LL) i h0 h1;have hc:∀j u,c[j]?=some u→w.cell? (ad.add (i.toNat*1+j))=some u:=o;obtain⟨A0,c0,rfl,l0,g0⟩:=hK;exact⟨ad,A0,c0,e,by have hq:=hc 0 _ rfl;rwa [Nat.mul_one,Nat.add_zero]at hq,l0,g0⟩
structure Ci where
 f0:Int
 f1:LI
 f2:LL
def z26:Ci:=⟨(0:Int),([]:LI),([]:LL)⟩
def k26:Kd Ci:=Kd.iso (Kd.pair KI (Kd.pair KS (Kd.slice 23 KS))) (fun x:Ci=>(x.f0,x.f1,x.f2))
theorem Ar {w:World} {x:Ci} {cs:List Value} (h:k26.K w x cs):∃A1 c1 A2 c2,cs= [.int .i64 x.f0,.slice A1 x.f1.length c1,.slice A2 x.f2.length c2]∧x.f1.length≤c1∧KI.C w A1 x.f1.length x.f1∧x.f2.length≤c2∧KS.C w A2 x.f2.length x.f2:=by
 obtain⟨_,_,rfl,rfl,⟨_,_,rfl,⟨A1,c1,rfl,l1,g1⟩,⟨A2,c2,rfl,l2,g2⟩⟩⟩:=h;exact⟨A1,c1,A2,c2,rfl,l1,g1,l2,g2⟩
theorem EM {w:World} {base:Nat} {ok:Nat→Prop} {x:Ci} {cs:List Value} (h:k26.M w base ok x cs):∃v1 v2,cs= [.int .i64 x.f0,v1,v2]∧KI.R 3 w base ok v1 x.f1∧KS.R 23 w base ok v2 x.f2:=by
 obtain⟨_,_,rfl,rfl,⟨_,_,rfl,⟨v1,rfl,g1⟩,⟨v2,rfl,g2⟩⟩⟩:=h;exact⟨v1,v2,rfl,g1,g2⟩
theorem Gt (w:World) (x:Ci) {A1:Option Addr} {c1:Nat} (l1:x.f1.length≤c1) (g1:KI.C w A1 x.f1.length x.f1) {A2:Option Addr} {c2:Nat} (l2:x.f2.length≤c2) (g2:KS.C w A2 x.f2.length x.f2):k26.K w x [.int .i64 x.f0,.slice A1 x.f1.length c1,.slice A2 x.f2.length c2]:=⟨[.int .i64 x.f0],[.slice A1 x.f1.length c1,.slice A2 x.f2.length c2],rfl,rfl,⟨[.slice A1 x.f1.length c1],[.slice A2 x.f2.length c2],rfl,⟨A1,c1,rfl,l1,g1⟩,⟨A2,c2,rfl,l2,g2⟩⟩⟩
theorem Gi (w:World) (base:Nat) (ok:Nat→Prop) (x:Ci) {v1:Value} (g1:KI.R 3 w base ok v1 x.f1) {v2:Value} (g2:KS.R 23 w base ok v2 x.f2):k26.M w base ok x [.int .i64 x.f0,v1,v2]:=⟨[.int .i64 x.f0],[v1,v2],rfl,rfl,⟨[v1],[v2],rfl,⟨v1,rfl,g1⟩,⟨v2,rfl,g2⟩⟩⟩
def te (xs:List Ci) (i:Int):Ci:=xs.getD i.toNat z26
theorem Gu {w:World} {A:Option Addr} {n:Nat} {xs:List Ci} (h:Kd.C k26 w A n xs) (i:Int) (h0:0≤i) (h1:i<n):∃ad A1 c1 A2 c2,A=some ad∧w.cell? (ad.add (i.toNat*3))=some (.int .i64 (te xs i).f0)∧w.cell? ⟨(ad.add (i.toNat*3)).block,(ad.add (i.toNat*3)).off+1,none⟩=some (.slice A1 (te xs i).f1.length c1)∧w.cell? ⟨(ad.add (i.toNat*3)).block,(ad.add (i.toNat*3)).off+2,none⟩=some (.slice A2 (te xs i).f2.length c2)∧(te xs i).f1.length≤c1∧KI.C w A1 (te xs i).f1.length (te xs i).f1∧(te xs i).f2.length≤c2∧KS.C w A2 (te xs i).f2.length (te xs i).f2:=by
 obtain⟨ad,c,e,_,hK,o⟩:=Kd.C_get h z26 i h0 h1;have hc:∀j u,c[j]?=some u→w.cell? (ad.add (i.toNat*3+j))=some u:=o;obtain⟨A1,c1,A2,c2,rfl,l1,g1,l2,g2⟩:=Ar hK;exact⟨ad,A1,c1,A2,c2,e,hc 0 _ rfl,by rw[←add_field _ _ 1 (by omega)];exact hc 1 _ rfl,by rw[←add_field _ _ 2 (by omega)];exact hc 2 _ rfl,l1,g1,l2,g2⟩
structure wy where
 f0:Int
 f1:BA
 f2:Int
def z130:wy:=⟨(0:Int),(⟨#[]⟩:BA),(0:Int)⟩
def As:Kd wy:=Kd.iso (Kd.pair KI (Kd.pair Kd.string KI)) (fun x:wy=>(x.f0,x.f1,x.f2))
theorem zM {w:World} {x:wy} {cs:List Value} (h:As.K w x cs):cs= [.int .i64 x.f0,.string x.f1,.int .i64 x.f2]:=by
 obtain⟨_,_,rfl,rfl,⟨_,_,rfl,rfl,rfl⟩⟩:=h;exact rfl
theorem Du {w:World} {base:Nat} {ok:Nat→Prop} {x:wy} {cs:List Value} (h:As.M w base ok x cs):cs= [.int .i64 x.f0,.string x.f1,.int .i64 x.f2]:=by
 obtain⟨_,_,rfl,rfl,⟨_,_,rfl,rfl,rfl⟩⟩:=h;exact rfl
theorem Gj (w:World) (x:wy):As.K w x [.int .i64 x.f0,.string x.f1,.int .i64 x.f2]:=⟨[.int .i64 x.f0],[.string x.f1,.int .i64 x.f2],rfl,rfl,⟨[.string x.f1],[.int .i64 x.f2],rfl,rfl,rfl⟩⟩
theorem EV (w:World) (base:Nat) (ok:Nat→Prop) (x:wy):As.M w base ok x [.int .i64 x.f0,.string x.f1,.int .i64 x.f2]:=⟨[.int .i64 x.f0],[.string x.f1,.int .i64 x.f2],rfl,rfl,⟨[.string x.f1],[.int .i64 x.f2],rfl,rfl,rfl⟩⟩
def wS (xs:List wy) (i:Int):wy:=xs.getD i.toNat z130
theorem Gk {w:World} {A:Option Addr} {n:Nat} {xs:List wy} (h:Kd.C As w A n xs) (i:Int) (h0:0≤i) (h1:i<n):∃ad,A=some ad∧w.cell? (ad.add (i.toNat*3))=some (.int .i64 (wS xs i).f0)∧w.cell? ⟨(ad.add (i.toNat*3)).block,(ad.add (i.toNat*3)).off+1,none⟩=some (.string (wS xs i).f1)∧w.cell? ⟨(ad.add (i.toNat*3)).block,(ad.add (i.toNat*3)).off+2,none⟩=some (.int .i64 (wS xs i).f2):=by
 obtain⟨ad,c,e,_,hK,o⟩:=Kd.C_get h z130 i h0 h1;have hc:∀j u,c[j]?=some u→w.cell? (ad.add (i.toNat*3+j))=some u:=o;obtain rfl:=zM hK;exact⟨ad,e,hc 0 _ rfl,by rw[←add_field _ _ 1 (by omega)];exact hc 1 _ rfl,by rw[←add_field _ _ 2 (by omega)];exact hc 2 _ rfl⟩
def yR (xs:List (List BA)) (i:Int):(List BA):=xs.getD i.toNat ([]:List BA)
theorem Hx {w:World} {A:Option Addr} {n:Nat} {xs:List (List BA)} (h:Kd.C (Kd.slice 9 Kd.string) w A n xs) (i:Int) (h0:0≤i) (h1:i<n):∃ad A0 c0,A=some ad∧w.cell? (ad.add i.toNat)=some (.slice A0 (yR xs i).length c0)∧(yR xs i).length≤c0∧Kd.string.C w A0 (yR xs i).length (yR xs i):=by
 obtain⟨ad,c,e,_,hK,o⟩:=Kd.C_get h ([]:List BA) i h0 h1;have hc:∀j u,c[j]?=some u→w.cell? (ad.add (i.toNat*1+j))=some u:=o;obtain⟨A0,c0,rfl,l0,g0⟩:=hK;exact⟨ad,A0,c0,e,by have hq:=hc 0 _ rfl;rwa [Nat.mul_one,Nat.add_zero]at hq,l0,g0⟩
structure rZ where
 f0:Int
 f1:BA
def z47:rZ:=⟨(0:Int),(⟨#[]⟩:BA)⟩
def Aj:Kd rZ:=Kd.iso (Kd.pair KI Kd.string) (fun x:rZ=>(x.f0,x.f1))
theorem Au {w:World} {x:rZ} {cs:List Value} (h:Aj.K w x cs):cs= [.int .i64 x.f0,.string x.f1]:=by
 obtain⟨_,_,rfl,rfl,rfl⟩:=h;exact rfl
theorem EN {w:World} {base:Nat} {ok:Nat→Prop} {x:rZ} {cs:List Value} (h:Aj.M w base ok x cs):cs= [.int .i64 x.f0,.string x.f1]:=by
 obtain⟨_,_,rfl,rfl,rfl⟩:=h;exact rfl
theorem Gv (w:World) (x:rZ):Aj.K w x [.int .i64 x.f0,.string x.f1]:=⟨[.int .i64 x.f0],[.string x.f1],rfl,rfl,rfl⟩
theorem wT (w:World) (base:Nat) (ok:Nat→Prop) (x:rZ):Aj.M w base ok x [.int .i64 x.f0,.string x.f1]:=⟨[.int .i64 x.f0],[.string x.f1],rfl,rfl,rfl⟩
def rJ (xs:List rZ) (i:Int):rZ:=xs.getD i.toNat z47
theorem ye {w:World} {A:Option Addr} {n:Nat} {xs:List rZ} (h:Kd.C Aj w A n xs) (i:Int) (h0:0≤i) (h1:i<n):∃ad,A=some ad∧w.cell? (ad.add (i.toNat*2))=some (.int .i64 (rJ xs i).f0)∧w.cell? ⟨(ad.add (i.toNat*2)).block,(ad.add (i.toNat*2)).off+1,none⟩=some (.string (rJ xs i).f1):=by
 obtain⟨ad,c,e,_,hK,o⟩:=Kd.C_get h z47 i h0 h1;have hc:∀j u,c[j]?=some u→w.cell? (ad.add (i.toNat*2+j))=some u:=o;obtain rfl:=Au hK;exact⟨ad,e,hc 0 _ rfl,by rw[←add_field _ _ 1 (by omega)];exact hc 1 _ rfl⟩
end Go.Proofs.YtigeaokfhnlkcaaGreatDoor.P
