import Derived.Test.YtigeaokfhnlkcaaGreatDoorV0
import Derived.Test.YtigeaokfhnlkcaaGreatDoorProg
import Derived.Lib.Bytealg
import Derived.Test.YtigeaokfhnlkcaaGreatDoorShelf
import Derived.Lib.CutLaws
import Derived.Deep.LoopGhost
namespace Go.Proofs.YtigeaokfhnlkcaaGreatDoor.Hof
open Go.RowKit YtigeaokfhnlkcaaGreatDoorW PrintWords PrintLast PrintMore
theorem qW (l:List UInt8):l.isEmpty=(l== []):=by cases l<;>rfl
theorem enters {f:FuncId} {fn:Func} {c:Code} (hf:Tryz.prog.funcs[f]?=some fn) (hname:(fn.name== "runtime.NumGoroutine")=false) (hb:fn.body=some c) (args:Array Value) (w:World):(callFunc f args).run Tryz.prog w= .ok (.enter f args) w:=by
 have hne:¬fn.name= "runtime.NumGoroutine" :=fun e=>by rw[e]at hname;simp at hname
 simp[callFunc,mark,hf,hb,hne]
def tQ (g:Nat) (lb:Array Value) (p:Int→Option Bool) (w:World):Prop:=
 ∀(W:World) (x:Int) (b:Bool),Below w.heap.size w W→p x=some b→
  Calls Tryz.prog g (#[.int .i64 x]++lb) W fun e w'=>e= .returned (.bool b)∧Below W.heap.size W w'
theorem tQ.later {g:Nat} {lb:Array Value} {p:Int→Option Bool} {w W:World} (h:tQ g lb p w) (hb:Below w.heap.size w W):tQ g lb p W:=
 fun W' x b hb'=>h W' x b (below_then hb hb.size hb')
def uO {α:Type} (p:α→Option Bool):List α→Int→Option Int
 | [],_=>some (-1)
 |x::xs,i=>(p x).bind fun b=>if b=true then some i else uO p xs (i+1)
def Ap {α:Type} (p:α→Option Bool) (l:List α):Option Bool:=(uO p l 0).bind fun i=>some (decide (0≤i))
end Go.Proofs.YtigeaokfhnlkcaaGreatDoor.Hof
