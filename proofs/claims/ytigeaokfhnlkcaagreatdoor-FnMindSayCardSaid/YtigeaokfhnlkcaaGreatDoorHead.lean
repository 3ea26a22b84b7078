import Derived.Test.YtigeaokfhnlkcaaGreatDoorRows
import Derived.KernelRfl
namespace Go.Proofs.YtigeaokfhnlkcaaGreatDoor.Head
abbrev C_:=Char.ofNat
theorem xD:∀(w:List Char),(w.all fun c=> !(c==C_ 32))=true→wordsSigns w= [w]
 | [],_=>rfl
 |c::w,h=>by
  have h1:c≠C_ 32:=by intro e;rw[e]at h;simp at h
  have ih:=xD w (by simp at h⊢;exact h.2)
  unfold wordsSigns
  split
  ·rename_i heq;cases heq
  ·rename_i heq;exact absurd (List.cons.inj heq).1 h1
  ·rename_i heq
   obtain⟨rfl,rfl⟩:=List.cons.inj heq
   rw[ih]
theorem sC (r:List Char):∀(w:List Char),(w.all fun c=> !(c==C_ 32))=true→wordsSigns (w++C_ 32::r)=w::wordsSigns r
 | [],_=>rfl
 |c::w,h=>by
  have h1:c≠C_ 32:=by intro e;rw[e]at h;simp at h
  have ih:=sC r w (by simp at h⊢;exact h.2)
  have key:∀(l:List Char) (x:List Char) (xs:List (List Char)),wordsSigns l=x::xs→wordsSigns (c::l)=(c::x)::xs:=by
   intro l x xs hl
   unfold wordsSigns
   split
   ·rename_i heq;cases heq
   ·rename_i heq;exact absurd (List.cons.inj heq).1 h1
   ·rename_i heq
    obtain⟨rfl,rfl⟩:=List.cons.inj heq
    rw[hl]
  exact key _ _ _ ih
theorem Cj {P:Program} {ws:List (List Char)} {c:List Char} {r:List (List Char)} (h:wordsSigns P.initOrder.toList=ws) (hb:behindMainWord ws=c::r)
  (c0:(c== "gc".toList||c== "spec".toList)=false) (c1:(c== "cut".toList)=true):P.make=some .cut:=by
 unfold Program.make
 rw[h,hb]
 simp only[c0,c1,Bool.true_or,if_true,Bool.false_eq_true,if_false]
theorem Al {P:Program} {ws:List (List Char)} {c:List Char} {r:List (List Char)} (h:wordsSigns P.initOrder.toList=ws) (hb:behindMainWord ws=c::r)
  (c2:(some c==some "carried".toList)=false) (c3:stripLifts liftWords (c::r)=([],c::r)):P.liftsFinal=false:=by
 unfold Program.liftsFinal Program.headLifts
 rw[h,hb]
 simp only[c3,List.head?_cons,c2,Bool.false_and,Bool.false_or]
 split<;>rfl
theorem Am {P:Program} {ws:List (List Char)} {c:List Char} {r:List (List Char)} (h:wordsSigns P.initOrder.toList=ws) (hb:behindMainWord ws=c::r)
  (c3:stripLifts liftWords (c::r)=([],c::r)) (c4:c= "cut".toList) (l:P.laysLater=false) (b:P.bearsReflect=false) (d:P.doorFits []=true):P.mayEnter=true:=by
 unfold Program.mayEnter
 rw[h,hb]
 simp[c3,l,b,d]
 exact .inr (by simpa using c4)
def w0:List Char:=[C_ 104,C_ 97,C_ 114,C_ 110,C_ 101,C_ 115,C_ 115]
def w1:List Char:=[C_ 99,C_ 51,C_ 98,C_ 102,C_ 50,C_ 50,C_ 49,C_ 56,C_ 52,C_ 97,C_ 100,C_ 102,C_ 53,C_ 55,C_ 54,C_ 54,C_ 51,C_ 56,C_ 56,C_ 51,C_ 56,C_ 100,C_ 55,C_ 53,C_ 101,C_ 51,C_ 57,C_ 102,C_ 48,C_ 49,C_ 49,C_ 54,C_ 102,C_ 51,C_ 98,C_ 101,C_ 52,C_ 97,C_ 101,C_ 101,C_ 101,C_ 97,C_ 57,C_ 54,C_ 100,C_ 52,C_ 53,C_ 57,C_ 100,C_ 102,C_ 48,C_ 49,C_ 52,C_ 51,C_ 51,C_ 51,C_ 56,C_ 99,C_ 54,C_ 48,C_ 56,C_ 57,C_ 52,C_ 57]
def w2:List Char:=[C_ 99,C_ 117,C_ 116]
def w3:List Char:=[C_ 97,C_ 116]
def w4:List Char:=[C_ 108,C_ 111,C_ 111,C_ 112,C_ 46,C_ 101,C_ 120,C_ 97,C_ 109,C_ 112,C_ 108,C_ 101,C_ 47,C_ 98,C_ 101,C_ 108,C_ 105,C_ 101,C_ 102,C_ 99,C_ 104,C_ 97,C_ 110,C_ 103,C_ 101,C_ 115,C_ 47,C_ 108,C_ 97,C_ 119,C_ 115,C_ 46,C_ 70,C_ 110,C_ 77,C_ 105,C_ 110,C_ 100,C_ 83,C_ 97,C_ 121]
def w5:List Char:=[C_ 108,C_ 111,C_ 111,C_ 112,C_ 46,C_ 101,C_ 120,C_ 97,C_ 109,C_ 112,C_ 108,C_ 101,C_ 47,C_ 98,C_ 101,C_ 108,C_ 105,C_ 101,C_ 102,C_ 99,C_ 104,C_ 97,C_ 110,C_ 103,C_ 101,C_ 115,C_ 47,C_ 108,C_ 97,C_ 119,C_ 115,C_ 46,C_ 70,C_ 110,C_ 82,C_ 101,C_ 97,C_ 100,C_ 74,C_ 111,C_ 117,C_ 114,C_ 110,C_ 97,C_ 108]
def line:List Char:=w0++C_ 32::(w1++C_ 32::(w2++C_ 32::(w3++C_ 32::(w4++C_ 32::(w5)))))
theorem io:Tryz.checked.prog.initOrder=String.ofList line:=by kernel_rfl
theorem Ih:Tryz.checked.prog.initOrder.toList=line:=by rw[io];exact String.toList_ofList
theorem words:wordsSigns line= [w0,w1,w2,w3,w4,w5]:=by
 unfold line
 rw[sC _ w0 (by kernel_rfl)]
 rw[sC _ w1 (by kernel_rfl)]
 rw[sC _ w2 (by kernel_rfl)]
 rw[sC _ w3 (by kernel_rfl)]
 rw[sC _ w4 (by kernel_rfl)]
 rw[xD w5 (by kernel_rfl)]
theorem wordsOf:wordsSigns Tryz.checked.prog.initOrder.toList= [w0,w1,w2,w3,w4,w5]:=by rw[Ih,words]
theorem bm:behindMainWord [w0,w1,w2,w3,w4,w5]=w2:: [w3,w4,w5]:=by kernel_rfl
theorem strip:stripLifts liftWords (w2:: [w3,w4,w5])=([],w2:: [w3,w4,w5]):=by kernel_rfl
theorem laysLater:Tryz.checked.prog.laysLater=false:=by kernel_rfl
theorem bearsReflect:Tryz.checked.prog.bearsReflect=false:=by kernel_rfl
theorem doorFits:Tryz.checked.prog.doorFits []=true:=by kernel_rfl
theorem mayEnter:Tryz.checked.prog.mayEnter=true:=Am wordsOf bm strip (by kernel_rfl) laysLater bearsReflect doorFits
theorem liftsFinal:Tryz.checked.prog.liftsFinal=false:=Al wordsOf bm (by kernel_rfl) strip
theorem make:Tryz.checked.prog.make=some .cut:=Cj wordsOf bm (by kernel_rfl) (by kernel_rfl)
end Go.Proofs.YtigeaokfhnlkcaaGreatDoor.Head
