/- What the closed facts of this seat's rows ask of the translation's first line, shown word by word. -/
import Derived.Test.YtihgpkohglcijaaGreatDoorRows
import Derived.KernelRfl
namespace Go.Proofs.YtihgpkohglcijaaGreatDoor.Head
theorem AF:∀(w:List Char),(w.all fun c=> !(c==Char.ofNat 32))=true→wordsSigns w= [w]
 | [],_=>rfl
 |c::w,h=>by
  have h1:c≠Char.ofNat 32:=by intro e;rw[e]at h;simp at h
  have ih:=AF w (by simp at h⊢;exact h.2)
  unfold wordsSigns
  split
  ·rename_i heq;cases heq
  ·rename_i heq;exact absurd (List.cons.inj heq).1 h1
  ·rename_i heq
   obtain⟨rfl,rfl⟩:=List.cons.inj heq
   rw[ih]
theorem vo (r:List Char):∀(w:List Char),(w.all fun c=> !(c==Char.ofNat 32))=true→wordsSigns (w++Char.ofNat 32::r)=w::wordsSigns r
 | [],_=>rfl
 |c::w,h=>by
  have h1:c≠Char.ofNat 32:=by intro e;rw[e]at h;simp at h
  have ih:=vo r w (by simp at h⊢;exact h.2)
  have key:∀(l:List Char) (x:List Char) (xs:List (List Char)),wordsSigns l=x::xs→wordsSigns (c::l)=(c::x)::xs:=by
   intro l x xs hl
   unfold wordsSigns
   split
   ·rename_i heq;cases heq
   ·rename_i heq;exact absurd (List.cons.inj heq).1 h1
   ·rename_i heq
    obtain⟨rfl,rfl⟩:=List.cons.inj heq
    rw[hl]
  exact key _ _ _ ih
theorem Ey {P:Program} {ws:List (List Char)} {c:List Char} {r:List (List Char)} (h:wordsSigns P.initOrder.toList=ws) (hb:behindMainWord ws=c::r)
  (c0:(c== "gc".toList||c== "spec".toList)=false) (c1:(c== "cut".toList)=true):P.make=some .cut:=by
 unfold Program.make
 rw[h,hb]
 simp only[c0,c1,Bool.true_or,if_true,Bool.false_eq_true,if_false]
theorem Dm {P:Program} {ws:List (List Char)} {c:List Char} {r:List (List Char)} (h:wordsSigns P.initOrder.toList=ws) (hb:behindMainWord ws=c::r)
  (c2:(some c==some "carried".toList)=false) (c3:stripLifts liftWords (c::r)=([],c::r)):P.liftsFinal=false:=by
 unfold Program.liftsFinal Program.headLifts
 rw[h,hb]
 simp only[c3,List.head?_cons,c2,Bool.false_and,Bool.false_or]
 split<;>rfl
theorem Dn {P:Program} {ws:List (List Char)} {c:List Char} {r:List (List Char)} (h:wordsSigns P.initOrder.toList=ws) (hb:behindMainWord ws=c::r)
  (c3:stripLifts liftWords (c::r)=([],c::r)) (c4:c= "cut".toList) (l:P.laysLater=false) (b:P.bearsReflect=false) (d:P.doorFits []=true):P.mayEnter=true:=by
 unfold Program.mayEnter
 rw[h,hb]
 simp[c3,l,b,d]
 exact .inr (by simpa using c4)
def w0:List Char:=[Char.ofNat 104,Char.ofNat 97,Char.ofNat 114,Char.ofNat 110,Char.ofNat 101,Char.ofNat 115,Char.ofNat 115]
def w1:List Char:=[Char.ofNat 99,Char.ofNat 98,Char.ofNat 51,Char.ofNat 48,Char.ofNat 101,Char.ofNat 97,Char.ofNat 56,Char.ofNat 102,Char.ofNat 57,Char.ofNat 55,Char.ofNat 57,Char.ofNat 102,Char.ofNat 54,Char.ofNat 98,Char.ofNat 57,Char.ofNat 55,Char.ofNat 56,Char.ofNat 48,Char.ofNat 51,Char.ofNat 55,Char.ofNat 55,Char.ofNat 100,Char.ofNat 102,Char.ofNat 97,Char.ofNat 52,Char.ofNat 97,Char.ofNat 49,Char.ofNat 98,Char.ofNat 54,Char.ofNat 101,Char.ofNat 98,Char.ofNat 51,Char.ofNat 97,Char.ofNat 49,Char.ofNat 97,Char.ofNat 56,Char.ofNat 51,Char.ofNat 55,Char.ofNat 101,Char.ofNat 48,Char.ofNat 102,Char.ofNat 54,Char.ofNat 54,Char.ofNat 51,Char.ofNat 54,Char.ofNat 101,Char.ofNat 48,Char.ofNat 100,Char.ofNat 53,Char.ofNat 55,Char.ofNat 52,Char.ofNat 52,Char.ofNat 98,Char.ofNat 52,Char.ofNat 102,Char.ofNat 97,Char.ofNat 53,Char.ofNat 102,Char.ofNat 50,Char.ofNat 57,Char.ofNat 49,Char.ofNat 50,Char.ofNat 97,Char.ofNat 100]
def w2:List Char:=[Char.ofNat 99,Char.ofNat 117,Char.ofNat 116]
def w3:List Char:=[Char.ofNat 97,Char.ofNat 116]
def w4:List Char:=[Char.ofNat 108,Char.ofNat 111,Char.ofNat 111,Char.ofNat 112,Char.ofNat 46,Char.ofNat 101,Char.ofNat 120,Char.ofNat 97,Char.ofNat 109,Char.ofNat 112,Char.ofNat 108,Char.ofNat 101,Char.ofNat 47,Char.ofNat 98,Char.ofNat 101,Char.ofNat 108,Char.ofNat 105,Char.ofNat 101,Char.ofNat 102,Char.ofNat 99,Char.ofNat 104,Char.ofNat 97,Char.ofNat 110,Char.ofNat 103,Char.ofNat 101,Char.ofNat 115,Char.ofNat 47,Char.ofNat 108,Char.ofNat 97,Char.ofNat 119,Char.ofNat 115,Char.ofNat 46,Char.ofNat 70,Char.ofNat 110,Char.ofNat 77,Char.ofNat 105,Char.ofNat 110,Char.ofNat 100,Char.ofNat 76,Char.ofNat 105,Char.ofNat 110,Char.ofNat 101]
def w5:List Char:=[Char.ofNat 108,Char.ofNat 111,Char.ofNat 111,Char.ofNat 112,Char.ofNat 46,Char.ofNat 101,Char.ofNat 120,Char.ofNat 97,Char.ofNat 109,Char.ofNat 112,Char.ofNat 108,Char.ofNat 101,Char.ofNat 47,Char.ofNat 98,Char.ofNat 101,Char.ofNat 108,Char.ofNat 105,Char.ofNat 101,Char.ofNat 102,Char.ofNat 99,Char.ofNat 104,Char.ofNat 97,Char.ofNat 110,Char.ofNat 103,Char.ofNat 101,Char.ofNat 115,Char.ofNat 47,Char.ofNat 108,Char.ofNat 97,Char.ofNat 119,Char.ofNat 115,Char.ofNat 46,Char.ofNat 70,Char.ofNat 110,Char.ofNat 77,Char.ofNat 105,Char.ofNat 110,Char.ofNat 100,Char.ofNat 83,Char.ofNat 97,Char.ofNat 121]
def w6:List Char:=[Char.ofNat 108,Char.ofNat 111,Char.ofNat 111,Char.ofNat 112,Char.ofNat 46,Char.ofNat 101,Char.ofNat 120,Char.ofNat 97,Char.ofNat 109,Char.ofNat 112,Char.ofNat 108,Char.ofNat 101,Char.ofNat 47,Char.ofNat 98,Char.ofNat 101,Char.ofNat 108,Char.ofNat 105,Char.ofNat 101,Char.ofNat 102,Char.ofNat 99,Char.ofNat 104,Char.ofNat 97,Char.ofNat 110,Char.ofNat 103,Char.ofNat 101,Char.ofNat 115,Char.ofNat 47,Char.ofNat 108,Char.ofNat 97,Char.ofNat 119,Char.ofNat 115,Char.ofNat 46,Char.ofNat 70,Char.ofNat 110,Char.ofNat 69,Char.ofNat 120,Char.ofNat 97,Char.ofNat 99,Char.ofNat 116,Char.ofNat 77,Char.ofNat 105,Char.ofNat 110,Char.ofNat 100,Char.ofNat 83,Char.ofNat 97,Char.ofNat 121]
def w7:List Char:=[Char.ofNat 108,Char.ofNat 111,Char.ofNat 111,Char.ofNat 112,Char.ofNat 46,Char.ofNat 101,Char.ofNat 120,Char.ofNat 97,Char.ofNat 109,Char.ofNat 112,Char.ofNat 108,Char.ofNat 101,Char.ofNat 47,Char.ofNat 98,Char.ofNat 101,Char.ofNat 108,Char.ofNat 105,Char.ofNat 101,Char.ofNat 102,Char.ofNat 99,Char.ofNat 104,Char.ofNat 97,Char.ofNat 110,Char.ofNat 103,Char.ofNat 101,Char.ofNat 115,Char.ofNat 47,Char.ofNat 108,Char.ofNat 97,Char.ofNat 119,Char.ofNat 115,Char.ofNat 46,Char.ofNat 70,Char.ofNat 110,Char.ofNat 82,Char.ofNat 101,Char.ofNat 97,Char.ofNat 100,Char.ofNat 74,Char.ofNat 111,Char.ofNat 117,Char.ofNat 114,Char.ofNat 110,Char.ofNat 97,Char.ofNat 108]
def w8:List Char:=[Char.ofNat 108,Char.ofNat 111,Char.ofNat 111,Char.ofNat 112,Char.ofNat 46,Char.ofNat 101,Char.ofNat 120,Char.ofNat 97,Char.ofNat 109,Char.ofNat 112,Char.ofNat 108,Char.ofNat 101,Char.ofNat 47,Char.ofNat 98,Char.ofNat 101,Char.ofNat 108,Char.ofNat 105,Char.ofNat 101,Char.ofNat 102,Char.ofNat 99,Char.ofNat 104,Char.ofNat 97,Char.ofNat 110,Char.ofNat 103,Char.ofNat 101,Char.ofNat 115,Char.ofNat 47,Char.ofNat 108,Char.ofNat 97,Char.ofNat 119,Char.ofNat 115,Char.ofNat 46,Char.ofNat 70,Char.ofNat 110,Char.ofNat 69,Char.ofNat 120,Char.ofNat 97,Char.ofNat 99,Char.ofNat 116,Char.ofNat 77,Char.ofNat 105,Char.ofNat 110,Char.ofNat 100,Char.ofNat 76,Char.ofNat 105,Char.ofNat 110,Char.ofNat 101]
def line:List Char:=w0++Char.ofNat 32::(w1++Char.ofNat 32::(w2++Char.ofNat 32::(w3++Char.ofNat 32::(w4++Char.ofNat 32::(w5++Char.ofNat 32::(w6++Char.ofNat 32::(w7++Char.ofNat 32::(w8))))))))
theorem io:Tryz.checked.prog.initOrder=String.ofList line:=by kernel_rfl
theorem Kn:Tryz.checked.prog.initOrder.toList=line:=by rw[io];exact String.toList_ofList
theorem words:wordsSigns line= [w0,w1,w2,w3,w4,w5,w6,w7,w8]:=by
 unfold line
 rw[vo _ w0 (by kernel_rfl)]
 rw[vo _ w1 (by kernel_rfl)]
 rw[vo _ w2 (by kernel_rfl)]
 rw[vo _ w3 (by kernel_rfl)]
 rw[vo _ w4 (by kernel_rfl)]
 rw[vo _ w5 (by kernel_rfl)]
 rw[vo _ w6 (by kernel_rfl)]
 rw[vo _ w7 (by kernel_rfl)]
 rw[AF w8 (by kernel_rfl)]
theorem wordsOf:wordsSigns Tryz.checked.prog.initOrder.toList= [w0,w1,w2,w3,w4,w5,w6,w7,w8]:=by rw[Kn,words]
theorem bm:behindMainWord [w0,w1,w2,w3,w4,w5,w6,w7,w8]=w2:: [w3,w4,w5,w6,w7,w8]:=by kernel_rfl
theorem strip:stripLifts liftWords (w2:: [w3,w4,w5,w6,w7,w8])=([],w2:: [w3,w4,w5,w6,w7,w8]):=by kernel_rfl
theorem laysLater:Tryz.checked.prog.laysLater=false:=by kernel_rfl
theorem bearsReflect:Tryz.checked.prog.bearsReflect=false:=by kernel_rfl
theorem doorFits:Tryz.checked.prog.doorFits []=true:=by kernel_rfl
theorem mayEnter:Tryz.checked.prog.mayEnter=true:=Dn wordsOf bm strip (by kernel_rfl) laysLater bearsReflect doorFits
theorem liftsFinal:Tryz.checked.prog.liftsFinal=false:=Dm wordsOf bm (by kernel_rfl) strip
theorem make:Tryz.checked.prog.make=some .cut:=Ey wordsOf bm (by kernel_rfl) (by kernel_rfl)
end Go.Proofs.YtihgpkohglcijaaGreatDoor.Head
