/- Arguments that came in, laid open: whole numbers, texts, slices of anything that can be laid open, structs of two and three fields. -/
import Derived.Test.YtihgpkohglcijaaGreatDoorV0
import Derived.Lib.SmallJoins
import Derived.Deep.Slices
import Derived.Deep.Strs
import Derived.Deep.Fields
import Derived.ChangeSame
import Derived.ChangeArms
namespace Go.Proofs.YtihgpkohglcijaaGreatDoor.Open
open Go.RowKit Go.ChangeShapes Go.WideShapes Go.Deep Go.Proofs.YtihgpkohglcijaaGreatDoorW.PrintWords
section
variable {H:Type} {enc:TypeId×Value→H} {P:Program} {w:World} {base:Nat} {spare:Nat→Bool} {held:Bool} {α β γ:Type}
/-- What lies in these cells, read as type t, is of the kind d. -/
def yy (enc:TypeId×Value→H) (P:Program) (w:World) (base:Nat) (spare:Nat→Bool) (held:Bool) (t:TypeId) (d:Kd α) (Q:α→Prop):Prop:=
 ∀(fuel:Nat) (cs:List Value) (y:DataW H×List MemPlace),cs.length=d.sz→DataW.trod enc P w base spare held fuel t cs=some y→∃x,d.K w x cs∧Q x
theorem Bs {t:TypeId} {k:IntKind} (ht:P.underlying t=some (.int k)):yy enc P w base spare held t (Kd.int k) (fun n=>(Lit.int k n).wf=true):=by
 intro fuel cs y hl h
 match cs,hl with
 | [v],_=>
  obtain⟨n,e,hv,hw⟩:=DataW.trod_int ht h
  exact⟨n,by rw[e];rfl,hw⟩
theorem CI {t:TypeId} (ht:P.underlying t=some .string):yy enc P w base spare held t Kd.string (fun s=>s.size≤maxLen):=by
 intro fuel cs y hl h
 match cs,hl with
 | [v],_=>
  obtain⟨n,e,hv,hw⟩:=DataW.trod_string ht h
  exact⟨n,by rw[e];rfl,hw⟩
theorem grow {d:Kd α} {Q:α→Prop} {a:Addr}:∀(n:Nat),(∀i,i<n→∃(cs:List Value) (x:α),cs.length=d.sz∧(d.K w x cs∧Q x)∧∀j u,cs[j]?=some u→w.cell? (a.add (i*d.sz+j))=some u)→
  ∃xs:List α,xs.length=n∧(∀x∈xs,Q x)∧∀j p,xs[j]?=some p→∃c,c.length=d.sz∧d.K w p c∧∀i u,c[i]?=some u→w.cell? (a.add (j*d.sz+i))=some u
 |0,_=>⟨[],rfl,fun x hx=>by simp at hx,fun j p h=>by simp at h⟩
 |n+1,h=>by
  obtain⟨xs,hl,hq,hx⟩:=grow n (fun i hi=>h i (by omega))
  obtain⟨cs,x,h1,h2,h3⟩:=h n (by omega)
  refine⟨xs++ [x],by rw[List.length_append,hl];rfl,fun z hz=>?_,fun j p hp=>?_⟩
  ·rcases List.mem_append.1 hz with hz|hz
   ·exact hq z hz
   ·rw[List.mem_singleton.1 hz];exact h2.2
  ·rcases Nat.lt_or_ge j xs.length with hj|hj
   ·rw[List.getElem?_append_left hj]at hp
    exact hx j p hp
   ·have hj':j=n:=by
     have:=(List.getElem?_eq_some_iff.1 hp).1
     rw[List.length_append,List.length_singleton]at this
     omega
    subst hj'
    have hp':x=p:=by rw[←hl]at hp;simpa using hp
    subst hp'
    exact⟨cs,h1,h2.1,h3⟩
theorem ya {t e:TypeId} {d:Kd α} {Q:α→Prop} (ht:P.underlying t=some (.slice e)) (hC:P.cellsOf e=d.sz) (hE:yy enc P w base spare held e d Q):yy enc P w base spare held t (Kd.slice e d) (fun xs=>xs.length≤maxLen∧∀x∈xs,Q x):=by
 intro fuel cs y hl h
 rcases open_slice ht h with⟨rfl,_⟩|⟨a,len,cap,m,n,D,Pl,rfl,_,hlc,hcm,hm,_,hi⟩
 ·exact⟨[],⟨none,0,rfl,Nat.le_refl _,Kd.C_nil _ _⟩,Nat.zero_le _,fun x hx=>by simp at hx⟩
 ·have hlm:len≤m:=by rw[hm];split<;>omega
  obtain⟨xs,hxl,hq,hx⟩:=grow (w:=w) (d:=d) (Q:=Q) (a:=a) len (fun i hil=>by
   obtain⟨cs',hc,ht'⟩:=hi i (by omega)
   rw[hC]at hc
   obtain⟨_,hcl,hat⟩:=World.cells?_some hc
   obtain⟨x,hx⟩:=hE n cs' _ hcl ht'
   refine⟨cs',x,hcl,hx,fun j u hu=>?_⟩
   have hj:j<d.sz:=by have:=(List.getElem?_eq_some_iff.1 hu).1;omega
   have:=hat j hj
   rw[←Go.Deep.add_add,this,hu])
  subst hxl
  exact⟨xs,⟨some a,cap,rfl,hlc,rfl,Nat.le_trans hlc hcm,fun _=>⟨a,rfl,hx⟩⟩,Nat.le_trans hlc hcm,hq⟩
theorem Bt {t:TypeId} {f0 f1 f2:Field} {a:Kd α} {b:Kd β} {δ:Type} {c:Kd δ} {Q0:α→Prop} {Q1:β→Prop} {Q2:δ→Prop} (hs:P.underlying t=some (.struct #[f0,f1,f2])) (hone:oneCellFields P #[f0,f1,f2]=true) (hC:P.cellsOf t=3) (ha:a.sz=1) (hb:b.sz=1) (hc:c.sz=1)
  (h0:yy enc P w base spare held f0.type a Q0) (h1:yy enc P w base spare held f1.type b Q1) (h2:yy enc P w base spare held f2.type c Q2) (f:γ→α×β×δ) (g:∀x y u,∃z,f z=(x,y,u)):yy enc P w base spare held t (Kd.iso (Kd.pair a (Kd.pair b c)) f) (fun z=>Q0 (f z).1∧Q1 (f z).2.1∧Q2 (f z).2.2):=by
 intro fuel cs y _ h
 obtain⟨y0,y1,y2,n,_,hl,k0,k1,k2⟩:=trod_struct3 hs h
 rw[hC]at hl
 match cs,hl with
 | [c0,c1,c2],_=>
  obtain⟨o0,e0⟩:=hone_of hone 0 f0 rfl
  obtain⟨o1,e1⟩:=hone_of hone 1 f1 rfl
  obtain⟨o2,e2⟩:=hone_of hone 2 f2 rfl
  rw[o0,e0]at k0
  rw[o1,e1]at k1
  rw[o2,e2]at k2
  obtain⟨x0,q0,r0⟩:=h0 _ _ _ (by rw[ha];rfl) k0
  obtain⟨x1,q1,r1⟩:=h1 _ _ _ (by rw[hb];rfl) k1
  obtain⟨x2,q2,r2⟩:=h2 _ _ _ (by rw[hc];rfl) k2
  obtain⟨z,hz⟩:=g x0 x1 x2
  refine⟨z,⟨[c0],[c1,c2],rfl,?_,[c1],[c2],rfl,?_,?_⟩,?_⟩
  ·rw[hz];exact q0
  ·rw[hz];exact q1
  ·rw[hz];exact q2
  ·show Q0 (f z).1∧Q1 (f z).2.1∧Q2 (f z).2.2;rw[hz];exact⟨r0,r1,r2⟩
end
end Go.Proofs.YtihgpkohglcijaaGreatDoor.Open
