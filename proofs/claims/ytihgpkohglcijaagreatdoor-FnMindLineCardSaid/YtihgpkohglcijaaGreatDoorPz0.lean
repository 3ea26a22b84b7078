import Derived.Test.YtihgpkohglcijaaGreatDoorPx2
import Derived.Test.YtihgpkohglcijaaGreatDoorMath
import Derived.Test.YtihgpkohglcijaaGreatDoorPx14
import Derived.Test.YtihgpkohglcijaaGreatDoorPx3
import Derived.Test.YtihgpkohglcijaaGreatDoorPx16
import Derived.Test.YtihgpkohglcijaaGreatDoorPx4
import Derived.Test.YtihgpkohglcijaaGreatDoorPx5
import Derived.Test.YtihgpkohglcijaaGreatDoorPx18
import Derived.Test.YtihgpkohglcijaaGreatDoorPx17
import Derived.Test.YtihgpkohglcijaaGreatDoorPx23
import Derived.Test.YtihgpkohglcijaaGreatDoorPx29
import Derived.Test.YtihgpkohglcijaaGreatDoorPx20
import Derived.Test.YtihgpkohglcijaaGreatDoorPx24
import Derived.Test.YtihgpkohglcijaaGreatDoorPx27
import Derived.Test.YtihgpkohglcijaaGreatDoorPx28
import Derived.Test.YtihgpkohglcijaaGreatDoorPx22
import Derived.Test.YtihgpkohglcijaaGreatDoorPx0
import Derived.Test.YtihgpkohglcijaaGreatDoorPx15
import Derived.Test.YtihgpkohglcijaaGreatDoorPx19
import Derived.Test.YtihgpkohglcijaaGreatDoorPx25
import Derived.Test.YtihgpkohglcijaaGreatDoorPx30
import Derived.Test.YtihgpkohglcijaaGreatDoorPx12
import Derived.Test.YtihgpkohglcijaaGreatDoorPx6
import Derived.Test.YtihgpkohglcijaaGreatDoorPx26
import Derived.Test.YtihgpkohglcijaaGreatDoorPx7
import Derived.Test.YtihgpkohglcijaaGreatDoorPx31
import Derived.Test.YtihgpkohglcijaaGreatDoorPx8
import Derived.Test.YtihgpkohglcijaaGreatDoorPx9
import Derived.Test.YtihgpkohglcijaaGreatDoorPx10
import Derived.Test.YtihgpkohglcijaaGreatDoorPx11
import Derived.Test.YtihgpkohglcijaaGreatDoorPx13
namespace Go.Proofs.YtihgpkohglcijaaGreatDoor.Pl
open Go.RowKit YtihgpkohglcijaaGreatDoorW PrintWords PrintLast PrintMore Go.Proofs.YtihgpkohglcijaaGreatDoor.P Go.Proofs.YtihgpkohglcijaaGreatDoor.Mt
theorem wj (b:ByteArray):∀(n i:Nat) (r:List UInt8),b.size - i=n→ByteArray.toList.loop b i r=r.reverse++b.data.toList.drop i:=by
 intro n;induction n with
 |zero=>
  intro i r h;unfold ByteArray.toList.loop;rw[if_neg (by omega),List.drop_eq_nil_of_le (by rw[Array.length_toList];show b.size≤i;omega),List.append_nil]
 |succ n ih=>
  intro i r h;unfold ByteArray.toList.loop;have hi:i<b.data.toList.length:=by rw[Array.length_toList];show i<b.size;omega
  rw[if_pos (by omega),ih (i+1) _ (by omega),List.drop_eq_getElem_cons hi,List.reverse_cons,List.append_assoc];congr 2
  have:b.get! i=b.data.toList[i]:=by
   show b.data[i]! =_
   rw[getElem!_pos _ i (by rw[Array.length_toList]at hi;exact hi)];simp
  rw[this];rfl
theorem toList_data (b:ByteArray):b.toList=b.data.toList:=by
 unfold ByteArray.toList;rw[wj b _ 0 [] rfl];rfl
theorem pT (b:ByteArray):b.toList= []↔b.size=0:=by
 rw[toList_data,List.eq_nil_iff_length_eq_zero,Array.length_toList];rfl
theorem ext_list {a b:ByteArray} (h:a.toList=b.toList):a=b:=by
 rw[toList_data,toList_data]at h;exact ByteArray.ext (Array.toList_inj.1 h)
theorem nO (a b c:Int):kj.f a b c=some (decide (b≤a∧a≤c)):=by
 unfold kj.f;by_cases h:a≥b
 ·rw[if_pos h];congr 1;exact decide_eq_decide.2 ⟨fun k=>⟨h,k⟩,fun k=>k.2⟩
 ·rw[if_neg h];congr 1;symm;exact decide_eq_false (fun k=>h k.1)
theorem mP {l:List Int} {i:Nat} (h:i<l.length):rd l (i:Int)=l[i]:=by
 unfold rd;rw[Int.toNat_natCast,List.getD_eq_getElem?_getD,List.getElem?_eq_getElem h];rfl
theorem wX {l:List Int} {i:Nat} (h:i<l.length):rd l (i:Int)∈l:=by rw[mP h];exact List.getElem_mem h
theorem down {P:Nat→Prop} {n:Nat} (h0:P n) (h1:∀i,i<n→P (i+1)→P i):∀i,i≤n→P i:=by
 have key:∀d i,i+d=n→P i:=by
  intro d;induction d with
  |zero=>intro i hi;rw[show i=n from by omega];exact h0
  |succ d ih=>intro i hi;exact h1 i (by omega) (ih (i+1) (by omega))
 intro i hi;exact key (n - i) i (by omega)
theorem w1 {i n:Nat} (h:i<n) (hn:n≤9223372036854775807):wrap64 ((i:Int)+1)=((i+1:Nat):Int):=by rw[oz (by omega) (by omega)];rfl
theorem three {t:Int} (h:1≤t∧t≤3):t=1∨t=2∨t=3:=by omega
def wn (t:Int):Nat:=if t=1 then 2 else if t=2 then 4 else 8
theorem ni (t:Int):wn t≤8∧2≤wn t:=by unfold wn;split<;>(try split)<;>omega
theorem qd {t:Int} (h:1≤t∧t≤3):shl .i64 1 t=(wn t:Int):=by rcases three h with rfl|rfl|rfl<;>decide+kernel
def nj (l:List Int):Nat→Nat
 |0=>0
 |n+1=>nj l n+(if(n:Int)∈l then 1 else 0)
def rW (l:List Int) (x:Int):Nat:=nj l x.toNat
def mu (l:List Int):List Int:=l.map fun x=>(rW l x:Int)
theorem sI {l m:List Int}:∀n:Nat,(∀y:Int,0≤y→y<n→(y∈l↔y∈m))→nj l n=nj m n
 |0,_=>rfl
 |n+1,h=>by
  unfold nj
  rw[sI n (fun y h0 h1=>h y h0 (by omega))]
  have:=h n (by omega) (by omega)
  by_cases hm:(n:Int)∈l
  ·rw[if_pos hm,if_pos (this.1 hm)]
  ·rw[if_neg hm,if_neg (fun k=>hm (this.2 k))]
theorem xS (l:List Int):∀n,nj l n≤n
 |0=>Nat.le_refl _
 |n+1=>by unfold nj;have:=xS l n;split<;>omega
theorem qv {l:List Int}:∀(n:Nat) (s:List Int),s.Nodup→(∀y,y∈s↔(y∈l∧0≤y∧y<n))→s.length=nj l n
 |0,s,_,h=>by
  cases s with
  |nil=>rfl
  |cons y s=>have:=(h y).1 List.mem_cons_self;omega
 |n+1,s,hd,h=>by
  unfold nj
  by_cases hn:(n:Int)∈l
  ·rw[if_pos hn]
   have hs:(n:Int)∈s:=(h n).2 ⟨hn,by omega,by omega⟩
   have:=qv (l:=l) n (s.erase n) (hd.erase _) (fun y=>by
    rw[hd.mem_erase_iff]
    constructor
    ·rintro⟨a,b⟩
     obtain⟨b,c,d⟩:=(h y).1 b
     exact⟨b,c,by omega⟩
    ·rintro⟨b,c,d⟩
     exact⟨by omega,(h y).2 ⟨b,c,by omega⟩⟩)
   rw[List.length_erase_of_mem hs]at this
   have hp:0<s.length:=List.length_pos_of_mem hs
   omega
  ·rw[if_neg hn]
   exact qv n s hd (fun y=>by
    rw[h y]
    constructor
    ·rintro⟨a,b,c⟩;exact⟨a,b,by have:y≠n:=fun e=>hn (e▸a);omega⟩
    ·rintro⟨a,b,c⟩;exact⟨a,b,by omega⟩)
theorem mQ (l:List Int):(mu l).length=l.length:=List.length_map ..
theorem wk {l:List Int}:∀(n k:Nat),k<nj l n→∃y∈l,0≤y∧y<n∧rW l y=k
 |0,k,h=>by simp[nj]at h
 |n+1,k,h=>by
  unfold nj at h
  by_cases hk:k<nj l n
  ·obtain⟨y,hy,h0,h1,h2⟩:=wk n k hk
   exact⟨y,hy,h0,by omega,h2⟩
  ·by_cases hn:(n:Int)∈l
   ·rw[if_pos hn]at h
    exact⟨n,hn,by omega,by omega,by show nj l ((n:Int).toNat)=k;rw[Int.toNat_natCast];omega⟩
   ·rw[if_neg hn]at h;omega
theorem rL {l:List Int} {y:Int}:y∈mu l↔∃x∈l,(rW l x:Int)=y:=by unfold mu;rw[List.mem_map]
theorem yv {l:List Int} {x:Int} (_:x∈l) (_:0≤x):rW (mu l) (rW l x)=rW l x:=by
 have key:∀n:Nat,n≤rW l x→nj (mu l) n=n:=by
  intro n;induction n with
  |zero=>intro _;rfl
  |succ n ih=>
   intro h;unfold nj;obtain⟨y,hy,_,_,he⟩:=wk (l:=l) x.toNat n h;rw[ih (by omega),if_pos (rL.2 ⟨y,hy,by rw[he]⟩)]
 show nj (mu l) ((rW l x:Int).toNat)=rW l x
 rw[Int.toNat_natCast];exact key _ (Nat.le_refl _)
theorem wm {l:List Int} (h:∀x∈l,0≤x):mu (mu l)=mu l:=by
 show(mu l).map _=_
 conv=>lhs;arg 2;unfold mu
 rw[List.map_map]
 show _=l.map _
 apply List.map_congr_left;intro x hx
 show((rW (mu l) (rW l x):Nat):Int)=_
 rw[yv hx (h x hx)]
theorem um (z:Int) (l:List Int):∀n:Nat,nj (z::l) n≤nj l n+(if 0≤z∧z<n then 1 else 0)
 |0=>by unfold nj;omega
 |n+1=>by
  have ih:=um z l n
  have e1:nj (z::l) (n+1)=nj (z::l) n+(if(n:Int)∈z::l then 1 else 0):=rfl
  have e2:nj l (n+1)=nj l n+(if(n:Int)∈l then 1 else 0):=rfl
  rw[e1,e2]
  by_cases hz:z=(n:Int)
  ·subst hz
   rw[if_neg (by omega)]at ih
   rw[if_pos (c:=0≤(n:Int)∧_) (by omega)]
   split<;>split<;>omega
  ·have hm:((n:Int)∈z::l)↔(n:Int)∈l:=by rw[List.mem_cons];exact⟨fun h=>h.resolve_left (fun e=>hz e.symm),Or.inr⟩
   by_cases hl:(n:Int)∈l
   ·rw[if_pos (hm.2 hl),if_pos hl]
    split at ih<;>split<;>omega
   ·rw[if_neg (fun k=>hl (hm.1 k)),if_neg hl]
    split at ih<;>split<;>omega
theorem sJ {l:List Int} {n:Nat}:nj l n≤(l.filter fun y=>decide (y<(n:Int))).length:=by
 induction l with
 |nil=>
  have:∀n,nj [] n=0:=by intro n;induction n with|zero=>rfl|succ n ih=>unfold nj;rw[ih,if_neg (by simp)]
  rw[this];exact Nat.zero_le _
 |cons z l ih=>
  have:=um z l n;rw[List.filter_cons];by_cases h:z<(n:Int)
  ·rw[if_pos (by simpa using h),List.length_cons];split at this<;>omega
  ·rw[if_neg (by simpa using h)];rw[if_neg (by omega)]at this;omega
theorem tX {l:List Int} {x:Int} (hx:x∈l) (h0:0≤x):rW l x<l.length:=by
 have h1:=sJ (l:=l) (n:=x.toNat)
 have h2:(l.filter fun y=>decide (y<((x.toNat:Nat):Int))).length<l.length:=by
  rw[Int.toNat_of_nonneg h0];have hle:=List.length_filter_le (fun y=>decide (y<x)) l;rcases Nat.lt_or_ge (l.filter fun y=>decide (y<x)).length l.length with h|h
  ·exact h
  ·have he:(l.filter fun y=>decide (y<x)).length=l.length:=by omega
   have:=List.length_filter_eq_length_iff.1 he x hx;simp at this
 unfold rW;omega
theorem zu {l:List Int} {x:Int} (h:∀y∈l,0≤y→x≤y):rW l x=0:=by
 unfold rW
 have:∀n:Nat,n≤x.toNat→nj l n=0:=by
  intro n;induction n with
  |zero=>intro _;rfl
  |succ n ih=>
   intro hn;unfold nj;rw[ih (by omega),if_neg (fun hm=>by have:=h n hm (by omega);omega)]
 exact this _ (Nat.le_refl _)
theorem AB {c:List Int} (hs:c.Pairwise (·<·)) (h0:∀x∈c,0≤x) {i:Nat} (hi:i<c.length):rW c c[i]=i:=by
 have hx0:0≤c[i]:=h0 _ (List.getElem_mem hi);unfold rW
 have hn:(c.take i).Nodup:=by
  have:(c.take i).Pairwise (·<·):=hs.sublist (List.take_sublist ..);exact this.imp (fun h=>by omega)
 have hget:=List.pairwise_iff_getElem.1 hs
 rw[←qv (l:=c) c[i].toNat (c.take i) hn (fun y=>by
  rw[Int.toNat_of_nonneg hx0];constructor
  ·intro hy;obtain⟨j,hj,rfl⟩:=List.mem_iff_getElem.1 hy;rw[List.length_take]at hj;rw[List.getElem_take];refine⟨List.getElem_mem _,h0 _ (List.getElem_mem _),hget j i (by omega) hi (by omega)⟩
  ·rintro⟨hy,_,hlt⟩;obtain⟨j,hj,rfl⟩:=List.mem_iff_getElem.1 hy
   have hji:j<i:=by
    rcases(by omega:j<i∨j=i∨i<j)with k|k|k
    ·exact k
    ·subst k;omega
    ·have:=hget i j hi hj k;omega
   rw[List.mem_iff_getElem];exact⟨j,by rw[List.length_take];omega,List.getElem_take⟩)]
 rw[List.length_take];omega
theorem yw {l m:List Int} (h:∀y,y∈l↔y∈m) (x:Int):rW l x=rW m x:=sI _ (fun y _ _=>h y)
def lu (t:Int) (l:List Int):Bool:=decide ((1≤t∧t≤3)∧l.length=wn t∧(∀x∈l,0≤x∧x≤9)∧(0:Int)∈l)
theorem jD {t:Int} {l:List Int}:lu t l=true↔(1≤t∧t≤3)∧l.length=wn t∧(∀x∈l,0≤x∧x≤9)∧(0:Int)∈l:=by unfold lu;exact decide_eq_true_iff
theorem qw (l:List Int) (i:Nat):rd l (i:Int)=l.getD i 0:=by unfold rd;rw[Int.toNat_natCast]
theorem rA (a b:Int):(mn a b=a∨mn a b=b)∧mn a b≤a∧mn a b≤b:=by unfold mn;split<;>omega
theorem zv (a b:Int):(mx a b=a∨mx a b=b)∧a≤mx a b∧b≤mx a b:=by unfold mx;split<;>omega
theorem nW (t:Int) {l:List Int} (hn:l.length≤9223372036854775807):Ev (fun k=>gY.f k t l) (lu t l):=by
 unfold gY.f
 have key:∀i,i≤l.length→∀m:Int,0≤m→m≤9→Ev (fun k=>gY.l0 k t l m (i:Int)) (decide ((1≤t∧t≤3)∧l.length=wn t∧(∀x∈l.drop i,0≤x∧x≤9)∧(m=0∨(0:Int)∈l.drop i))):=by
  apply down
  ·intro m h0 h9;refine Ev.step (fun k=>rfl) (fz (by omega) (gZ (nO _ _ _) ?_));rw[List.drop_length];by_cases ht:1≤t∧t≤3
   ·refine fx (decide_eq_true ht) (fx (by omega) ?_);rw[qd ht];by_cases hl:l.length=wn t
    ·refine fx (by omega) (ky (Ev.now _) ?_);by_cases hm:m=0
     ·rw[hm,decide_eq_true ⟨ht,hl,fun x hx=>absurd hx (by simp),Or.inl rfl⟩];rfl
     ·rw[decide_eq_false (fun k=>by rcases k.2.2.2 with h|h;exact hm h;simp at h)];exact beq_eq_false_iff_ne.2 hm
    ·refine fz (by omega) (ky (Ev.now _) ?_);rw[decide_eq_false (fun k=>hl k.2.1)]
   ·refine fz (by rw[decide_eq_false ht];decide) (ky (Ev.now _) ?_);rw[decide_eq_false (fun k=>ht k.1)]
  ·intro i hi ih m h0 h9;refine Ev.step (fun k=>rfl) (fx (by omega) (fx (by omega) (gZ (nO _ _ _) ?_)));rw[mP hi];by_cases hr:0≤l[i]∧l[i]≤9
   ·obtain⟨m1,m2,m3⟩:=rA m l[i];refine fx (decide_eq_true hr) ?_;rw[w1 hi hn];refine ky (ih (mn m l[i]) (by omega) (by omega)) (decide_eq_decide.2 ?_);rw[List.drop_eq_getElem_cons hi];simp only[List.mem_cons,forall_eq_or_imp];constructor
    ·rintro⟨a,b,c,d⟩;refine⟨a,b,⟨hr,c⟩,?_⟩;rcases d with d|d
     ·rcases m1 with m1|m1
      ·exact Or.inl (by omega)
      ·exact Or.inr (Or.inl (by omega))
     ·exact Or.inr (Or.inr d)
    ·rintro⟨a,b,⟨_,c⟩,d⟩;refine⟨a,b,c,?_⟩;rcases d with d|d|d
     ·exact Or.inl (by omega)
     ·exact Or.inl (by omega)
     ·exact Or.inr d
   ·refine fz (by rw[decide_eq_false hr];decide) (ky (Ev.now _) ?_);rw[decide_eq_false (fun k=>hr (k.2.2.1 _ (by rw[List.drop_eq_getElem_cons hi];exact List.mem_cons_self)))]
 refine ky (key 0 (Nat.zero_le _) 9 (by omega) (by omega)) (decide_eq_decide.2 ?_);rw[List.drop_zero];exact⟨fun⟨a,b,c,d⟩=>⟨a,b,c,d.resolve_left (by omega)⟩,fun⟨a,b,c,d⟩=>⟨a,b,c,Or.inr d⟩⟩
theorem pz {t:Int} {l:List Int} (h:lu t l=true):Ev (fun k=>gi.f k t l) (mu l):=by
 obtain⟨ht,hl,hx,_⟩:=jD.1 h;have h8:=(ni t).1;unfold gi.f
 have l2:∀(out:List Int) (w c:Nat) (r:Int) (res:List Int),∀v,v≤l.length→∀b:Bool,
   Ev (fun k=>gi.l1 k t l out (w:Int) (if(b=true∨r∈l.drop v)then wrap64 ((c:Int)+1)else(c:Int)) (wrap64 (r+1))) res→Ev (fun k=>gi.l2 k t l out (w:Int) (c:Int) r b (v:Int)) res:=by
  intro out w c r res;apply down (P:=fun v=>∀b:Bool,Ev (fun k=>gi.l1 k t l out (w:Int) (if(b=true∨r∈l.drop v)then wrap64 ((c:Int)+1)else(c:Int)) (wrap64 (r+1))) res→Ev (fun k=>gi.l2 k t l out (w:Int) (c:Int) r b (v:Int)) res)
  ·intro b hb;refine Ev.step (fun k=>rfl) (fz (by omega) ?_);rw[List.drop_length]at hb;cases b with
   |true=>rw[if_pos (Or.inl rfl)]at hb;exact fx rfl hb
   |false=>rw[if_neg (by simp)]at hb;exact fz (by decide) hb
  ·intro v hv ih b hb;refine Ev.step (fun k=>rfl) (fx (by omega) ?_);rw[List.drop_eq_getElem_cons hv]at hb;cases b with
   |true=>
    refine fx rfl ?_;rw[w1 hv (by omega)];refine ih true ?_;rw[if_pos (Or.inl rfl)]at hb⊢;exact hb
   |false=>
    refine fz (by decide) (fx (by omega) ?_);rw[mP hv,w1 hv (by omega)];refine ih _ ?_
    have:((l[v]==r)=true∨r∈l.drop (v+1))↔(false=true∨r∈l[v]::l.drop (v+1)):=by
     rw[List.mem_cons,beq_iff_eq];constructor
     ·rintro(h|h)
      ·exact Or.inr (Or.inl h.symm)
      ·exact Or.inr (Or.inr h)
     ·rintro(h|h|h)
      ·cases h
      ·exact Or.inl h.symm
      ·exact Or.inr h
    simp only[this];exact hb
 have l1:∀(out:List Int) (w:Nat) (hw:w<l.length) (res:List Int),out.length≤8→Ev (fun k=>gi.l0 k t l (out++ [(rW l l[w]:Int)]) ((w+1:Nat):Int)) res→
   ∀r,r≤(l[w]).toNat→Ev (fun k=>gi.l1 k t l out (w:Int) (nj l r:Int) (r:Int)) res:=by
  intro out w hw res ho hres;have hxw:=hx _ (List.getElem_mem hw);apply down
  ·refine Ev.step (fun k=>rfl) (fx (by omega) (fz (by rw[mP hw];omega) (fx (by omega) ?_)));rw[w1 hw (by omega)];exact hres
  ·intro r hr ih;refine Ev.step (fun k=>rfl) (fx (by omega) (fx (by rw[mP hw];omega) ?_));refine l2 out w (nj l r) (r:Int) res 0 (Nat.zero_le _) false ?_;have hc:=xS l r
   have e:(if(false=true∨(r:Int)∈l.drop 0)then wrap64 ((nj l r:Int)+1)else(nj l r:Int))=((nj l (r+1):Nat):Int):=by
    show _=((nj l r+(if(r:Int)∈l then 1 else 0):Nat):Int)
    rw[List.drop_zero];by_cases hm:(r:Int)∈l
    ·rw[if_pos (Or.inr hm),if_pos hm,oz (by omega) (by omega)];rfl
    ·rw[if_neg (by rintro(k|k);cases k;exact hm k),if_neg hm];rfl
   rw[e,oz (n:=(r:Int)+1) (by omega) (by omega)];exact ih
 have l0:∀w,w≤l.length→Ev (fun k=>gi.l0 k t l ((l.take w).map fun x=>(rW l x:Int)) (w:Int)) (mu l):=by
  apply down
  ·refine Ev.step (fun k=>rfl) (fz (by omega) (Ev.step (fun k=>rfl) ?_));simp only[gi.j1];refine fz (by decide) (ky (Ev.now _) ?_);rw[List.take_length];rfl
  ·intro w hw ih;have hr:=nW t (l:=l) (by omega);rw[h]at hr;refine Ev.step (fun k=>rfl) (fx (by omega) (Ev.bind hr (Ev.step (fun k=>rfl) ?_)));simp only[gi.j1];refine fx trivial (l1 _ w hw _ (by rw[List.length_map,List.length_take];omega) ?_ 0 (Nat.zero_le _));rw[List.take_succ_eq_append_getElem hw,List.map_append]at ih;exact ih
 exact l0 0 (Nat.zero_le _)
theorem pU (a:Int):kn.f a=some (decide (1≤a∧a≤3)):=by
 unfold kn.f;by_cases h:a≥1
 ·rw[if_pos h];congr 1;exact decide_eq_decide.2 ⟨fun k=>⟨h,k⟩,fun k=>k.2⟩
 ·rw[if_neg h];congr 1;symm;exact decide_eq_false (fun k=>h k.1)
theorem wo {l:List Int} {y:Int}:y∈l↔∃p,p<l.length∧l.getD p 0=y:=by
 rw[List.mem_iff_getElem];constructor
 ·rintro⟨p,hp,rfl⟩;exact⟨p,hp,by simp[hp]⟩
 ·rintro⟨p,hp,rfl⟩;exact⟨p,hp,by simp[hp]⟩
def Dz (l:List Int) (i:Nat):Prop:=∀p q,p<q→q<i→l.getD p 0≤l.getD q 0
theorem BZ {l:List Int} (h:0<l.length) (hn:l.length≤9223372036854775807):∃r,Ev (fun k=>iL.f k l) r∧r∈l∧∀y∈l,r≤y:=by
 unfold iL.f
 have key:∀i,i≤l.length→∀m:Int,∃r,Ev (fun k=>iL.l0 k l m (i:Int)) r∧(r=m∨r∈l.drop i)∧r≤m∧∀y∈l.drop i,r≤y:=by
  apply down
  ·intro m;exact⟨m,Ev.step (fun k=>rfl) (fz (by omega) (Ev.now _)),Or.inl rfl,Int.le_refl _,fun y hy=>by rw[List.drop_length]at hy;simp at hy⟩
  ·intro i hi ih m;obtain⟨r,h1,h2,h3,h4⟩:=ih (mn m l[i]);obtain⟨m1,m2,m3⟩:=rA m l[i];refine⟨r,Ev.step (fun k=>rfl) (fx (by omega) (fx (by omega) (by rw[mP hi,w1 hi hn];exact h1))),?_,by omega,?_⟩
   ·rw[List.drop_eq_getElem_cons hi,List.mem_cons];rcases h2 with h2|h2
    ·rcases m1 with m1|m1
     ·exact Or.inl (by omega)
     ·exact Or.inr (Or.inl (by omega))
    ·exact Or.inr (Or.inr h2)
   ·rw[List.drop_eq_getElem_cons hi];intro y hy;rcases List.mem_cons.1 hy with rfl|hy
    ·omega
    ·exact h4 y hy
 obtain⟨r,h1,h2,h3,h4⟩:=key 1 h (l[0]);have e:rd l 0=l[0]:=mP (i:=0) h;have hd:l=l[0]::l.drop 1:=by have:=List.drop_eq_getElem_cons h;rw[List.drop_zero]at this;exact this
 refine⟨r,fz (by omega) (fx (by omega) (by rw[e];exact h1)),?_,fun y hy=>?_⟩
 ·rcases h2 with h2|h2
  ·rw[h2];exact List.getElem_mem h
  ·exact List.mem_of_mem_drop h2
 ·rw[hd]at hy;rcases List.mem_cons.1 hy with rfl|hy
  ·exact h3
  ·exact h4 y hy
theorem Ca {l:List Int} (h:0<l.length) (hn:l.length≤9223372036854775807):∃r,Ev (fun k=>iQ.f k l) r∧r∈l∧∀y∈l,y≤r:=by
 unfold iQ.f
 have key:∀i,i≤l.length→∀m:Int,∃r,Ev (fun k=>iQ.l0 k l m (i:Int)) r∧(r=m∨r∈l.drop i)∧m≤r∧∀y∈l.drop i,y≤r:=by
  apply down
  ·intro m;exact⟨m,Ev.step (fun k=>rfl) (fz (by omega) (Ev.now _)),Or.inl rfl,Int.le_refl _,fun y hy=>by rw[List.drop_length]at hy;simp at hy⟩
  ·intro i hi ih m;obtain⟨r,h1,h2,h3,h4⟩:=ih (mx m l[i]);obtain⟨m1,m2,m3⟩:=zv m l[i];refine⟨r,Ev.step (fun k=>rfl) (fx (by omega) (fx (by omega) (by rw[mP hi,w1 hi hn];exact h1))),?_,by omega,?_⟩
   ·rw[List.drop_eq_getElem_cons hi,List.mem_cons];rcases h2 with h2|h2
    ·rcases m1 with m1|m1
     ·exact Or.inl (by omega)
     ·exact Or.inr (Or.inl (by omega))
    ·exact Or.inr (Or.inr h2)
   ·rw[List.drop_eq_getElem_cons hi];intro y hy;rcases List.mem_cons.1 hy with rfl|hy
    ·omega
    ·exact h4 y hy
 obtain⟨r,h1,h2,h3,h4⟩:=key 1 h (l[0]);have e:rd l 0=l[0]:=mP (i:=0) h;have hd:l=l[0]::l.drop 1:=by have:=List.drop_eq_getElem_cons h;rw[List.drop_zero]at this;exact this
 refine⟨r,fz (by omega) (fx (by omega) (by rw[e];exact h1)),?_,fun y hy=>?_⟩
 ·rcases h2 with h2|h2
  ·rw[h2];exact List.getElem_mem h
  ·exact List.mem_of_mem_drop h2
 ·rw[hd]at hy;rcases List.mem_cons.1 hy with rfl|hy
  ·exact h3
  ·exact h4 y hy
theorem uo (t:Int) {l:List Int} (hn:l.length≤9223372036854775807):Ev (fun k=>jG.f k t l) (lu t l):=by
 unfold jG.f;refine gZ (pU t) ?_;by_cases ht:1≤t∧t≤3
 ·refine fx (decide_eq_true ht) (fx (by omega) ?_);rw[qd ht];refine Ev.step (fun k=>rfl) ?_;simp only[jG.j0];by_cases hl:l.length=wn t
  ·refine fz (by rw[hl];simp) ?_;have h2:=(ni t).2;obtain⟨m,hm,hm1,hm2⟩:=BZ (l:=l) (by omega) hn;obtain⟨M,hM,hM1,hM2⟩:=Ca (l:=l) (by omega) hn;refine Ev.bind hm ?_;by_cases h0:m=0
   ·refine fx h0 (Ev.bind hM (ky (Ev.now _) (decide_eq_decide.2 ?_)));subst h0;constructor
    ·intro h9;exact⟨ht,hl,fun x hx=>⟨hm2 x hx,Int.le_trans (hM2 x hx) h9⟩,hm1⟩
    ·intro h;exact(h.2.2.1 M hM1).2
   ·refine fz h0 (ky (Ev.now _) ?_);unfold lu;rw[decide_eq_false];rintro⟨_,_,h1,h2⟩;have:=hm2 0 h2;have:=(h1 m hm1).1;omega
  ·refine fx (by rw[bne_iff_ne];omega) (ky (Ev.now _) ?_);unfold lu;rw[decide_eq_false (fun k=>hl k.2.1)]
 ·refine fz (by rw[decide_eq_false ht];decide) (Ev.step (fun k=>rfl) ?_);simp only[jG.j0];refine fx trivial (ky (Ev.now _) ?_);unfold lu;rw[decide_eq_false (fun k=>ht k.1)]
theorem AD {l:List Int} (hn:l.length≤8):∃r,Ev (fun _=>lH.f l) r∧Dz r r.length∧r.length=l.length∧∀y,y∈r↔y∈l:=by
 have hs:(l.mergeSort fun x y=>decide (x≤y)).Pairwise (fun a b=>decide (a≤b)=true):=List.pairwise_mergeSort (fun a b c h1 h2=>by simp only[decide_eq_true_eq]at*;omega) (fun a b=>by simp only[Bool.or_eq_true,decide_eq_true_eq];omega) l;have hp:=List.mergeSort_perm l fun x y=>decide (x≤y)
 refine⟨_,Bq (if_pos (by omega)),fun p q h1 h2=>?_,hp.length_eq,fun y=>hp.mem_iff⟩;have:=List.pairwise_iff_getElem.1 hs p q (by omega) h2 h1;rw[List.getD_eq_getElem?_getD,List.getD_eq_getElem?_getD,List.getElem?_eq_getElem h2,List.getElem?_eq_getElem (show p<(l.mergeSort fun x y=>decide (x≤y)).length by omega)];exact of_decide_eq_true this
theorem uQ {l:List Int} (hs:Dz l l.length):(Lib.compact l).Pairwise (·<·)∧∀y,y∈Lib.compact l↔y∈l:=by
 have hd:∀m,m<l.length→l.toArray[m]! =l.getD m 0:=fun m hm=>by simp[hm]
 have key:∀m,m≤l.length→(Lib.compactUpTo l.toArray m).Pairwise (·<·)∧(∀y∈Lib.compactUpTo l.toArray m,∃p,p<m∧l.getD p 0=y)∧∀p,p<m→l.getD p 0∈Lib.compactUpTo l.toArray m:=by
  intro m;induction m with
  |zero=>intro _;exact⟨List.Pairwise.nil,fun y hy=>by simp[Lib.compactUpTo]at hy,fun p hp=>by omega⟩
  |succ m ih=>
   intro hm;obtain⟨h1,h2,h3⟩:=ih (by omega);rw[Lib.compactUpTo_succ];by_cases hk:Lib.keeps l.toArray m=true
   ·rw[if_pos hk,hd m (by omega)];refine⟨List.pairwise_append.2 ⟨h1,List.pairwise_singleton _ _,fun y hy z hz=>?_⟩,fun y hy=>?_,fun p hp=>?_⟩
    ·rw[List.mem_singleton.1 hz];obtain⟨p,hp,rfl⟩:=h2 y hy;unfold Lib.keeps at hk;rw[decide_eq_true_iff]at hk;rcases hk with hk|hk
     ·omega
     ·rw[hd m (by omega),hd (m - 1) (by omega)]at hk;have a:=hs (m - 1) m (by omega) (by omega);by_cases e:p=m - 1
      ·rw[e];omega
      ·have:=hs p (m - 1) (by omega) (by omega);omega
    ·rcases List.mem_append.1 hy with hy|hy
     ·obtain⟨p,hp,e⟩:=h2 y hy;exact⟨p,by omega,e⟩
     ·exact⟨m,by omega,(List.mem_singleton.1 hy).symm⟩
    ·rw[List.mem_append];by_cases e:p=m
     ·rw[e];exact Or.inr (List.mem_singleton.2 rfl)
     ·exact Or.inl (h3 p (by omega))
   ·rw[if_neg hk,List.append_nil];refine⟨h1,fun y hy=>by obtain⟨p,hp,e⟩:=h2 y hy;exact⟨p,by omega,e⟩,fun p hp=>?_⟩;by_cases e:p=m
    ·unfold Lib.keeps at hk;rw[decide_eq_true_iff]at hk
     have hk2:l.toArray[m]! =l.toArray[m - 1]! :=by
      by_cases q:l.toArray[m]! =l.toArray[m - 1]!
      ·exact q
      ·exact absurd (Or.inr q) hk
     have hm0:m≠0:=fun q=>hk (Or.inl q)
     rw[hd m (by omega),hd (m - 1) (by omega)]at hk2;rw[e,hk2];exact h3 (m - 1) (by omega)
    ·exact h3 p (by omega)
 obtain⟨h1,h2,h3⟩:=key l.length (Nat.le_refl _);refine⟨h1,fun y=>?_⟩;rw[wo (l:=l)]
 show y∈Lib.compactUpTo l.toArray l.length↔_
 constructor
 ·intro hy;obtain⟨p,hp,e⟩:=h2 y hy;exact⟨p,hp,e⟩
 ·rintro⟨p,hp,rfl⟩;exact h3 p hp
theorem zw {c:List Int} (hc:c.Pairwise (·<·)) (h0:∀x∈c,0≤x) (hn:c.length≤100) {x:Int} (hx:x∈c):Ev (fun k=>iD.f k c x) (rW c x:Int):=by
 unfold iD.f;obtain⟨p,hp,rfl⟩:=List.mem_iff_getElem.1 hx;rw[AB hc h0 hp];have hget:=List.pairwise_iff_getElem.1 hc
 have key:∀i,i≤p→Ev (fun k=>iD.l0 k c c[p] (c.length:Int) (i:Int)) (p:Int):=by
  apply down
  ·exact Ev.step (fun k=>rfl) (fx (by omega) (fx (by omega) (fx (by omega) (fx (mP hp).symm (Ev.now _)))))
  ·intro i hi ih;have hne:¬c[p]=rd c (i:Int):=by rw[mP (by omega)];have:=hget i p (by omega) hp hi;omega
   refine Ev.step (fun k=>rfl) (fx (by omega) (fx (by omega) (fx (by omega) (fz hne ?_))));rw[w1 (n:=c.length) (by omega) (by omega)];exact ih
 exact key 0 (Nat.zero_le _)
theorem xT {l:List Int} (hn:l.length≤8) (h0:∀x∈l,0≤x):Ev (fun k=>kr.f k l) (mu l):=by
 unfold kr.f;obtain⟨r,h1,h2,h3,h4⟩:=AD hn;obtain⟨c1,c2⟩:=uQ h2;have hcl:=kK.len r;refine gZ rfl (fx (by show 0+l.length<_;omega) ?_);rw[List.nil_append];refine Ev.bind h1 (gZ rfl ?_);obtain⟨c,ec⟩:∃c,c=Lib.compact r:=⟨_,rfl⟩;rw[←ec]at c1 c2 hcl⊢;have hcm:∀y,y∈c↔y∈l:=fun y=>(c2 y).trans (h4 y)
 have key:∀i,i≤l.length→Ev (fun k=>kr.l0 k c ((l.take i).map fun x=>(rW l x:Int)) l (l.length:Int) (i:Int)) (mu l):=by
  apply down
  ·refine Ev.step (fun k=>rfl) (fz (by omega) (ky (Ev.now _) ?_));rw[List.take_length];rfl
  ·intro i hi ih;have hx:=zw c1 (fun x hx=>h0 x ((hcm x).1 hx)) (by omega) ((hcm l[i]).2 (List.getElem_mem hi));rw[yw hcm]at hx;refine Ev.step (fun k=>rfl) (fx (by omega) (fx (by omega) (fx (by omega) ?_)));rw[mP hi];refine Ev.bind hx (fx (by rw[List.length_map,List.length_take];omega) ?_);rw[w1 hi (by omega)];rw[List.take_succ_eq_append_getElem hi,List.map_append]at ih;exact ih
 exact key 0 (Nat.zero_le _)
theorem wq {l m:List Int} (hn:l.length≤9223372036854775807):Ev (fun k=>ie.f k l m) (decide (l=m)):=by
 unfold ie.f;by_cases hl:l.length=m.length
 ·refine fx (by omega) ?_
  have key:∀i,i≤l.length→Ev (fun k=>ie.l0 k l m (l.length:Int) (i:Int)) (decide (l.drop i=m.drop i)):=by
   apply down
   ·refine Ev.step (fun k=>rfl) (fz (by omega) (ky (Ev.now _) ?_));rw[List.drop_length,List.drop_of_length_le (by omega)];exact(decide_eq_true rfl).symm
   ·intro i hi ih;refine Ev.step (fun k=>rfl) (fx (by omega) (fx (by omega) (fx (by omega) (fx (by omega) ?_))));rw[mP hi,mP (by omega),List.drop_eq_getElem_cons hi,List.drop_eq_getElem_cons (l:=m) (by omega)];by_cases e:l[i]=m[i]
    ·refine fx e ?_;rw[w1 hi hn];refine ky ih (decide_eq_decide.2 ?_);rw[List.cons.injEq];exact⟨fun h=>⟨e,h⟩,fun h=>h.2⟩
    ·refine fz e (ky (Ev.now _) ?_);rw[decide_eq_false (fun h=>e (List.cons.inj h).1)]
  have:=key 0 (Nat.zero_le _);rw[List.drop_zero,List.drop_zero]at this;exact this
 ·refine fz (by omega) (ky (Ev.now _) ?_);rw[decide_eq_false (fun h=>hl (by rw[h]))]
def all (t:Int):Nat:=if t=1 then 3 else if t=2 then 15 else 255
theorem pV (t:Int):all t<256:=by unfold all;split<;>(try split)<;>omega
theorem qe {t:Int} (h:1≤t∧t≤3):kG.f t=some (all t:Int):=by
 rcases three h with rfl|rfl|rfl<;>decide+kernel
theorem nP {t:Int} (h:1≤t∧t≤3):kv.f t=some (all t:Int):=by
 rcases three h with rfl|rfl|rfl<;>decide+kernel
def zx (t s:Int):Bool:=decide ((1≤t∧t≤3)∧0≤s∧s≤all t)
theorem oM (s w:Nat) (h:w≤62):jM.f (s:Int) (w:Int)=some ((bi s w:Nat):Int):=by
 unfold jM.f;rw[if_pos (by omega),Aw s w h]
theorem Cb (a b i:Nat):bi a i*bi b i=bi (a&&& b) i:=by
 rw[rK,rK,rK,Nat.testBit_and];cases a.testBit i<;>cases b.testBit i<;>rfl
theorem Br (a i:Nat):bi a i≤1:=by
 have:bi a i<2:=Nat.mod_lt _ (by decide);omega
theorem qx {a b:Nat} (ha:a<256):Ev (fun k=>jB.f k (a:Int) (b:Int)) ((a&&& b:Nat):Int):=by
 unfold jB.f
 have key:∀(i:Nat),i≤8→Ev (fun k=>jB.l0 k (a:Int) (b:Int) (((a&&& b)%2^i:Nat):Int) (i:Int)) ((a&&& b:Nat):Int):=by
  apply down
  ·refine Ev.step (fun k=>rfl) (fz (by omega) (ky (Ev.now _) ?_));have:a&&& b<2^8:=Nat.lt_of_le_of_lt Nat.and_le_left ha;rw[Nat.mod_eq_of_lt this]
  ·intro i hi ih;refine Ev.step (fun k=>rfl) (fx (by omega) (gZ (oM a i (by omega)) (gZ (oM b i (by omega)) (fx (by omega) ?_))));have hp:(2:Nat)^i≤2^7:=Nat.pow_le_pow_right (by decide) (by omega);have hm:(a&&& b)%2^i<2^i:=Nat.mod_lt _ (Nat.two_pow_pos i);have hle:=Br (a&&& b) i
   have e1:wrap64 (((bi a i:Nat):Int)*((bi b i:Nat):Int))=((bi (a&&& b) i:Nat):Int):=by
    rw[←Int.natCast_mul,Cb];exact oz (by omega) (by omega)
   have hmul:2^i*bi (a&&& b) i≤2^7:=by
    have:=Nat.mul_le_mul hp hle;omega
   have e2:wrap64 ((((a&&& b)%2^i:Nat):Int)+shl .i64 ((bi (a&&& b) i:Nat):Int) (i:Int))=(((a&&& b)%2^(i+1):Nat):Int):=by
    rw[EH _ i (by omega),←Int.natCast_mul,Nat.mul_comm,AA];generalize 2^i*bi (a&&& b) i=z at hmul;generalize(a&&& b)%2^i=y at hm;generalize 2^i=p at hp hm;rw[oz (n:=((z:Nat):Int)) (by omega) (by omega),oz (by omega) (by omega)];omega
   rw[e1,e2,w1 hi (by omega)];exact ih
 have:=key 0 (Nat.zero_le _);simpa [Nat.mod_one] using this
theorem xU {S i:Nat} (h:S<2^i):S+2^i=S|||2^i:=by
 have:=Nat.two_pow_add_eq_or_of_lt h 1;rw[Nat.mul_one]at this;rw[Nat.add_comm,this,Nat.or_comm]
theorem xV {S i:Nat} (h:S<2^i) (j:Nat):(S+2^i).testBit j=(S.testBit j||decide (i=j)):=by
 rw[xU h,Nat.testBit_or,Nat.testBit_two_pow]
theorem qy {p:Int→Option Bool} {q:Nat→Bool}:∀(n x s:Nat),x+n≤8→s<2^x→(∀y:Nat,y<x+n→p (y:Int)=some (q y))→
  ∃r:Nat,jb.l p n (x:Int) (s:Int)=some (r:Int)∧r<2^(x+n)∧∀w,r.testBit w=true↔s.testBit w=true∨(x≤w∧w<x+n∧q w=true)
 |0,x,s,_,hs,_=>⟨s,rfl,hs,fun w=>⟨Or.inl,fun h=>h.resolve_right fun k=>by omega⟩⟩
 |n+1,x,s,h8,hs,hp=>by
  have hx:2^x≤2^7:=Nat.pow_le_pow_right (by decide) (by omega)
  have hx2:2^(x+1)=2^x+2^x:=by rw[Nat.pow_succ];omega
  have hcast:(x:Int)+1=((x+1:Nat):Int):=by omega
  by_cases hq:q x=true
  ·obtain⟨r,h1,h2,h3⟩:=qy n (x+1) (s+2^x) (by omega) (by omega) (fun y hy=>hp y (by omega))
   refine⟨r,?_,by rw[show x+(n+1)=x+1+n from by omega];exact h2,fun w=>?_⟩
   ·show((p (x:Int)).bind fun b=>_)=_
    rw[hp x (by omega),Option.bind_some,hq,if_pos rfl,Av x (by omega),Dy _ _ (by omega) (by omega),←xU hs,hcast]
    exact h1
   ·rw[h3,xV hs,Bool.or_eq_true,decide_eq_true_iff]
    constructor
    ·rintro((k|rfl)|k)
     ·exact Or.inl k
     ·exact Or.inr ⟨by omega,by omega,hq⟩
     ·exact Or.inr ⟨by omega,by omega,k.2.2⟩
    ·rintro(k|⟨k1,k2,k3⟩)
     ·exact Or.inl (Or.inl k)
     ·by_cases e:x=w
      ·exact Or.inl (Or.inr e)
      ·exact Or.inr ⟨by omega,by omega,k3⟩
  ·obtain⟨r,h1,h2,h3⟩:=qy n (x+1) s (by omega) (by omega) (fun y hy=>hp y (by omega))
   refine⟨r,?_,by rw[show x+(n+1)=x+1+n from by omega];exact h2,fun w=>?_⟩
   ·show((p (x:Int)).bind fun b=>_)=_
    rw[hp x (by omega),Option.bind_some,if_neg hq,hcast]
    exact h1
   ·rw[h3]
    constructor
    ·rintro(k|k)
     ·exact Or.inl k
     ·exact Or.inr ⟨by omega,by omega,k.2.2⟩
    ·rintro(k|⟨k1,k2,k3⟩)
     ·exact Or.inl k
     ·by_cases e:x=w
      ·rw[←e]at k3;exact absurd k3 hq
      ·exact Or.inr ⟨by omega,by omega,k3⟩
def ng (l:List Int) (s:Nat):Nat→Nat→Int→Int
 |0,_,m=>m
 |d+1,i,m=>ng l s d (i+1) (if s.testBit i=true then mn m (l.getD i 0)else m)
def leastOf (l:List Int) (s:Nat):Int:=ng l s l.length 0 10
def uR (q:Nat→Bool):Nat→Nat
 |0=>0
 |n+1=>uR q n+(if q n=true then 2^n else 0)
theorem rB (q:Nat→Bool):∀n,uR q n<2^n
 |0=>Nat.one_pos
 |n+1=>by
  have h:=rB q n
  unfold uR
  rw[Nat.pow_succ]
  split<;>omega
theorem tv (q:Nat→Bool) (w:Nat):∀n,(uR q n).testBit w=(decide (w<n)&&q w)
 |0=>by simp[uR]
 |n+1=>by
  have h:=tv q w n
  unfold uR
  by_cases hq:q n=true
  ·rw[if_pos hq,xV (rB q n),h]
   by_cases e:n=w
   ·subst e;simp[hq]
   ·rw[decide_eq_false e,Bool.or_false]
    congr 1
    exact decide_eq_decide.2 (by omega)
  ·rw[if_neg hq,Nat.add_zero,h]
   by_cases e:n=w
   ·subst e
    have:q n=false:=by simpa using hq
    simp[this]
   ·congr 1
    exact decide_eq_decide.2 (by omega)
def kz (l:List Int) (s:Nat):Nat:=uR (fun w=>s.testBit w&&decide (l.getD w 0=leastOf l s)) l.length
theorem pW (l:List Int) (s:Nat) (h:∀x∈l,0≤x):∀(d i:Nat) (m:Int),0≤m→m≤10→0≤ng l s d i m∧ng l s d i m≤10
 |0,_,m,h0,h1=>⟨h0,h1⟩
 |d+1,i,m,h0,h1=>by
  unfold ng
  have hg:0≤l.getD i 0:=by
   by_cases hi:i<l.length
   ·rw[List.getD_eq_getElem?_getD,List.getElem?_eq_getElem hi];exact h _ (List.getElem_mem hi)
   ·rw[List.getD_eq_getElem?_getD,List.getElem?_eq_none (by omega)];exact Int.le_refl _
  obtain⟨a,b,c⟩:=rA m (l.getD i 0);split
  ·exact pW l s h d (i+1) _ (by omega) (by omega)
  ·exact pW l s h d (i+1) _ h0 h1
theorem rX {l:List Int} (hn:l.length≤60) {s:Nat} (hs:s<256):Ev (fun k=>iI.f k l (s:Int)) (leastOf l s):=by
 unfold iI.f leastOf
 have key:∀i,i≤l.length→∀m:Int,Ev (fun k=>iI.l0 k (s:Int) m l (l.length:Int) (i:Int)) (ng l s (l.length - i) i m):=by
  apply down
  ·intro m;rw[Nat.sub_self];exact Ev.step (fun k=>rfl) (fz (by omega) (Ev.now _))
  ·intro i hi ih m;rw[show l.length - i=(l.length - (i+1))+1 from by omega];unfold ng;refine Ev.step (fun k=>rfl) (fx (by omega) (fx (by omega) (fx (by omega) ?_)));rw[uP s i (by omega) (by omega),w1 hi (by omega),qw];by_cases hb:s.testBit i=true
   ·rw[if_pos hb];exact fx (ox.2 hb) (ih _)
   ·rw[if_neg hb];exact fz (fun k=>hb (ox.1 k)) (ih _)
 exact key 0 (Nat.zero_le _) 10
theorem oN {t:Int} (ht:1≤t∧t≤3) {l:List Int} (hl:l.length=wn t) {s:Nat} (hs:s<2^wn t):Ev (fun k=>iO.f k t l (s:Int)) ((kz l s:Nat):Int):=by
 have h8:=(ni t).1;have hs8:s<256:=Nat.lt_of_lt_of_le hs (Nat.pow_le_pow_right (n:=2) (by decide) h8);unfold iO.f;refine Ev.bind (rX (by omega) hs8) ?_
 have hp:∀y:Nat,y<0+wn t→iO.p l (leastOf l s) (y:Int)=some (decide (l.getD y 0=leastOf l s)):=by
  intro y hy;unfold iO.p;rw[if_pos (by omega),if_pos (by omega),qw]
 obtain⟨r,h1,h2,h3⟩:=qy (p:=iO.p l (leastOf l s)) (q:=fun y=>decide (l.getD y 0=leastOf l s)) (wn t) 0 0 (by omega) Nat.one_pos hp
 have hf:jb.f (iO.p l (leastOf l s)) t=some (r:Int):=by
  unfold jb.f;rw[if_pos (by omega),if_pos (by omega),show 2^t.toNat=wn t from by rcases three ht with rfl|rfl|rfl<;>rfl];exact h1
 refine gZ hf (ky (Ev.now _) ?_);rw[Nat.zero_add]at h2;have FN:r<256:=Nat.lt_of_lt_of_le h2 (Nat.pow_le_pow_right (n:=2) (by decide) (by omega));rw[band s r (Nat.lt_trans hs8 (by decide)) (Nat.lt_trans FN (by decide))];congr 1;apply Nat.eq_of_testBit_eq;intro w;unfold kz;rw[Nat.testBit_and,tv,hl];have hb:=h3 w;rw[Nat.zero_testBit]at hb;by_cases hw:w<wn t
 ·rw[decide_eq_true hw,Bool.true_and];congr 1;rw[Bool.eq_iff_iff,hb];constructor
  ·rintro(k|k)
   ·cases k
   ·exact k.2.2
  ·intro k;exact Or.inr ⟨Nat.zero_le _,by omega,k⟩
 ·have hf:r.testBit w=false:=by
   rw[Bool.eq_false_iff];intro k;rcases hb.1 k with k|k
   ·cases k
   ·omega
  rw[decide_eq_false hw,hf,Bool.and_false,Bool.false_and]
theorem nX {l:List Int} (hn:l.length≤8) (s:Nat):Ev (fun k=>iy.f k l (s:Int)) ((kz l s:Nat):Int):=by
 unfold iy.f
 have two:∀i,i≤l.length→Ev (fun k=>iy.l1 k l (s:Int) (leastOf l s) ((uR (fun w=>s.testBit w&&decide (l.getD w 0=leastOf l s)) i:Nat):Int) (i:Int)) ((kz l s:Nat):Int):=by
  apply down
  ·exact Ev.step (fun k=>rfl) (fz (by omega) (Ev.now _))
  ·intro i hi ih;have hb:=rB (fun w=>s.testBit w&&decide (l.getD w 0=leastOf l s)) i;have hp:2^i≤2^7:=Nat.pow_le_pow_right (by decide) (by omega);refine Ev.step (fun k=>rfl) (fx (by omega) (gZ (oM s i (by omega)) ?_));rw[w1 hi (by omega)];unfold uR at ih;by_cases hbit:s.testBit i=true
   ·refine fx (ox.2 hbit) (fx (by omega) ?_);rw[qw];by_cases he:l.getD i 0=leastOf l s
    ·refine fx he ?_;rw[Av i (by omega),oz (by omega) (by omega)];rw[if_pos (by rw[hbit,decide_eq_true he];rfl)]at ih;exact ih
    ·refine fz he ?_;rw[if_neg (by rw[decide_eq_false he,Bool.and_false];decide)]at ih;exact ih
   ·refine fz (fun k=>hbit (ox.1 k)) ?_;rw[if_neg (by simp[hbit])]at ih;exact ih
 have one:∀i,i≤l.length→∀m:Int,ng l s (l.length - i) i m=leastOf l s→Ev (fun k=>iy.l0 k l (s:Int) m (i:Int)) ((kz l s:Nat):Int):=by
  apply down
  ·intro m hm;rw[Nat.sub_self]at hm;have:m=leastOf l s:=hm;rw[this];exact Ev.step (fun k=>rfl) (fz (by omega) (two 0 (Nat.zero_le _)))
  ·intro i hi ih m hm;rw[show l.length - i=(l.length - (i+1))+1 from by omega]at hm;unfold ng at hm;refine Ev.step (fun k=>rfl) (fx (by omega) (gZ (oM s i (by omega)) ?_));rw[w1 hi (by omega)];by_cases hbit:s.testBit i=true
   ·refine fx (ox.2 hbit) (fx (by omega) ?_);rw[qw];rw[if_pos hbit]at hm;exact ih _ hm
   ·refine fz (fun k=>hbit (ox.1 k)) ?_;rw[if_neg hbit]at hm;exact ih _ hm
 exact one 0 (Nat.zero_le _) 10 rfl
def raise (l:List Int) (F:Nat):List Int:=l.mapIdx fun w r=>if F.testBit w=true then r else r+10
theorem mF (l:List Int) (F:Nat):(raise l F).length=l.length:=List.length_mapIdx
theorem raise_at (l:List Int) (F:Nat) {i:Nat} (h:i<l.length):(raise l F)[i]'(by rw[mF];exact h)=if F.testBit i=true then l[i]else l[i]+10:=by
 unfold raise;rw[List.getElem_mapIdx]
theorem qz {l:List Int} {F:Nat} {y:Int} (h:y∈raise l F):∃x∈l,y=x∨y=x+10:=by
 obtain⟨i,hi,rfl⟩:=List.mem_iff_getElem.1 h;rw[mF]at hi;rw[raise_at l F hi];refine⟨l[i],List.getElem_mem hi,?_⟩;split
 ·exact Or.inl rfl
 ·exact Or.inr rfl
def tY (l:List Int) (way:Int) (s:Nat):List Int:=mu (raise l (if way=0 then kz l s else s))
theorem wu {l:List Int} (hn:l.length≤8) (s:Nat):kz l s<256:=Nat.lt_of_lt_of_le (rB _ _) (Nat.pow_le_pow_right (n:=2) (by decide) hn)
theorem wY {t:Int} (ht:1≤t∧t≤3) {l:List Int} (hl:l.length=wn t) (hx:∀x∈l,0≤x∧x≤9) {s:Nat} (hs:s<2^wn t) (way:Int):Ev (fun k=>iv.f k t l way (s:Int)) (tY l way s):=by
 have h8:=(ni t).1;have hs8:s<256:=Nat.lt_of_lt_of_le hs (Nat.pow_le_pow_right (n:=2) (by decide) h8)
 have go:∀F:Nat,F<256→Ev (fun k=>iv.j0 k l (F:Int)) (mu (raise l F)):=by
  intro F hF;have EI:=xT (l:=raise l F) (by rw[mF];omega) (fun y hy=>by obtain⟨x,h1,h2⟩:=qz hy;have:=hx x h1;omega)
  have key:∀i,i≤l.length→Ev (fun k=>iv.l0 k (F:Int) ((raise l F).take i) l (l.length:Int) (i:Int)) (mu (raise l F)):=by
   apply down
   ·refine Ev.step (fun k=>rfl) (fz (by omega) ?_);rw[List.take_of_length_le (by rw[mF];omega)];exact Ev.bind EI (Ev.now _)
   ·intro i hi ih;have hi2:i<(raise l F).length:=by rw[mF];exact hi
    have hlen:((raise l F).take i).length<17592186044416:=by rw[List.length_take];omega
    have hxi:=hx _ (List.getElem_mem hi);rw[List.take_succ_eq_append_getElem hi2,raise_at l F hi]at ih;refine Ev.step (fun k=>rfl) (fx (by omega) (fx (by omega) (fx (by omega) ?_)));rw[uP F i (by omega) (by omega),w1 hi (by omega),mP hi];by_cases hb:F.testBit i=true
    ·rw[if_pos hb]at ih;exact fz (fun k=>by rw[xR.1 k]at hb;cases hb) (fx hlen ih)
    ·rw[if_neg hb]at ih;refine fx (xR.2 (by simpa using hb)) (fx hlen ?_);rw[oz (by omega) (by omega)];exact ih
  exact Ev.step (f:=fun k=>iv.l0 k (F:Int) (([]:List Int)) l (l.length:Int) 0) (fun k=>rfl) (key 0 (Nat.zero_le _))
 unfold iv.f tY;by_cases hw:way=0
 ·rw[if_pos hw];exact fx hw (Ev.bind (oN ht hl hs) (go _ (wu (by omega) s)))
 ·rw[if_neg hw];exact fz hw (go s hs8)
theorem yx {l:List Int} (hn:l.length≤8) (h0:∀x∈l,0≤x):Ev (fun k=>iz.f k l) (mu l):=by
 unfold iz.f
 have three_:∀(out:List Int) (w:Nat) (seen:List Int) (v:Nat) (hv:v<l.length) (res:List Int),seen.length≤100→∀j,j≤seen.length→∀b:Bool,
   Ev (fun k=>iz.l1 k l out (w:Int) (if b=true∨l[v]∈seen.drop j then seen else seen++ [l[v]]) ((v+1:Nat):Int)) res→Ev (fun k=>iz.l2 k l out (w:Int) seen (v:Int) b (j:Int)) res:=by
  intro out w seen v hv res hs;apply down (P:=fun j=>∀b:Bool,Ev (fun k=>iz.l1 k l out (w:Int) (if b=true∨l[v]∈seen.drop j then seen else seen++ [l[v]]) ((v+1:Nat):Int)) res→Ev (fun k=>iz.l2 k l out (w:Int) seen (v:Int) b (j:Int)) res)
  ·intro b hb;refine Ev.step (fun k=>rfl) (fz (by omega) ?_);rw[List.drop_length]at hb;cases b with
   |true=>
    refine fx rfl ?_;rw[w1 hv (by omega)];rw[if_pos (Or.inl rfl)]at hb;exact hb
   |false=>
    refine fz (by decide) (fx (by omega) (fx (by omega) (fx (by omega) ?_)));rw[w1 hv (by omega),mP hv];rw[if_neg (by simp)]at hb;exact hb
  ·intro j hj ih b hb;rw[List.drop_eq_getElem_cons hj]at hb;refine Ev.step (fun k=>rfl) (fx (by omega) ?_);cases b with
   |true=>
    refine fx rfl ?_;rw[w1 hj (by omega)];refine ih true ?_;rw[if_pos (Or.inl rfl)]at hb⊢;exact hb
   |false=>
    refine fz (by decide) (fx (by omega) (fx (by omega) (fx (by omega) ?_)));rw[w1 hj (by omega),mP hj,mP hv];refine ih _ ?_
    have:((seen[j]==l[v])=true∨l[v]∈seen.drop (j+1))↔(false=true∨l[v]∈seen[j]::seen.drop (j+1)):=by
     rw[List.mem_cons,beq_iff_eq];constructor
     ·rintro(h|h)
      ·exact Or.inr (Or.inl h.symm)
      ·exact Or.inr (Or.inr h)
     ·rintro(h|h|h)
      ·cases h
      ·exact Or.inl h.symm
      ·exact Or.inr h
    simp only[this];exact hb
 have two:∀(out:List Int) (w:Nat) (hw:w<l.length) (res:List Int),out.length≤100→Ev (fun k=>iz.l0 k l (out++ [(rW l l[w]:Int)]) ((w+1:Nat):Int)) res→
   ∀v,v≤l.length→∀seen:List Int,seen.Nodup→seen.length≤v→(∀y,y∈seen↔y∈l.take v∧y<l[w])→Ev (fun k=>iz.l1 k l out (w:Int) seen (v:Int)) res:=by
  intro out w hw res ho hres;have hw0:=h0 _ (List.getElem_mem hw);apply down
  ·intro seen hd _ hm;refine Ev.step (fun k=>rfl) (fz (by omega) (fx (by omega) ?_));rw[w1 hw (by omega)]
   have e:seen.length=rW l l[w]:=qv _ seen hd (fun y=>by
    rw[hm y,List.take_length];constructor
    ·rintro⟨a,b⟩;exact⟨a,h0 y a,by omega⟩
    ·rintro⟨a,b,c⟩;exact⟨a,by omega⟩)
   rw[e];exact hres
  ·intro v hv ih seen hd hsl hm;have hv0:=h0 _ (List.getElem_mem hv);refine Ev.step (fun k=>rfl) (fx (by omega) (fx (by omega) (fx (by omega) (fx (by omega) ?_))));rw[mP hv,mP hw];refine three_ out w seen v hv res (by omega) 0 (Nat.zero_le _) _ ?_;rw[List.drop_zero];have hmem:∀y,y∈l.take (v+1)↔y∈l.take v∨y=l[v]:=fun y=>by rw[List.take_succ_eq_append_getElem hv,List.mem_append,List.mem_singleton]
   by_cases hc:decide (l[v]≥l[w])=true∨l[v]∈seen
   ·rw[if_pos hc];refine ih seen hd (by omega) (fun y=>?_);rw[hm y,hmem y];constructor
    ·rintro⟨a,b⟩;exact⟨Or.inl a,b⟩
    ·rintro⟨a|a,b⟩
     ·exact⟨a,b⟩
     ·rcases hc with hc|hc
      ·have:=of_decide_eq_true hc;omega
      ·have:=(hm _).1 hc;rw[a];exact⟨this.1,by omega⟩
   ·rw[if_neg hc];have h1:¬l[v]≥l[w]:=fun k=>hc (Or.inl (decide_eq_true k))
    have h2:l[v]∉seen:=fun k=>hc (Or.inr k)
    refine ih (seen++ [l[v]]) ?_ (by rw[List.length_append,List.length_singleton];omega) (fun y=>?_)
    ·rw[List.nodup_append];refine⟨hd,by simp,fun a ha b hb=>?_⟩;rw[List.mem_singleton.1 hb];intro e;exact h2 (e▸ha)
    ·rw[List.mem_append,List.mem_singleton,hm y,hmem y];constructor
     ·rintro(⟨a,b⟩|a)
      ·exact⟨Or.inl a,b⟩
      ·exact⟨Or.inr a,by omega⟩
     ·rintro⟨a|a,b⟩
      ·exact Or.inl ⟨a,b⟩
      ·exact Or.inr a
 have one:∀w,w≤l.length→Ev (fun k=>iz.l0 k l ((l.take w).map fun x=>(rW l x:Int)) (w:Int)) (mu l):=by
  apply down
  ·refine Ev.step (fun k=>rfl) (fz (by omega) (ky (Ev.now _) ?_));rw[List.take_length];rfl
  ·intro w hw ih;rw[List.take_succ_eq_append_getElem hw,List.map_append]at ih;exact Ev.step (fun k=>rfl) (fx (by omega) (two _ w hw _ (by rw[List.length_map,List.length_take];omega) ih 0 (Nat.zero_le _) [] List.nodup_nil (Nat.le_refl _) (fun y=>by simp)))
 exact one 0 (Nat.zero_le _)
theorem ur {l:List Int} (hn:l.length≤8) (hx:∀x∈l,0≤x∧x≤9) (F:Nat):Ev (fun k=>je.f k l (F:Int)) (mu (raise l F)):=by
 unfold je.f;have EI:=yx (l:=raise l F) (by rw[mF];omega) (fun y hy=>by obtain⟨x,h1,h2⟩:=qz hy;have:=hx x h1;omega)
 have key:∀i,i≤l.length→Ev (fun k=>je.l0 k l (F:Int) ((raise l F).take i) (i:Int)) (mu (raise l F)):=by
  apply down
  ·refine Ev.step (fun k=>rfl) (fz (by omega) ?_);rw[List.take_of_length_le (by rw[mF];omega)];exact Ev.bind EI (Ev.now _)
  ·intro i hi ih;have hi2:i<(raise l F).length:=by rw[mF];exact hi
   have hlen:((raise l F).take i).length<17592186044416:=by rw[List.length_take];omega
   have hxi:=hx _ (List.getElem_mem hi);rw[List.take_succ_eq_append_getElem hi2,raise_at l F hi]at ih;refine Ev.step (fun k=>rfl) (fx (by omega) (fx (by omega) (gZ (oM F i (by omega)) (fx hlen ?_))));rw[w1 hi (by omega),mP hi,rK];by_cases hb:F.testBit i=true
   ·rw[if_pos hb]at ih⊢;rw[show wrap64 (l[i]+wrap64 (wrap64 (1 - ((1:Nat):Int))*10))=l[i] from by rw[oz (n:=1 - ((1:Nat):Int)) (by omega) (by omega),oz (n:=(1 - ((1:Nat):Int))*10) (by omega) (by omega),oz (by omega) (by omega)];omega];exact ih
   ·rw[if_neg hb]at ih⊢;rw[show wrap64 (l[i]+wrap64 (wrap64 (1 - ((0:Nat):Int))*10))=l[i]+10 from by rw[oz (n:=1 - ((0:Nat):Int)) (by omega) (by omega),oz (n:=(1 - ((0:Nat):Int))*10) (by omega) (by omega),oz (by omega) (by omega)];omega];exact ih
 exact key 0 (Nat.zero_le _)
def uc (c:Nat):Nat→Nat
 |0=>0
 |w+1=>uc c w+2^w*bi w c
theorem xW (c:Nat):∀w,uc c w<2^w
 |0=>Nat.one_pos
 |w+1=>by
  have h:=xW c w
  have hb:bi w c≤1:=Br w c
  show uc c w+2^w*bi w c<_
  rw[Nat.pow_succ]
  have:2^w*bi w c≤2^w*1:=Nat.mul_le_mul_left _ hb
  omega
theorem pX {t:Int} (h:1≤t∧t≤3):all t+1=2^wn t:=by rcases three h with rfl|rfl|rfl<;>decide
theorem xa (t:Int):2^wn t≤256:=Nat.pow_le_pow_right (n:=2) (by decide) (ni t).1
def zy (t:Int) (b:Int) (x y:Nat):Option Nat:=if b=38 then some (x&&& y)else if b=124 then some (x|||y)else if b=62 then some ((all t^^^x)|||y)else none
def sA (t:Int) (s:ByteArray):Nat→Nat→Option (Nat×Nat)
 |0,_=>none
 |n+1,i=>if i<s.size then
   (if bt s i=49 then some (all t,i+1)else if bt s i=48 then some (0,i+1)
   else if 97≤bt s i∧bt s i - 97<t then some (uc (bt s i - 97).toNat (wn t),i+1)
   else if bt s i=33 then(sA t s n (i+1)).map fun x=>(all t^^^x.1,x.2)
   else if bt s i=40 then(sA t s n (i+1)).bind fun x=>if x.2<s.size then(sA t s n (x.2+1)).bind fun y=>if y.2<s.size∧bt s y.2=41 then(zy t (bt s x.2) x.1 y.1).map fun z=>(z,y.2+1)else none else none
   else none)else none
theorem tw {t:Int} (h:1≤t∧t≤3) {a:Nat} (ha:a<2^wn t):all t^^^a<2^wn t:=Nat.xor_lt_two_pow (by have:=pX h;omega) ha
theorem Cc {t:Int} (h:1≤t∧t≤3) {b:Int} {x y z:Nat} (hx:x<2^wn t) (hy:y<2^wn t) (hz:zy t b x y=some z):z<2^wn t:=by
 unfold zy at hz;split at hz
 ·cases hz;exact Nat.lt_of_le_of_lt Nat.and_le_left hx
 split at hz
 ·cases hz;exact Nat.or_lt_two_pow hx hy
 split at hz
 ·cases hz;exact Nat.or_lt_two_pow (tw h hx) hy
 ·cases hz
theorem nY {t:Int} (ht:1≤t∧t≤3) (s:ByteArray):∀(n i:Nat) (x:Nat×Nat),sA t s n i=some x→x.1<2^wn t∧i<x.2∧x.2≤s.size:=by
 intro n;induction n with
 |zero=>intro i x h;cases h
 |succ n ih=>
  intro i x h;unfold sA at h;by_cases hlt:i<s.size
  ·rw[if_pos hlt]at h;split at h
   ·cases h;exact⟨by have:=pX ht;show all t<_;omega,by show i<i+1;omega,by show i+1≤_;omega⟩
   split at h
   ·cases h;exact⟨Nat.two_pow_pos _,by show i<i+1;omega,by show i+1≤_;omega⟩
   split at h
   ·cases h;exact⟨xW _ _,by show i<i+1;omega,by show i+1≤_;omega⟩
   split at h
   ·obtain⟨y,hy,rfl⟩:=Option.map_eq_some_iff.1 h;obtain⟨a,b,c⟩:=ih _ _ hy;exact⟨tw ht a,by show i<y.2;omega,c⟩
   split at h
   ·obtain⟨y,hy,h⟩:=Option.bind_eq_some_iff.1 h;obtain⟨a,b,c⟩:=ih _ _ hy;split at h
    ·obtain⟨z,hz,h⟩:=Option.bind_eq_some_iff.1 h;obtain⟨a',b',c'⟩:=ih _ _ hz;split at h
     ·rename_i hc;obtain⟨v,hv,rfl⟩:=Option.map_eq_some_iff.1 h;exact⟨Cc ht a a' hv,by show i<z.2+1;omega,by show z.2+1≤_;omega⟩
     ·cases h
    ·cases h
   ·cases h
  ·rw[if_neg hlt]at h;cases h
theorem uS {t:Int} (ht:1≤t∧t≤3) {a:Nat} (ha:a<2^wn t):all t - a=all t^^^a:=by
 rcases three ht with rfl|rfl|rfl
 ·exact(by decide:∀a:Fin 4,3 - a.val=3^^^a.val) ⟨a,ha⟩
 ·exact(by decide:∀a:Fin 16,15 - a.val=15^^^a.val) ⟨a,ha⟩
 ·exact(by decide+kernel:∀a:Fin 256,255 - a.val=255^^^a.val) ⟨a,ha⟩
theorem xb {a b:Nat} (ha:a<256) (hb:b<256):a+b - (a&&& b)=a|||b:=
 (by decide+kernel:∀a b:Fin 256,a.val+b.val - (a.val&&& b.val)=a.val|||b.val) ⟨a,ha⟩ ⟨b,hb⟩
theorem qD {a b:Nat} (ha:a<256) (hb:b<256):Ev (fun k=>kt.f k (a:Int) (b:Int)) ((a|||b:Nat):Int):=by
 refine Ev.bind (qx (b:=b) ha) (ky (Ev.now _) ?_);have h1:a&&& b≤a:=Nat.and_le_left;rw[←xb ha hb,oz (n:=(a:Int)+b) (by omega) (by omega),oz (by omega) (by omega)];omega
def Cd:Option (Nat×Nat)→Int×Int
 |some x=>((x.1:Int),(x.2:Int))
 |none=>(-1, -1)
theorem yy:∀c:Fin 3,∀w:Fin 8,wrap64 ((uc c.val w.val:Nat)+(shl .i64 (Int.tmod (shr .i64 (w.val:Int) (((97+(c.val:Int)) - 97)%256)) 2) (w.val:Int)))=((uc c.val (w.val+1):Nat):Int):=by decide+kernel
theorem DA {z i m n:Nat} (h:z - i≤n+1) (h1:i<m):z - (m+1)≤n:=by omega
theorem Fs {z:Nat} (h:z≤1000000000):z≤9223372036854775807:=by omega
set_option maxHeartbeats 2000000 in
theorem yz {t:Int} (ht:1≤t∧t≤3) (s:ByteArray) (hs:s.size≤1000000000):∀(n:Nat) (i:Nat),s.size - i≤n→Ev (fun k=>gl.f k t s (i:Int)) (Cd (sA t s n i)):=by
 intro n;induction n with
 |zero=>
  intro i hi;exact Ev.step (fun k=>rfl) (fx (by omega) (Ev.now _))
 |succ n ih=>
  intro i hi;unfold sA;by_cases hge:(i:Int)≥(s.size:Int)
  ·rw[if_neg (by omega)];exact Ev.step (fun k=>rfl) (fx hge (Ev.now _))
  have hlt:i<s.size:=by omega
  obtain⟨al,DZ⟩:∃al:Int,al=((all t:Nat):Int):=⟨_,rfl⟩;have hal:kG.f t=some al:=by rw[DZ];exact qe ht
  have e1:wrap64 ((i:Int)+1)=((i+1:Nat):Int):=w1 hlt (by omega);rw[if_pos hlt];by_cases xX:bt s i=49
  ·rw[if_pos xX];refine Ev.step (fun k=>rfl) (fz hge (gZ (hal) (fx (by omega) (fx (by omega) (fx xX ?_)))));rw[e1,DZ];exact Ev.now _
  rw[if_neg xX];by_cases h48:bt s i=48
  ·rw[if_pos h48];refine Ev.step (fun k=>rfl) (fz hge (gZ (hal) (fx (by omega) (fx (by omega) (fz xX (fx h48 ?_))))));rw[e1];exact Ev.now _
  rw[if_neg h48];have hb:=bt_range s i;by_cases hth:97≤bt s i∧bt s i - 97<t
  ·rw[if_pos hth];refine Ev.step (fun k=>rfl) (fz hge (gZ (hal) (fx (by omega) (fx (by omega) (fz xX (fz h48 (fx (by omega) ?_)))))));rw[decide_eq_true (by omega)];obtain⟨c,hc⟩:∃c:Nat,bt s i=97+(c:Int):=⟨(bt s i - 97).toNat,by omega⟩;have hc3:c<3:=by omega
   rw[show(bt s i - 97).toNat=c from by omega]
   have loop:∀w,w≤wn t→Ev (fun k=>gl.l0 k t s (i:Int) ((uc c w:Nat):Int) (w:Int)) (((uc c (wn t):Nat):Int),((i+1:Nat):Int)):=by
    have hw:=ni t;apply down
    ·refine Ev.step (fun k=>rfl) (fx (by omega) (fz (by rw[qd ht];omega) ?_));rw[e1];exact Ev.now _
    ·intro w hw' ih2;refine Ev.step (fun k=>rfl) (fx (by omega) (fx (by rw[qd ht];omega) (fx (by omega) (fx (by omega) (fx (by omega) ?_)))));rw[w1 hw' (by omega),hc,yy ⟨c,hc3⟩ ⟨w,by omega⟩];exact ih2
   exact Ev.step (f:=fun k=>gl.l0 k t s (i:Int) 0 0) (fun k=>rfl) (loop 0 (Nat.zero_le _))
  rw[if_neg hth];have st:∀{g:Nat→Option (Int×Int)} {r} {al:Int},(∀k,g k=(if 0≤(i:Int)then(if(i:Int)<(s.size:Int)then(if(bt s i)=33 then((gl.f k t s (wrap64 ((i:Int)+1))).bind fun zz=>(if zz.2<0 then(some ((-1),(-1)))else(some (wrap64 (al - zz.1),zz.2))))else(if(bt s i)=40 then((gl.f k t s (wrap64 ((i:Int)+1))).bind fun uu=>(if uu.2<0 then(gl.j2 k t s al uu.1 uu.2 true)else(gl.j2 k t s al uu.1 uu.2 (decide (uu.2≥(s.size:Int))))))else(some ((-1),(-1)))))else(none))else(none)))→Ev g r→Ev (fun k=>gl.j0 k t s (i:Int) al false) r:=fun hg h=>Ev.step (fun k=>(hg k).symm) h
  have go:∀{r},Ev (fun k=>gl.j0 k t s (i:Int) al false) r→Ev (fun k=>gl.f k t s (i:Int)) r:=by
   intro r h;refine Ev.step (fun k=>rfl) (fz hge (gZ (hal) (fx (by omega) (fx (by omega) (fz xX (fz h48 ?_))))));by_cases h97:bt s i≥97
   ·refine fx h97 ?_;rw[decide_eq_false (by omega)];exact h
   ·exact fz h97 h
  refine go ?_;have h1:=ih (i+1) (by omega);by_cases zA:bt s i=33
  ·rw[if_pos zA];refine st (fun k=>rfl) (fx (by omega) (fx (by omega) (fx zA ?_)));rw[e1];refine Ev.bind h1 ?_;cases hr:sA t s n (i+1)with
   |none=>exact fx (by show(-1:Int)<0;omega) (Ev.now _)
   |some x=>
    obtain⟨a,b,c⟩:=nY ht s _ _ _ hr;refine fz (by show¬((x.2:Int)<0);clear a;omega) (ky (Ev.now _) ?_)
    show(wrap64 (al - (x.1:Int)),(x.2:Int))=(((all t^^^x.1:Nat):Int),(x.2:Int))
    have hle:x.1≤all t:=Nat.le_of_lt_succ (Nat.lt_of_lt_of_eq a (pX ht).symm);have Ft:=pV t;rw[DZ,←uS ht a,oz (by clear a;omega) (by clear a;omega)];clear a;congr 1;omega
  rw[if_neg zA];by_cases AE:bt s i=40
  ·rw[if_pos AE];refine st (fun k=>rfl) (fx (Int.natCast_nonneg i) (fx (Int.ofNat_lt.2 hlt) (fz zA (fx AE ?_))));rw[e1];refine Ev.bind h1 ?_;have DB:∀a e:Int,Ev (fun k=>gl.j2 k t s al a e true) (-1, -1):=fun a e=>Ev.step (f:=fun _=>some (-1, -1)) (fun k=>rfl) (Ev.now _)
   have Ce:∀a e a2 e2:Int,Ev (fun k=>gl.j3 k s al a e a2 e2 true) (-1, -1):=fun a e a2 e2=>Ev.step (f:=fun _=>some (-1, -1)) (fun k=>rfl) (Ev.now _)
   cases hr:sA t s n (i+1)with
   |none=>exact fx (by decide) (DB _ _)
   |some x=>
    obtain⟨ra,rb,rc⟩:=nY ht s _ _ _ hr;obtain⟨a1,m⟩:=x;simp only at ra rb rc;have CM:a1<256:=Nat.lt_of_lt_of_le ra (xa t);replace ra:gm (a1<2^wn t):=⟨ra⟩;refine fz (Int.not_lt.2 (Int.natCast_nonneg m)) ?_
    show Ev (fun k=>gl.j2 k t s al (a1:Int) (m:Int) (decide ((m:Int)≥(s.size:Int)))) (Cd (if m<s.size then(sA t s n (m+1)).bind fun y=>if y.2<s.size∧bt s y.2=41 then(zy t (bt s m) a1 y.1).map fun z=>(z,y.2+1)else none else none))
    by_cases hm:m<s.size
    ·have hm1:¬((m:Int)≥(s.size:Int)):=Int.not_le.2 (Int.ofNat_lt.2 hm);rw[if_pos hm,decide_eq_false hm1];have em:wrap64 ((m:Int)+1)=((m+1:Nat):Int):=w1 hm (Fs hs);have h2:=ih (m+1) (DA hi (Nat.lt_of_succ_lt rb));refine Ev.step (f:=fun k=>(gl.f k t s (wrap64 ((m:Int)+1))).bind fun oB=>(if oB.2<0 then(gl.j3 k s al (a1:Int) (m:Int) oB.1 oB.2 true)else(if oB.2≥(s.size:Int)then(gl.j3 k s al (a1:Int) (m:Int) oB.1 oB.2 true)else(if 0≤oB.2 then(if oB.2<(s.size:Int)then(gl.j3 k s al (a1:Int) (m:Int) oB.1 oB.2 ((bt s oB.2) !=41))else(none))else(none))))) (fun k=>rfl) ?_;rw[em];refine Ev.bind h2 ?_;cases hr2:sA t s n (m+1)with
     |none=>exact fx (by decide) (Ce _ _ _ _)
     |some y=>
      obtain⟨sa,sb,sc⟩:=nY ht s _ _ _ hr2;obtain⟨a2,e⟩:=y;simp only at sa sb sc;have CN:a2<256:=Nat.lt_of_lt_of_le sa (xa t);clear sa;refine fz (Int.not_lt.2 (Int.natCast_nonneg e)) ?_
      show Ev (fun k=>if(e:Int)≥(s.size:Int)then(gl.j3 k s al (a1:Int) (m:Int) (a2:Int) (e:Int) true)else(if 0≤(e:Int)then(if(e:Int)<(s.size:Int)then(gl.j3 k s al (a1:Int) (m:Int) (a2:Int) (e:Int) ((bt s e) !=41))else(none))else(none))) (Cd (if e<s.size∧bt s e=41 then(zy t (bt s m) a1 a2).map fun z=>(z,e+1)else none))
      by_cases he:e<s.size
      ·refine fz (Int.not_le.2 (Int.ofNat_lt.2 he)) (fx (Int.natCast_nonneg e) (fx (Int.ofNat_lt.2 he) ?_));by_cases zB:bt s e=41
       ·rw[if_pos ⟨he,zB⟩,show(bt s e !=41)=false from by rw[zB];rfl];have ee:wrap64 ((e:Int)+1)=((e+1:Nat):Int):=w1 he (Fs hs);have FO:∀{g:Nat→Option (Int×Int)} {r},(∀k,g k=(if 0≤(m:Int)then(if(m:Int)<(s.size:Int)then(if(bt s m)=38 then((jB.f k (a1:Int) (a2:Int)).bind fun EJ=>(some (EJ,wrap64 ((e:Int)+1))))else(if(bt s m)=124 then((kt.f k (a1:Int) (a2:Int)).bind fun EK=>(some (EK,wrap64 ((e:Int)+1))))else(if(bt s m)=62 then((kt.f k (wrap64 (al - (a1:Int))) (a2:Int)).bind fun Cf=>(some (Cf,wrap64 ((e:Int)+1))))else(some ((-1),(-1))))))else(none))else(none)))→Ev g r→Ev (fun k=>gl.j3 k s al (a1:Int) (m:Int) (a2:Int) (e:Int) false) r:=fun hg h=>Ev.step (fun k=>(hg k).symm) h
        refine FO (fun k=>rfl) (fx (Int.natCast_nonneg m) (fx (Int.ofNat_lt.2 hm) ?_));rw[ee];unfold zy;by_cases q1:bt s m=38
        ·rw[if_pos q1];exact fx q1 (Ev.bind (qx CM) (Ev.now _))
        rw[if_neg q1];refine fz q1 ?_;by_cases q2:bt s m=124
        ·rw[if_pos q2];exact fx q2 (Ev.bind (qD CM CN) (Ev.now _))
        rw[if_neg q2];refine fz q2 ?_;by_cases q3:bt s m=62
        ·rw[if_pos q3];refine fx q3 ?_;have hx:=tw ht ra.out;have hle:a1≤all t:=Nat.le_of_lt_succ (Nat.lt_of_lt_of_eq ra.out (pX ht).symm);have Ft:=pV t;have ew:wrap64 (al - (a1:Int))=((all t^^^a1:Nat):Int):=by rw[DZ,←uS ht ra.out,oz (by clear hx;omega) (by clear hx;omega)];clear hx;omega
         rw[ew];exact Ev.bind (qD (Nat.lt_of_lt_of_le hx (xa t)) CN) (Ev.now _)
        rw[if_neg q3];exact fz q3 (Ev.now _)
       ·rw[if_neg (fun k=>zB k.2),show(bt s e !=41)=true from bne_iff_ne.2 zB];exact Ce _ _ _ _
      ·rw[if_neg (fun k=>he k.1)];exact fx (Int.ofNat_le.2 (Nat.le_of_not_lt he)) (Ce _ _ _ _)
    ·have hm2:(m:Int)≥(s.size:Int):=Int.ofNat_le.2 (Nat.le_of_not_lt hm);rw[if_neg hm,decide_eq_true hm2];exact DB _ _
  rw[if_neg AE];exact st (fun k=>rfl) (fx (Int.natCast_nonneg i) (fx (Int.ofNat_lt.2 hlt) (fz zA (fz AE (Ev.now _)))))
def holds (t:Int) (s:ByteArray):Int×Bool:=if(1≤t∧t≤3)∧s.size≤120 then(match sA t s s.size 0 with|some x=>if x.2=s.size then((x.1:Int),true)else(-1,false)|none=>(-1,false))else(-1,false)
theorem ow {t:Int} {s:ByteArray} {a:Int} (h:holds t s=(a,true)):(1≤t∧t≤3)∧0≤a∧a≤all t:=by
 unfold holds at h;split at h
 ·rename_i hc;split at h
  ·rename_i x hx;split at h
   ·obtain⟨ra,_,_⟩:=nY hc.1 s _ _ _ hx;have:=pX hc.1;have:(x.1:Int)=a:=congrArg Prod.fst h;exact⟨hc.1,by omega,by omega⟩
   ·cases h
  ·cases h
 ·cases h
theorem nD (t:Int) (s:ByteArray):Ev (fun k=>iM.f k t s) (holds t s):=by
 unfold iM.f holds;have bad:Ev (fun k=>iM.j0 k t s true) (-1,false):=Ev.step (f:=fun _=>some (-1,false)) (fun k=>rfl) (Ev.now _);by_cases ht:1≤t∧t≤3
 ·by_cases hs:(s.size:Int)>120
  ·rw[if_neg (by omega)];refine gZ (nO _ _ _) (fx (by simpa using ht) ?_);rw[decide_eq_true hs];exact bad
  ·rw[if_pos ⟨ht,by omega⟩];have h:=yz ht s (by omega) s.size 0 (by omega);refine gZ (nO _ _ _) (fx (by simpa using ht) ?_);rw[decide_eq_false hs];refine Ev.step (f:=fun k=>(gl.f k t s 0).bind fun Bs=>(if Bs.2=(s.size:Int)then(some (Bs.1,true))else(some ((-1),false)))) (fun k=>rfl) (Ev.bind h ?_);cases hr:sA t s s.size 0 with
   |none=>exact fz (by show¬((-1:Int)=_);omega) (Ev.now _)
   |some x=>
    show Ev (fun k=>if(x.2:Int)=(s.size:Int)then(some ((x.1:Int),true))else(some ((-1),false))) (if x.2=s.size then((x.1:Int),true)else(-1,false))
    by_cases he:x.2=s.size
    ·rw[if_pos he];exact fx (by omega) (Ev.now _)
    ·rw[if_neg he];exact fz (by omega) (Ev.now _)
 ·rw[if_neg (fun k=>ht k.1)];exact gZ (nO _ _ _) (fz (by simpa using ht) bad)
theorem sB {t:Int} {s:ByteArray} {i:Nat} (hs:s.size≤1000000000) (h:i<s.size):iP.f t s (i:Int)=some (bt s i,t,s,((i+1:Nat):Int)):=by
 unfold iP.f;have e1:wrap64 ((i:Int)+1)=((i+1:Nat):Int):=w1 h (by omega);have e2:wrap64 (((i+1:Nat):Int) - 1)=(i:Int):=by rw[oz (by omega) (by omega)];omega
 rw[if_neg (by omega),e1,e2,if_pos (by omega),if_pos (by omega)]
theorem tx {t:Int} {s:ByteArray}:iP.f t s (s.size:Int)=some (0,t,s,(s.size:Int)):=by
 unfold iP.f;rw[if_pos rfl]
theorem yA:∀t:Fin 3,∀c:Fin 3,jb.f (fy.p (c.val:Int)) ((t.val:Int)+1)=some ((uc c.val (wn ((t.val:Int)+1)):Nat):Int):=by decide+kernel
theorem tz {t:Int} (ht:1≤t∧t≤3) (c:Nat) (hc:c<3):jb.f (fy.p (c:Int)) t=some ((uc c (wn t):Nat):Int):=by
 have:=yA ⟨(t - 1).toNat,by omega⟩ ⟨c,hc⟩;rw[show(((t - 1).toNat:Nat):Int)+1=t from by omega]at this;exact this
theorem EL {z i n:Nat} (h:z - i≤n+1):z - (i+1)≤n:=by omega
theorem small {a:Nat} (h:a<256):a<2^62:=Nat.lt_trans h (by decide)
def Ea (o:Option (Nat×Nat)) (_s:ByteArray) (x:Int) (b:Bool) (p:Int):Prop:=match o with
 |some y=>x=(y.1:Int)∧b=true∧p=(y.2:Int)
 |none=>b=false
set_option maxHeartbeats 2000000 in
theorem zC {t:Int} (ht:1≤t∧t≤3) (s:ByteArray) (hs:s.size≤1000000000):∀(n:Nat) (i:Nat),i≤s.size→s.size - i≤n→∃x b p,Ev (fun k=>fy.f k t s (i:Int)) (x,b,t,s,p)∧Ea (sA t s n i) s x b p:=by
 have last:∀(i:Nat),i=s.size→Ev (fun k=>fy.f k t s (i:Int)) (0,false,t,s,(i:Int)):=by
  rintro i rfl;exact Ev.step (fun k=>rfl) (gZ (nP ht) (gZ tx (fz (show¬((0:Int)=48) by decide) (fz (show¬((0:Int)=49) by decide) (fz (show¬((0:Int)=97) by decide) (fz (show¬((0:Int)=98) by decide) (fz (show¬((0:Int)=99) by decide) (fz (show¬((0:Int)=33) by decide) (fz (show¬((0:Int)=40) by decide) (Ev.now _))))))))))
 intro n;induction n with
 |zero=>intro i hi hn;exact⟨0,false,_,last i (by omega),rfl⟩
 |succ n ih=>
  intro i hi hn;by_cases hge:i=s.size
  ·refine⟨0,false,_,last i hge,?_⟩;unfold sA;rw[if_neg (by omega)];rfl
  have hlt:i<s.size:=by omega
  unfold sA;rw[if_pos hlt]
  have st:∀{r},Ev (fun k=>(fun(al:Int) (b:Int×Int×ByteArray×Int)=>
   if b.1=48 then some (0,true,b.2.1,b.2.2.1,b.2.2.2)
   else if b.1=49 then some (al,true,b.2.1,b.2.2.1,b.2.2.2)
   else if b.1=97 then(jb.f (fy.p 0) b.2.1).bind fun x=>some (x,decide (0<b.2.1),b.2.1,b.2.2.1,b.2.2.2)
   else if b.1=98 then(jb.f (fy.p 1) b.2.1).bind fun x=>some (x,decide (1<b.2.1),b.2.1,b.2.2.1,b.2.2.2)
   else if b.1=99 then(jb.f (fy.p 2) b.2.1).bind fun x=>some (x,decide (2<b.2.1),b.2.1,b.2.2.1,b.2.2.2)
   else if b.1=33 then(fy.f k b.2.1 b.2.2.1 b.2.2.2).bind fun c=>some (Go.bits .xor .i64 al c.1,c.2.1,c.2.2.1,c.2.2.2.1,c.2.2.2.2)
   else if b.1=40 then(fy.f k b.2.1 b.2.2.1 b.2.2.2).bind fun c=>
    if c.2.1=true then(iP.f c.2.2.1 c.2.2.2.1 c.2.2.2.2).bind fun sg=>(fy.f k sg.2.1 sg.2.2.1 sg.2.2.2).bind fun d=>
     if d.2.1=true then(iP.f d.2.2.1 d.2.2.2.1 d.2.2.2.2).bind fun e=>
      if e.1=41 then
       (if sg.1=38 then some (Go.bits .and .i64 c.1 d.1,true,e.2.1,e.2.2.1,e.2.2.2)
       else if sg.1=124 then some (Go.bits .or .i64 c.1 d.1,true,e.2.1,e.2.2.1,e.2.2.2)
       else if sg.1=62 then some (Go.bits .or .i64 (Go.bits .xor .i64 al c.1) d.1,true,e.2.1,e.2.2.1,e.2.2.2)
       else some (0,false,e.2.1,e.2.2.1,e.2.2.2))
      else some (0,false,e.2.1,e.2.2.1,e.2.2.2)
     else some (0,false,d.2.2.1,d.2.2.2.1,d.2.2.2.2)
    else some (0,false,c.2.2.1,c.2.2.2.1,c.2.2.2.2)
   else some (0,false,b.2.1,b.2.2.1,b.2.2.2)) ((all t:Nat):Int) (bt s i,t,s,((i+1:Nat):Int))) r→Ev (fun k=>fy.f k t s (i:Int)) r:=by
   intro r h;exact Ev.step (fun k=>rfl) (gZ (nP ht) (gZ (sB hs hlt) h))
  by_cases xX:bt s i=49
  ·rw[if_pos xX];exact⟨_,true,_,st (fz (by show¬bt s i=48;omega) (fx xX (Ev.now _))),rfl,rfl,rfl⟩
  rw[if_neg xX];by_cases h48:bt s i=48
  ·rw[if_pos h48];exact⟨_,true,_,st (fx h48 (Ev.now _)),rfl,rfl,rfl⟩
  rw[if_neg h48];by_cases h97:bt s i=97
  ·refine⟨_,decide ((0:Int)<t),_,st (fz h48 (fz xX (fx h97 (gZ (tz ht 0 (by decide)) (Ev.now _))))),?_⟩;rw[if_pos (by omega),decide_eq_true (by omega),h97];exact⟨rfl,rfl,rfl⟩
  by_cases Eb:bt s i=98
  ·refine⟨_,decide ((1:Int)<t),_,st (fz h48 (fz xX (fz h97 (fx Eb (gZ (tz ht 1 (by decide)) (Ev.now _)))))),?_⟩;by_cases h:1<t
   ·rw[if_pos (by omega),decide_eq_true h,Eb];exact⟨rfl,rfl,rfl⟩
   ·rw[if_neg (by omega),decide_eq_false h,if_neg (by omega),if_neg (by omega)];rfl
  by_cases EM:bt s i=99
  ·refine⟨_,decide ((2:Int)<t),_,st (fz h48 (fz xX (fz h97 (fz Eb (fx EM (gZ (tz ht 2 (by decide)) (Ev.now _))))))),?_⟩;by_cases h:2<t
   ·rw[if_pos (by omega),decide_eq_true h,EM];exact⟨rfl,rfl,rfl⟩
   ·rw[if_neg (by omega),decide_eq_false h,if_neg (by omega),if_neg (by omega)];rfl
  rw[if_neg (show¬(97≤bt s i∧bt s i - 97<t) by omega)];obtain⟨x1,b1,p1,hx1,hg1⟩:=ih (i+1) hlt (EL hn);have pre:∀{g:Nat→Option (Int×Bool×Int×ByteArray×Int)} {r},Ev g r→Ev (fun k=>if bt s i=48 then some (0,true,t,s,((i+1:Nat):Int))else if bt s i=49 then some (((all t:Nat):Int),true,t,s,((i+1:Nat):Int))else if bt s i=97 then(jb.f (fy.p 0) t).bind fun x=>some (x,decide (0<t),t,s,((i+1:Nat):Int))else if bt s i=98 then(jb.f (fy.p 1) t).bind fun x=>some (x,decide (1<t),t,s,((i+1:Nat):Int))else if bt s i=99 then(jb.f (fy.p 2) t).bind fun x=>some (x,decide (2<t),t,s,((i+1:Nat):Int))else g k) r:=fun h=>fz h48 (fz xX (fz h97 (fz Eb (fz EM h))))
  by_cases zA:bt s i=33
  ·rw[if_pos zA];refine⟨_,b1,p1,st (pre (fx zA (Ev.bind hx1 (Ev.now _)))),?_⟩;cases hr:sA t s n (i+1)with
   |none=>rw[hr]at hg1;exact hg1
   |some y=>
    rw[hr]at hg1;obtain⟨rfl,rfl,rfl⟩:=hg1;obtain⟨ra,_,_⟩:=nY ht s _ _ _ hr;exact⟨Ax _ _ (small (pV t)) (small (Nat.lt_of_lt_of_le ra (xa t))),rfl,rfl⟩
  rw[if_neg zA];by_cases AE:bt s i=40
  ·rw[if_pos AE]
   have go:∀{x b p},Ev (fun k=>if b1=true then(iP.f t s p1).bind fun sg=>(fy.f k sg.2.1 sg.2.2.1 sg.2.2.2).bind fun d=>
     if d.2.1=true then(iP.f d.2.2.1 d.2.2.2.1 d.2.2.2.2).bind fun e=>
      if e.1=41 then
       (if sg.1=38 then some (Go.bits .and .i64 x1 d.1,true,e.2.1,e.2.2.1,e.2.2.2)
       else if sg.1=124 then some (Go.bits .or .i64 x1 d.1,true,e.2.1,e.2.2.1,e.2.2.2)
       else if sg.1=62 then some (Go.bits .or .i64 (Go.bits .xor .i64 ((all t:Nat):Int) x1) d.1,true,e.2.1,e.2.2.1,e.2.2.2)
       else some (0,false,e.2.1,e.2.2.1,e.2.2.2))
      else some (0,false,e.2.1,e.2.2.1,e.2.2.2)
     else some (0,false,d.2.2.1,d.2.2.2.1,d.2.2.2.2)
    else some (0,false,t,s,p1)) (x,b,t,s,p)→Ev (fun k=>fy.f k t s (i:Int)) (x,b,t,s,p):=by
    intro x b p h;exact st (pre (fz zA (fx AE (Ev.bind hx1 h))))
   cases hr:sA t s n (i+1)with
   |none=>
    rw[hr]at hg1;have:b1=false:=hg1;subst this;exact⟨0,false,p1,go (nU (Ev.now _)),rfl⟩
   |some y=>
    rw[hr]at hg1;obtain⟨a1,m⟩:=y;obtain⟨rfl,rfl,rfl⟩:=hg1;obtain⟨ra,rb,rc⟩:=nY ht s _ _ _ hr;simp only at ra rb rc;have CM:=small (Nat.lt_of_lt_of_le ra (xa t));have FP:=small (Nat.lt_of_lt_of_le (tw ht ra) (xa t));clear ra;by_cases hm:m<s.size
    ·obtain⟨x2,b2,p2,hx2,hg2⟩:=ih (m+1) hm (DA hn (Nat.lt_of_succ_lt rb))
     show∃x b p,Ev _ _∧Ea (if m<s.size then(sA t s n (m+1)).bind fun y=>if y.2<s.size∧bt s y.2=41 then(zy t (bt s m) a1 y.1).map fun z=>(z,y.2+1)else none else none) s x b p
     rw[if_pos hm]
     have go2:∀{x b p},Ev (fun k=>if b2=true then(iP.f t s p2).bind fun e=>
       if e.1=41 then
        (if bt s m=38 then some (Go.bits .and .i64 ((a1:Nat):Int) x2,true,e.2.1,e.2.2.1,e.2.2.2)
        else if bt s m=124 then some (Go.bits .or .i64 ((a1:Nat):Int) x2,true,e.2.1,e.2.2.1,e.2.2.2)
        else if bt s m=62 then some (Go.bits .or .i64 (Go.bits .xor .i64 ((all t:Nat):Int) ((a1:Nat):Int)) x2,true,e.2.1,e.2.2.1,e.2.2.2)
        else some (0,false,e.2.1,e.2.2.1,e.2.2.2))
       else some (0,false,e.2.1,e.2.2.1,e.2.2.2)
      else some (0,false,t,s,p2)) (x,b,t,s,p)→Ev (fun k=>fy.f k t s (i:Int)) (x,b,t,s,p):=by
      intro x b p h;exact go (lC (gZ (sB hs hm) (Ev.bind hx2 h)))
     cases hr2:sA t s n (m+1)with
     |none=>
      rw[hr2]at hg2;have:b2=false:=hg2;subst this;exact⟨0,false,p2,go2 (nU (Ev.now _)),rfl⟩
     |some z=>
      rw[hr2]at hg2;obtain⟨a2,e⟩:=z;obtain⟨rfl,rfl,rfl⟩:=hg2;obtain⟨sa,sb,sc⟩:=nY ht s _ _ _ hr2;simp only at sa sb sc;have CN:=small (Nat.lt_of_lt_of_le sa (xa t));clear sa
      show∃x b p,Ev _ _∧Ea (if e<s.size∧bt s e=41 then(zy t (bt s m) a1 a2).map fun z=>(z,e+1)else none) s x b p
      by_cases he:e<s.size
      ·by_cases zB:bt s e=41
       ·rw[if_pos ⟨he,zB⟩]
        have Ec:∀{x b p},Ev (fun _=>if bt s m=38 then some (Go.bits .and .i64 ((a1:Nat):Int) ((a2:Nat):Int),true,t,s,((e+1:Nat):Int))
          else if bt s m=124 then some (Go.bits .or .i64 ((a1:Nat):Int) ((a2:Nat):Int),true,t,s,((e+1:Nat):Int))
          else if bt s m=62 then some (Go.bits .or .i64 (Go.bits .xor .i64 ((all t:Nat):Int) ((a1:Nat):Int)) ((a2:Nat):Int),true,t,s,((e+1:Nat):Int))
          else some (0,false,t,s,((e+1:Nat):Int))) (x,b,t,s,p)→Ev (fun k=>fy.f k t s (i:Int)) (x,b,t,s,p):=by
         intro x b p h;exact go2 (lC (gZ (sB hs he) (fx zB h)))
        unfold zy;by_cases q1:bt s m=38
        ·rw[if_pos q1];exact⟨_,true,_,Ec (fx q1 (Ev.now _)),band _ _ CM CN,rfl,rfl⟩
        rw[if_neg q1];by_cases q2:bt s m=124
        ·rw[if_pos q2];exact⟨_,true,_,Ec (fz q1 (fx q2 (Ev.now _))),Dy _ _ CM CN,rfl,rfl⟩
        rw[if_neg q2];by_cases q3:bt s m=62
        ·rw[if_pos q3];refine⟨_,true,_,Ec (fz q1 (fz q2 (fx q3 (Ev.now _)))),?_,rfl,rfl⟩;rw[Ax _ _ (small (pV t)) CM];exact Dy _ _ FP CN
        rw[if_neg q3];exact⟨0,false,_,Ec (fz q1 (fz q2 (fz q3 (Ev.now _)))),rfl⟩
       ·rw[if_neg (fun k=>zB k.2)];exact⟨0,false,_,go2 (lC (gZ (sB hs he) (fz zB (Ev.now _)))),rfl⟩
      ·rw[if_neg (fun k=>he k.1)];have ez:e=s.size:=Nat.le_antisymm sc (Nat.le_of_not_lt he);subst ez;exact⟨0,false,_,go2 (lC (gZ tx (fz (show¬((0:Int)=41) by decide) (Ev.now _)))),rfl⟩
    ·show∃x b p,Ev _ _∧Ea (if m<s.size then(sA t s n (m+1)).bind fun y=>if y.2<s.size∧bt s y.2=41 then(zy t (bt s m) a1 y.1).map fun z=>(z,y.2+1)else none else none) s x b p
     rw[if_neg hm];have ez:m=s.size:=Nat.le_antisymm rc (Nat.le_of_not_lt hm);subst ez;exact⟨0,false,_,go (lC (gZ tx (Ev.bind (last _ rfl) (nU (Ev.now _))))),rfl⟩
  rw[if_neg AE];exact⟨0,false,_,st (pre (fz zA (fz AE (Ev.now _)))),rfl⟩
theorem xc {t:Int} (ht:1≤t∧t≤3) (s:ByteArray) (hs:s.size≤120):Ev (fun k=>lr.f k t s) (holds t s):=by
 obtain⟨x,b,p,hx,hg⟩:=zC ht s (by omega) s.size 0 (Nat.zero_le _) (by omega);unfold holds lr.f;rw[if_pos ⟨ht,hs⟩];refine Ev.bind hx ?_;cases hr:sA t s s.size 0 with
 |none=>
  rw[hr]at hg;have:b=false:=hg;subst this;exact nU (Ev.now _)
 |some y=>
  rw[hr]at hg;obtain⟨rfl,rfl,rfl⟩:=hg;refine lC ?_
  show Ev (fun _=>if(y.2:Int)=(s.size:Int)then some ((y.1:Int),true)else some (-1,false)) (if y.2=s.size then((y.1:Int),true)else(-1,false))
  by_cases he:y.2=s.size
  ·rw[if_pos he];exact fx (by omega) (Ev.now _)
  ·rw[if_neg he];exact fz (by omega) (Ev.now _)
theorem me (t:Int) (s:ByteArray):Ev (fun k=>jH.f k t s) (holds t s):=by
 unfold jH.f;refine gZ (pU t) ?_;by_cases ht:1≤t∧t≤3
 ·refine fx (decide_eq_true ht) ?_;by_cases hs:(s.size:Int)>120
  ·unfold holds;rw[if_neg (by omega)];exact fx hs (Ev.now _)
  ·exact fz hs (Ev.bind (xc ht s (by omega)) (Ev.now _))
 ·unfold holds;rw[if_neg (fun k=>ht k.1)];exact fz (by simpa using ht) (Ev.now _)
theorem wv (t s:Int):js.f t s=some (zx t s):=by
 unfold js.f zx;rw[nO,Option.bind_some];by_cases h:1≤t∧t≤3
 ·rw[decide_eq_true h,if_pos rfl,qe h,Option.bind_some,nO,Option.bind_some];congr 1;exact decide_eq_decide.2 ⟨fun k=>⟨h,k⟩,fun k=>k.2⟩
 ·rw[decide_eq_false h,if_neg (by decide)];congr 1;symm;exact decide_eq_false (fun k=>h k.1)
def wx (t:Int) (s:Nat):List Int:=(iC.f 120 t (s:Int)).getD []
def wy (t s:Nat):Bool:=match iC.f 120 (t:Int) (s:Int)with
 |some l=>decide (ik.f 120 (t:Int) (s:Int)=some l)&&decide (l.length=2^t)
 |none=>false
theorem EN:(List.range 3).all (fun s=>wy 1 (s+1))=true:=by decide+kernel
theorem EO:(List.range 15).all (fun s=>wy 2 (s+1))=true:=by decide+kernel
theorem EP:(List.range 255).all (fun s=>wy 3 (s+1))=true:=by decide+kernel
theorem oF {p:Nat→Bool} {n:Nat} (h:(List.range n).all p=true) {i:Nat} (hi:i<n):p i=true:=List.all_eq_true.1 h i (List.mem_range.2 hi)
theorem Cg {t:Int} (ht:1≤t∧t≤3) {s:Nat} (h0:s≠0) (hs:s≤all t):wy t.toNat s=true:=by
 obtain⟨s,rfl⟩:∃r,s=r+1:=⟨s - 1,by omega⟩;rcases three ht with rfl|rfl|rfl
 ·exact oF EN (by have:all 1=3:=rfl;omega)
 ·exact oF EO (by have:all 2=15:=rfl;omega)
 ·exact oF EP (by have:all 3=255:=rfl;omega)
theorem oG {t:Int} (ht:1≤t∧t≤3) {s:Nat} (h0:s≠0) (hs:s≤all t):
  iC.f 120 t (s:Int)=some (wx t s)∧ik.f 120 t (s:Int)=some (wx t s)∧(wx t s).length=wn t:=by
 have h:=Cg ht h0 hs;obtain⟨n,rfl⟩:=Int.eq_ofNat_of_zero_le (show 0≤t by omega);unfold wy at h;unfold wx;rw[Int.toNat_natCast]at h;cases e:iC.f 120 (n:Int) (s:Int)with
 |none=>rw[e]at h;cases h
 |some l=>
  rw[e]at h;simp only[Bool.and_eq_true,decide_eq_true_eq]at h;exact⟨rfl,h.1,h.2.trans (by rcases three ht with h|h|h<;>(rw[h];have:n=n:=rfl;obtain rfl:=Int.ofNat.inj h;rfl))⟩
theorem tC {t:Int} (ht:1≤t∧t≤3) {s:Nat} (h0:s≠0) (hs:s≤all t):Ev (fun k=>iC.f k t (s:Int)) (wx t s):=Ev.of (fun k=>iC.mono _ _ k) (oG ht h0 hs).1
theorem xd {t:Int} (ht:1≤t∧t≤3) {s:Nat} (h0:s≠0) (hs:s≤all t):Ev (fun k=>ik.f k t (s:Int)) (wx t s):=Ev.of (fun k=>ik.mono _ _ k) (oG ht h0 hs).2.1
theorem rY {t:Int} (ht:1≤t∧t≤3) {s:Nat} (hs:s≤all t):s<2^wn t:=by have:=pX ht;omega
theorem uT {t:Int} (ht:1≤t∧t≤3) {s:Nat} (hs:s<2^wn t):s≤all t:=by have:=pX ht;omega
theorem nE {t:Int} {s:Nat} (hs:s≤all t):s<256:=by have:=pV t;omega
theorem big {s:Nat} (hs:s<256):s<2^62:=Nat.lt_trans hs (by decide)
theorem mf {t:Int} (ht:1≤t∧t≤3) {l:List Int} (hl:l.length=wn t) (s:Nat):kz l s≤all t:=uT ht (hl▸rB _ _)
theorem xY {t:Int} (ht:1≤t∧t≤3) {a b:Nat} (ha:a≤all t) (hb:b≤all t):a|||b≤all t:=uT ht (Nat.or_lt_two_pow (rY ht ha) (rY ht hb))
theorem np {t:Int} (ht:1≤t∧t≤3) {s:Nat} (hs:s≤all t):js.f t (s:Int)=some true:=by
 rw[wv];exact congrArg some (decide_eq_true ⟨ht,by omega,by omega⟩)
theorem qF {t:Int} (ht:1≤t∧t≤3) {s:Nat} (hs:s≤all t):lK.f t (s:Int)=some true:=by
 unfold lK.f;rw[pU,Option.bind_some,if_pos (decide_eq_true ht),if_pos (by omega),nP ht,Option.bind_some,decide_eq_true (by omega)]
theorem tD (l:List Int) (s:Nat):∀(d i:Nat) (m:Int),ng l s d i m≤m∧∀j,i≤j→j<i+d→s.testBit j=true→ng l s d i m≤l.getD j 0
 |0,_,m=>⟨Int.le_refl _,fun j h1 h2=>by omega⟩
 |d+1,i,m=>by
  unfold ng
  obtain⟨_,b,c⟩:=rA m (l.getD i 0)
  obtain⟨h1,h2⟩:=tD l s d (i+1) (if s.testBit i=true then mn m (l.getD i 0)else m)
  by_cases hb:s.testBit i=true
  ·rw[if_pos hb]at h1 h2⊢
   refine⟨by omega,fun j k1 k2 k3=>?_⟩
   by_cases e:j=i
   ·subst e;omega
   ·exact h2 j (by omega) (by omega) k3
  ·rw[if_neg hb]at h1 h2⊢
   refine⟨h1,fun j k1 k2 k3=>?_⟩
   by_cases e:j=i
   ·subst e;exact absurd k3 hb
   ·exact h2 j (by omega) (by omega) k3
theorem xZ {t:Int} (ht:1≤t∧t≤3) {j:Nat} (hj:j<wn t):(all t).testBit j=true:=by
 rw[show all t=2^wn t - 1 from by have:=pX ht;omega,Nat.testBit_two_pow_sub_one,decide_eq_true hj]
theorem xe {t:Int} {l:List Int} (h:lu t l=true):leastOf l (all t)=0:=by
 obtain⟨ht,hl,hx,h0⟩:=jD.1 h;obtain⟨p,hp,he⟩:=wo.1 h0;have a:=(pW l (all t) (fun x k=>(hx x k).1) l.length 0 10 (by decide) (by decide)).1;have b:=(tD l (all t) l.length 0 10).2 p (Nat.zero_le _) (by omega) (xZ ht (hl▸hp));unfold leastOf;omega
theorem zD {t:Int} {l:List Int} (h:lu t l=true) (s:Nat):∃n:Nat,leastOf l s=n∧n≤10:=by
 obtain⟨_,_,hx,_⟩:=jD.1 h;obtain⟨a,b⟩:=pW l s (fun x k=>(hx x k).1) l.length 0 10 (by decide) (by decide);exact⟨(leastOf l s).toNat,(Int.toNat_of_nonneg a).symm,by unfold leastOf;omega⟩
theorem pF {t:Int} {l:List Int} (h:lu t l=true):ko.f t l=some ((kz l (all t):Nat):Int):=by
 obtain⟨ht,hl,_,_⟩:=jD.1 h
 have hp:∀y:Nat,y<0+wn t→ko.p l (y:Int)=some (decide (l.getD y 0=0)):=by
  intro y hy;unfold ko.p;rw[if_pos (by omega),if_pos (by omega),qw]
 obtain⟨r,h1,h2,h3⟩:=qy (p:=ko.p l) (q:=fun y=>decide (l.getD y 0=0)) (wn t) 0 0 (by have:=(ni t).1;omega) Nat.one_pos hp
 have hf:jb.f (ko.p l) t=some (r:Int):=by
  unfold jb.f;rw[if_pos (by omega),if_pos (by omega),show 2^t.toNat=wn t from by rcases three ht with rfl|rfl|rfl<;>rfl];exact h1
 unfold ko.f;rw[hf];congr 2;rw[Nat.zero_add]at h2 h3;apply Nat.eq_of_testBit_eq;intro w;unfold kz;rw[tv,hl,xe h,Bool.eq_iff_iff,h3,Nat.zero_testBit,Bool.and_eq_true,Bool.and_eq_true,decide_eq_true_eq,decide_eq_true_eq];constructor
 ·rintro(k|⟨_,k2,k3⟩)
  ·cases k
  ·exact⟨by omega,xZ ht (by omega),k3⟩
 ·rintro⟨k1,_,k3⟩;exact Or.inr ⟨Nat.zero_le _,by omega,k3⟩
theorem rC {t:Int} {l:List Int} (h:lu t l=true):Ev (fun k=>gY.f k t l) true:=by
 obtain⟨_,hl,_,_⟩:=jD.1 h;exact ky (nW t (by have:=(ni t).1;omega)) h
theorem len8 {t:Int} {l:List Int} (h:lu t l=true):l.length≤8:=by
 obtain⟨_,hl,_,_⟩:=jD.1 h;have:=(ni t).1;omega
theorem yB {t:Int} {l:List Int} (h:lu t l=true):Ev (fun k=>lI.f k t l) ((kz l (all t):Nat):Int):=
 Ev.bind (rC h) (lC (gZ (qe (jD.1 h).1) (Ev.bind (nX (len8 h) _) (Ev.now _))))
theorem wA {a b:Nat} (ha:a<2^62):(Go.bits .andNot .i64 (a:Int) (b:Int)==0)=decide (a&&& b=a):=by
 rw[Az a b ha,Bool.eq_iff_iff,beq_iff_eq,decide_eq_true_eq,←yu];omega
theorem ya {a b:Nat}:(((a&&& b:Nat):Int)==(a:Int))=decide (a&&& b=a):=by
 rw[Bool.eq_iff_iff,beq_iff_eq,decide_eq_true_eq];omega
theorem xf {t:Int} {l:List Int} (h:lu t l=true) {a b:Nat} (ha:a≤all t):Ev (fun k=>ks.f k t l (a:Int) (b:Int)) (decide (kz l a&&& b=kz l a)):=by
 obtain⟨ht,hl,_,_⟩:=jD.1 h;exact Ev.bind (oN ht hl (rY ht ha)) (ky (Ev.now _) (wA (big (nE (mf ht hl a)))))
theorem xg {t:Int} {l:List Int} (h:lu t l=true) {a b:Nat} (h0:a≠0) (ha:a≤all t) (hb:b≤all t):Ev (fun k=>jR.f k t l (a:Int) (b:Int)) (decide (kz l a&&& b=kz l a)):=by
 obtain⟨ht,hl,_,_⟩:=jD.1 h
 have hr:nh.f t (a:Int) (b:Int)=some true:=by
  unfold nh.f;rw[np ht ha,Option.bind_some,if_pos rfl,np ht hb,Option.bind_some,if_pos rfl];exact congrArg some (bne_iff_ne.2 (by omega))
 refine Ev.bind (rC h) (lC (gZ hr (show Ev (fun k=>jR.j0 k l false (a:Int) (b:Int)) _ from Ev.step (fun k=>rfl) (Ev.bind (nX (len8 h) a) (Ev.bind (qx (nE (mf ht hl a))) (ky (Ev.now _) ya))))))
theorem ud {t:Int} {l:List Int} (h:lu t l=true) {s:Nat} (hs:s≤all t):Ev (fun k=>iB.f k t l (s:Int)) (leastOf l s):=by
 obtain⟨ht,hl,_,_⟩:=jD.1 h;have h8:=len8 h;refine Ev.bind (rC h) (lC (gZ (np ht hs) (show Ev (fun k=>iB.j0 k l (s:Int) false) _ from Ev.step (fun k=>rfl) ?_)))
 have key:∀i,i≤l.length→∀m:Int,Ev (fun k=>iB.l0 k l (s:Int) m (i:Int)) (ng l s (l.length - i) i m):=by
  apply down
  ·intro m;rw[Nat.sub_self];exact Ev.step (fun k=>rfl) (fz (by omega) (Ev.now _))
  ·intro i hi ih m;rw[show l.length - i=(l.length - (i+1))+1 from by omega];unfold ng;refine Ev.step (fun k=>rfl) (fx (by omega) (gZ (oM s i (by omega)) ?_));rw[w1 hi (by omega),qw];by_cases hb:s.testBit i=true
   ·rw[if_pos hb];exact fx (ox.2 hb) (fx (by omega) (ih _))
   ·rw[if_neg hb];exact fz (fun k=>hb (ox.1 k)) (ih _)
 exact key 0 (Nat.zero_le _) 10
theorem yb {t:Int} (ht:1≤t∧t≤3) {s:Nat} (hs:s≤all t):wrap64 ((all t:Int) - (s:Int))=((all t^^^s:Nat):Int):=by
 have:=pV t;rw[←uS ht (rY ht hs),oz (by omega) (by omega)];omega
theorem uU {t:Int} (ht:1≤t∧t≤3) {s:Nat} (hs:s≤all t):all t^^^s≤all t:=uT ht (tw ht (rY ht hs))
theorem Bt {t:Int} {s:Nat} (hs:s≤all t):Go.bits .xor .i64 (all t:Int) (s:Int)=((all t^^^s:Nat):Int):=Ax _ _ (big (pV t)) (big (nE hs))
theorem wB {t:Int} {l:List Int} (h:lu t l=true) {s:Nat} (hs:s≤all t):Ev (fun k=>lJ.f k t l (s:Int)) (leastOf l (all t^^^s)):=by
 obtain⟨ht,hl,_,_⟩:=jD.1 h;have h8:=len8 h;refine gZ (nP ht) ?_;rw[Bt hs];exact Ev.bind (rX (by omega) (nE (uU ht hs))) (Ev.now _)
theorem uf {t:Int} {l:List Int} (h:lu t l=true) {s:Nat} (hs:s≤all t):Ev (fun k=>jo.f k t l (s:Int)) (leastOf l (all t^^^s)):=by
 obtain⟨ht,hl,_,_⟩:=jD.1 h;refine Ev.bind (rC h) (lC (gZ (np ht hs) (show Ev (fun k=>jo.j0 k t l (s:Int) false) _ from Ev.step (fun k=>rfl) (gZ (qe ht) ?_))));rw[yb ht hs];exact Ev.bind (ud h (uU ht hs)) (Ev.now _)
def given (t:Int) (l:List Int) (s:Nat):Nat:=kz l (all t)|||kz l (all t^^^s)
theorem zE {t:Int} {l:List Int} (h:lu t l=true) (s:Nat):given t l s≤all t:=by
 obtain⟨ht,hl,_,_⟩:=jD.1 h;exact xY ht (mf ht hl _) (mf ht hl _)
theorem xh {t:Int} {l:List Int} (h:lu t l=true) {s:Nat} (hs:s≤all t):Ev (fun k=>mb.f k t l (s:Int)) (given t l s:Int):=by
 obtain⟨ht,hl,_,_⟩:=jD.1 h;refine gZ (pF h) (gZ (nP ht) ?_);rw[Bt hs];exact Ev.bind (oN ht hl (rY ht (uU ht hs))) (ky (Ev.now _) (Dy _ _ (big (nE (mf ht hl _))) (big (nE (mf ht hl _)))))
theorem xi {t:Int} {l:List Int} (h:lu t l=true) {s:Nat} (hs:s≤all t):Ev (fun k=>jO.f k t l (s:Int)) (given t l s:Int):=by
 obtain⟨ht,hl,_,_⟩:=jD.1 h;refine Ev.bind (rC h) (lC (gZ (np ht hs) (show Ev (fun k=>jO.j0 k t l (s:Int) false) _ from Ev.step (fun k=>rfl) (gZ (qe ht) (Ev.bind (nX (len8 h) _) ?_)))));rw[yb ht hs];exact Ev.bind (nX (len8 h) _) (Ev.bind (qD (nE (mf ht hl _)) (nE (mf ht hl _))) (Ev.now _))
def near (t:Int) (a b:Nat):Nat:=if a=0 then b else kz (wx t a) b
theorem sC {t:Int} (ht:1≤t∧t≤3) {a b:Nat} (ha:a≤all t) (hb:b≤all t):near t a b≤all t:=by
 unfold near;by_cases h0:a=0
 ·rw[if_pos h0];exact hb
 ·rw[if_neg h0];exact mf ht (oG ht h0 ha).2.2 b
theorem uV {t:Int} (ht:1≤t∧t≤3) {a b:Nat} (ha:a≤all t) (hb:b≤all t):Ev (fun k=>jt.f k t (a:Int) (b:Int)) (near t a b:Int):=by
 refine gZ (qF ht ha) (lC (gZ (qF ht hb) (show Ev (fun k=>jt.j0 k t (a:Int) (b:Int) false) _ from Ev.step (fun k=>rfl) ?_)));unfold near;by_cases h0:a=0
 ·rw[if_pos h0];exact fx (by omega) (Ev.now _)
 ·rw[if_neg h0];exact fz (by omega) (Ev.bind (tC ht h0 ha) (Ev.bind (oN ht (oG ht h0 ha).2.2 (rY ht hb)) (Ev.now _)))
theorem rD {t:Int} (ht:1≤t∧t≤3) {a b:Nat} (ha:a≤all t) (hb:b≤all t):Ev (fun k=>jr.f k t (a:Int) (b:Int)) (near t a b:Int):=by
 refine gZ (np ht ha) (lC (gZ (np ht hb) (show Ev (fun k=>jr.j0 k t (a:Int) (b:Int) false) _ from Ev.step (fun k=>rfl) ?_)));unfold near;by_cases h0:a=0
 ·rw[if_pos h0];exact fx (by omega) (Ev.now _)
 ·rw[if_neg h0];exact fz (by omega) (Ev.bind (xd ht h0 ha) (Ev.bind (nX (by have:=(ni t).1;rw[(oG ht h0 ha).2.2];omega) b) (Ev.now _)))
def wC (t:Int) (a b:Nat):Nat→Nat→Nat→Nat
 |0,_,c=>c
 |d+1,i,c=>wC t a b d (i+1) (if a.testBit i=true then c|||near t (2^i) b else c)
theorem xj {t:Int} (ht:1≤t∧t≤3) {i:Nat} (hi:i<wn t):2^i≤all t:=uT ht (Nat.pow_lt_pow_right (by decide) hi)
theorem yc {t:Int} (ht:1≤t∧t≤3) {a b:Nat} (hb:b≤all t):∀(d i c:Nat),i+d≤wn t→c≤all t→wC t a b d i c≤all t
 |0,_,_,_,hc=>hc
 |d+1,i,c,h,hc=>by
  unfold wC
  refine yc ht hb d (i+1) _ (by omega) ?_
  split
  ·exact xY ht hc (sC ht (xj ht (by omega)) hb)
  ·exact hc
def Ch (t:Int) (a b:Nat):Nat:=wC t a b (wn t) 0 0
theorem AF {t:Int} (ht:1≤t∧t≤3) {a b:Nat} (hb:b≤all t):Ch t a b≤all t:=yc ht hb _ _ _ (by omega) (Nat.zero_le _)
theorem zF {t:Int} {i b:Nat}:near t (2^i) b=kz (wx t (2^i)) b:=if_neg (Nat.ne_of_gt (Nat.two_pow_pos i))
theorem uX {t:Int} (ht:1≤t∧t≤3) {a b:Nat} (ha:a≤all t) (hb:b≤all t):Ev (fun k=>iF.f k t (a:Int) (b:Int)) (Ch t a b:Int):=by
 have h8:=(ni t).1;refine gZ (qF ht ha) (lC (gZ (qF ht hb) (show Ev (fun k=>iF.j0 k t (a:Int) (b:Int) false) _ from Ev.step (fun k=>rfl) (fx (by omega) ?_))));rw[qd ht]
 have key:∀i,i≤wn t→∀c:Nat,c≤all t→Ev (fun k=>iF.l0 k t (a:Int) (b:Int) (c:Int) (wn t:Int) (i:Int)) (wC t a b (wn t - i) i c:Int):=by
  apply down
  ·intro c _;rw[Nat.sub_self];exact Ev.step (fun k=>rfl) (fz (by omega) (Ev.now _))
  ·intro i hi ih c hc;rw[show wn t - i=(wn t - (i+1))+1 from by omega];unfold wC;refine Ev.step (fun k=>rfl) (fx (by omega) (fx (by omega) ?_));rw[uP a i (by omega) (big (nE ha)),w1 hi (by omega),Av i (by omega)];have hp:=xj ht hi;have h0:2^i≠0:=Nat.ne_of_gt (Nat.two_pow_pos i);have hn:=sC ht hp hb;by_cases hbit:a.testBit i=true
   ·rw[if_pos hbit];refine fx (ox.2 hbit) (Ev.bind (tC ht h0 hp) (Ev.bind (oN ht (oG ht h0 hp).2.2 (rY ht hb)) ?_));rw[←zF,Dy _ _ (big (nE hc)) (big (nE hn))];exact ih _ (xY ht hc hn)
   ·rw[if_neg hbit];exact fz (fun k=>hbit (ox.1 k)) (ih _ hc)
 exact key 0 (Nat.zero_le _) 0 (Nat.zero_le _)
theorem uY {t:Int} (ht:1≤t∧t≤3) {a b:Nat} (ha:a≤all t) (hb:b≤all t):Ev (fun k=>iH.f k t (a:Int) (b:Int)) (Ch t a b:Int):=by
 have h8:=(ni t).1;refine gZ (np ht ha) (lC (gZ (np ht hb) (show Ev (fun k=>iH.j0 k t (a:Int) (b:Int) false) _ from Ev.step (fun k=>rfl) ?_)))
 have key:∀i,i≤wn t→∀c:Nat,c≤all t→Ev (fun k=>iH.l0 k t (a:Int) (b:Int) (c:Int) (i:Int)) (wC t a b (wn t - i) i c:Int):=by
  apply down
  ·intro c _;rw[Nat.sub_self];refine Ev.step (fun k=>rfl) (fx (by omega) ?_);rw[qd ht];exact fz (by omega) (Ev.now _)
  ·intro i hi ih c hc;rw[show wn t - i=(wn t - (i+1))+1 from by omega];unfold wC;refine Ev.step (fun k=>rfl) (fx (by omega) ?_);rw[qd ht,w1 hi (by omega),Av i (by omega)];refine fx (by omega) (gZ (oM a i (by omega)) ?_);have hp:=xj ht hi;have hn:=sC ht hp hb;by_cases hbit:a.testBit i=true
   ·rw[if_pos hbit];exact fx (ox.2 hbit) (fx (by omega) (Ev.bind (rD ht hp hb) (Ev.bind (qD (nE hc) (nE hn)) (ih _ (xY ht hc hn)))))
   ·rw[if_neg hbit];exact fz (fun k=>hbit (ox.1 k)) (ih _ hc)
 exact key 0 (Nat.zero_le _) 0 (Nat.zero_le _)
def sent (t:Int) (s:Nat):ByteArray:=(gU.f 40 t (s:Int)).getD ⟨#[]⟩
def tE (t:Int) (s:Nat):Bool:=match gU.f 40 t (s:Int),iq.f 40 t (s:Int)with
 |some a,some b=>a.data.toList==b.data.toList
 | _,_=>false
theorem DC:(List.range 4).all (fun s=>tE 1 s)=true:=by decide+kernel
theorem DD:(List.range 16).all (fun s=>tE 2 s)=true:=by decide+kernel
theorem DE:(List.range 256).all (fun s=>tE 3 s)=true:=by decide+kernel
theorem AG {t:Int} (ht:1≤t∧t≤3) {s:Nat} (hs:s≤all t):tE t s=true:=by
 rcases three ht with rfl|rfl|rfl
 ·exact oF DC (by have:all 1=3:=rfl;omega)
 ·exact oF DD (by have:all 2=15:=rfl;omega)
 ·exact oF DE (by have:all 3=255:=rfl;omega)
theorem tF {t:Int} (ht:1≤t∧t≤3) {s:Nat} (hs:s≤all t):gU.f 40 t (s:Int)=some (sent t s)∧iq.f 40 t (s:Int)=some (sent t s):=by
 have h:=AG ht hs;unfold tE at h;unfold sent;cases e:gU.f 40 t (s:Int)with
 |none=>rw[e]at h;cases h
 |some a=>
  rw[e]at h;cases e2:iq.f 40 t (s:Int)with
  |none=>rw[e2]at h;cases h
  |some b=>
   rw[e2]at h;refine⟨rfl,?_⟩;congr 1;exact(ByteArray.ext (Array.toList_inj.1 (beq_iff_eq.1 h))).symm
theorem oe {t:Int} (ht:1≤t∧t≤3) {s:Nat} (hs:s≤all t):Ev (fun k=>gU.f k t (s:Int)) (sent t s):=Ev.of (fun k=>gU.mono _ _ k) (tF ht hs).1
theorem oh {t:Int} (ht:1≤t∧t≤3) {s:Nat} (hs:s≤all t):Ev (fun k=>iq.f k t (s:Int)) (sent t s):=Ev.of (fun k=>iq.mono _ _ k) (tF ht hs).2
def num (n:Nat):ByteArray:=(il.f 5 (n:Int)).getD ⟨#[]⟩
theorem uv {n:Nat} (h:n<10):Lib.decDigits n= [(48+n).toUInt8]:=by
 unfold Lib.decDigits;rw[dif_pos h]
theorem AH:Lib.decDigits 10= [49,48]:=by
 unfold Lib.decDigits;rw[dif_neg (by decide),show 10/10=1 from rfl,uv (by decide)];rfl
theorem qG {n:Nat} (h:n≤10):strconv_Itoa.f (n:Int)=some (num n)∧il.f 5 (n:Int)=some (num n):=by
 have hi:strconv_Itoa.f (n:Int)=some ⟨(Lib.decDigits n).toArray⟩:=by
  unfold strconv_Itoa.f;rw[if_pos (by omega),if_pos (by omega),Int.toNat_natCast]
 rw[hi];by_cases h10:n<10
 ·rw[uv h10];have:∀m:Nat,m<10→(il.f 5 (m:Int)).map (·.data.toList)=some [(48+m).toUInt8]:=by decide+kernel
  have hm:=this n h10;unfold num;cases e:il.f 5 (n:Int)with
  |none=>rw[e]at hm;cases hm
  |some a=>
   rw[e]at hm;have hd:a.data.toList=_:=Option.some.inj hm;exact⟨congrArg some (show(⟨_⟩:ByteArray)=a from ByteArray.ext (Array.toList_inj.1 hd.symm)),rfl⟩
 ·obtain rfl:n=10:=by omega
  rw[AH];have hm:(il.f 5 ((10:Nat):Int)).map (·.data.toList)=some [49,48]:=by decide+kernel
  unfold num;cases e:il.f 5 ((10:Nat):Int)with
  |none=>rw[e]at hm;cases hm
  |some a=>
   rw[e]at hm;have hd:a.data.toList=_:=Option.some.inj hm;exact⟨congrArg some (show(⟨_⟩:ByteArray)=a from ByteArray.ext (Array.toList_inj.1 hd.symm)),rfl⟩
theorem qf {n:Nat} (h:n≤10):Ev (fun k=>il.f k (n:Int)) (num n):=Ev.of (fun k=>il.mono _ k) (qG h).2
theorem jN (s:ByteArray):s.toList.length=s.size:=by rw[toList_data,Array.length_toList];rfl
theorem pC (a b:ByteArray):(a++b).toList=a.toList++b.toList:=by
 rw[toList_data,toList_data,toList_data,ByteArray.data_append,Array.toList_append]
theorem nQ (s:ByteArray) (i j:Nat):(s.extract i j).toList=(s.toList.drop i).take (j - i):=by
 rw[toList_data,toList_data,ByteArray.data_extract,Array.toList_extract,List.extract_eq_take_drop]
theorem nw (s:ByteArray) (i:Nat):(s.extract i s.size).toList=s.toList.drop i:=by
 rw[nQ];apply List.take_of_length_le;rw[List.length_drop,jN];omega
theorem rM (s:ByteArray) {i:Nat} (h:i<s.size):bt s (i:Int)=((s.toList[i]'(by rw[jN];exact h)).toNat:Int):=by
 unfold bt;rw[dif_pos (by rw[Int.toNat_natCast];exact h)];congr 2;simp only[toList_data,Int.toNat_natCast];rfl
theorem Ci {t:Int} (s:ByteArray):∀(n i:Nat) (x:Nat×Nat),1≤t∧t≤3→sA t s n i=some x→∀j:Nat,i≤j→j<x.2→bt s j≠45:=by
 intro n;induction n with
 |zero=>intro i x _ h;cases h
 |succ n ih=>
  intro i x ht h j hj hx;unfold sA at h;by_cases hlt:i<s.size
  ·rw[if_pos hlt]at h
   have one:∀{v:Nat},x=(v,i+1)→bt s i≠45→bt s j≠45:=by
    rintro v rfl h;have:j=i:=by have:j<i+1:=hx;omega
    rw[this];exact h
   split at h
   ·rename_i hc;exact one (Option.some.inj h).symm (by rw[hc];decide)
   split at h
   ·rename_i hc;exact one (Option.some.inj h).symm (by rw[hc];decide)
   split at h
   ·rename_i hc;exact one (Option.some.inj h).symm (by omega)
   split at h
   ·rename_i hc;obtain⟨y,hy,rfl⟩:=Option.map_eq_some_iff.1 h;by_cases e:j=i
    ·rw[e,hc];decide
    ·exact ih _ _ ht hy j (by omega) hx
   split at h
   ·rename_i hc;obtain⟨y,hy,h⟩:=Option.bind_eq_some_iff.1 h;split at h
    ·obtain⟨z,hz,h⟩:=Option.bind_eq_some_iff.1 h;split at h
     ·rename_i zB;obtain⟨v,hv,rfl⟩:=Option.map_eq_some_iff.1 h;by_cases e:j=i
      ·rw[e,hc];decide
      by_cases e1:j<y.2
      ·exact ih _ _ ht hy j (by omega) e1
      by_cases e2:j=y.2
      ·rw[e2];intro e3;unfold zy at hv;rw[e3,if_neg (by decide),if_neg (by decide),if_neg (by decide)]at hv;cases hv
      by_cases e3:j<z.2
      ·exact ih _ _ ht hz j (by omega) e3
      ·have:j=z.2:=by have:j<z.2+1:=hx;omega
       rw[this,zB.2];decide
     ·cases h
    ·cases h
   ·cases h
  ·rw[if_neg hlt]at h;cases h
theorem zG {t:Int} {s:ByteArray} {a:Int} (h:holds t s=(a,true)) {j:Nat} (hj:j<s.size):bt s j≠45:=by
 unfold holds at h;split at h
 ·rename_i hc;split at h
  ·rename_i x hx;split at h
   ·rename_i he;exact Ci s _ _ _ hc.1 hx j (Nat.zero_le _) (by rw[he];exact hj)
   ·cases h
  ·cases h
 ·cases h
def at2 (s:ByteArray) (k:Nat):Prop:=k+1<s.size∧bt s k=45∧bt s ((k+1:Nat):Int)=62
instance (s:ByteArray) (k:Nat):Decidable (at2 s k):=by unfold at2;infer_instance
theorem xk (s:ByteArray) (k:Nat):Lib.occAt s.data.toList [45,62] k=true↔at2 s k:=by
 unfold Lib.occAt at2;rw[←toList_data];by_cases h:k+1<s.size
 ·have l0:k<s.toList.length:=by rw[jN];omega
  have l1:k+1<s.toList.length:=by rw[jN];omega
  rw[List.drop_eq_getElem_cons l0,List.drop_eq_getElem_cons l1,rM s (by omega),rM s h];simp only[List.isPrefixOf,Bool.and_true,Bool.and_eq_true,beq_iff_eq];constructor
  ·rintro⟨e1,e2⟩;exact⟨h,by rw[←e1];rfl,by rw[←e2];rfl⟩
  ·rintro⟨_,e1,e2⟩;exact⟨(UInt8.toNat_inj.1 (by have h9:(45:UInt8).toNat=45:=rfl;omega)).symm,(UInt8.toNat_inj.1 (by have h9:(62:UInt8).toNat=62:=rfl;omega)).symm⟩
 ·constructor
  ·intro hp;have:=(List.isPrefixOf_iff_prefix.1 hp).length_le;rw[List.length_drop,jN]at this;simp at this;omega
  ·rintro⟨k1,_,_⟩;exact absurd k1 h
def pG (t:Int) (s:ByteArray) (k:Nat):Option (Int×Int×Bool):=
 let a:=holds t (s.extract 0 k);let b:=holds t (s.extract (k+2) s.size)
 if a.2=true then(if b.2=true then(if a.1=0 then none else some (a.1,b.1,true))else none)else none
def oy (t:Int) (s:ByteArray) (k:Nat):Int×Int×Bool:=(pG t s k).getD (0,0,false)
theorem AJ {s:ByteArray} (hs:s.size<4294967281):(∃k,at2 s k∧(∀j,j<k→¬at2 s j)∧uK.f s=some (s.extract 0 k,s.extract (k+2) s.size,true))∨((∀j,¬at2 s j)∧uK.f s=some (s,(⟨#[]⟩:ByteArray),false)):=by
 unfold uK.f;rw[if_pos hs];rcases Lib.index_spec s.data.toList [45,62]with⟨h1,h2⟩|⟨i,h1,h2,h3,h4⟩
 ·right;refine⟨fun j hj=>?_,?_⟩
  ·have hl:j≤s.data.toList.length:=by rw[←toList_data,jN];have:=hj.1;omega
   have:=h2 j hl;rw[(xk s j).2 hj]at this;cases this
  ·obtain⟨e1,e2,e3⟩:=Lib.cutB_miss s ⟨#[45,62]⟩ h1;have e1':(⟨(Lib.cut s.data.toList [45,62]).1.toArray⟩:ByteArray)=s:=e1;have e2':(⟨(Lib.cut s.data.toList [45,62]).2.1.toArray⟩:ByteArray)=ByteArray.empty:=e2;have e3':(Lib.cut s.data.toList [45,62]).2.2=false:=e3;rw[e1',e2',e3'];rfl
 ·left;refine⟨i,(xk s i).1 h3,fun j hj hj2=>?_,?_⟩
  ·have:=h4 j hj;rw[(xk s j).2 hj2]at this;cases this
  ·obtain⟨e1,e2,e3⟩:=Lib.cutB_hit s ⟨#[45,62]⟩ i h1;have e1':(⟨(Lib.cut s.data.toList [45,62]).1.toArray⟩:ByteArray)=s.extract 0 i:=e1;have e2':(⟨(Lib.cut s.data.toList [45,62]).2.1.toArray⟩:ByteArray)=s.extract (i+2) s.size:=e2;have e3':(Lib.cut s.data.toList [45,62]).2.2=true:=e3;rw[e1',e2',e3']
theorem rN (t:Int) {s:ByteArray} (hs:s.size<4294967281):(∃k,at2 s k∧(∀j,j<k→¬at2 s j)∧Ev (fun n=>kN.f n t s) (oy t s k))∨((∀j,¬at2 s j)∧Ev (fun n=>kN.f n t s) (0,0,false)):=by
 unfold kN.f;rcases AJ hs with⟨k,h1,h2,h3⟩|⟨h1,h3⟩
 ·refine Or.inl ⟨k,h1,h2,gZ h3 (Ev.bind (me t _) (Ev.bind (me t _) (lC ?_)))⟩;unfold oy pG;by_cases a:(holds t (s.extract 0 k)).2=true
  ·refine fx a ?_;by_cases b:(holds t (s.extract (k+2) s.size)).2=true
   ·refine fx b ?_;by_cases c:(holds t (s.extract 0 k)).1=0
    ·exact fx c (ky (Ev.now _) (by simp only[a,b,c,if_true];rfl))
    ·exact fz c (ky (Ev.now _) (by simp only[a,b,c,if_true,if_false];rfl))
   ·exact fz b (ky (Ev.now _) (by simp only[a,b,if_true];rfl))
  ·exact fz a (ky (Ev.now _) (by simp only[a];rfl))
 ·exact Or.inr ⟨h1,gZ h3 (Ev.bind (me t _) (Ev.bind (me t _) (nU (Ev.now _))))⟩
theorem AK (s:ByteArray) {j k:Nat} (h:k<j) (hj:j≤s.size):bt (s.extract 0 j) (k:Int)=bt s (k:Int):=by
 have h1:k<(s.extract 0 j).size:=by rw[ByteArray.size_extract];omega
 rw[rM _ h1,rM s (by omega)];congr 2;simp only[nQ,List.drop_zero,List.getElem_take]
theorem zH (t:Int) {s:ByteArray} {i:Nat} (hs:s.size≤1000000000) (hi:i≤s.size) (h:¬i+1<s.size):Ev (fun n=>gX.l0 n t s (i:Int)) (0,0,false):=by
 have e1:wrap64 ((i:Int)+1)=((i+1:Nat):Int):=by rw[oz (by omega) (by omega)];omega
 refine Ev.step (fun k=>rfl) (fz ?_ (Ev.now _));rw[e1];omega
theorem yd (t:Int) {s:ByteArray} {i:Nat} {r:Int×Int×Bool} (hs:s.size≤1000000000) (h:i+1<s.size)
  (h1:¬at2 s i→Ev (fun n=>gX.l0 n t s ((i+1:Nat):Int)) r) (h2:at2 s i→pG t s i=none→Ev (fun n=>gX.l0 n t s ((i+1:Nat):Int)) r) (h3:∀v,at2 s i→pG t s i=some v→v=r):
  Ev (fun n=>gX.l0 n t s (i:Int)) r:=by
 have e1:wrap64 ((i:Int)+1)=((i+1:Nat):Int):=by rw[oz (by omega) (by omega)];omega
 have e2:wrap64 ((i:Int)+2)=((i+2:Nat):Int):=by rw[oz (by omega) (by omega)];omega
 refine Ev.step (fun k=>rfl) (fx (by rw[e1];omega) (fx (by omega) (fx (by omega) ?_)));rw[e1]
 have skip:Ev (fun n=>gX.l0 n t s ((i+1:Nat):Int)) r→Ev (fun n=>gX.j1 n t s (i:Int) true) r:=by
  intro hr;refine Ev.step (f:=fun n=>gX.l0 n t s (wrap64 ((i:Int)+1))) (fun k=>rfl) ?_;rw[e1];exact hr
 by_cases a:bt s i=45
 ·refine fx a (fx (by omega) ?_);by_cases b:bt s ((i+1:Nat):Int)=62
  ·have ha:at2 s i:=⟨h,a,b⟩;rw[show(bt s ((i+1:Nat):Int) !=62)=false from by rw[b];rfl];have st:∀{g:Nat→Option (Int×Int×Bool)} {r},(∀k,g k=(if 0≤(i:Int)then(if(i:Int)≤(s.size:Int)then((iM.f k t (s.extract 0 ((i:Int):Int).toNat)).bind fun zI=>(if 0≤(wrap64 ((i:Int)+2))then(if(wrap64 ((i:Int)+2))≤(s.size:Int)then((iM.f k t (s.extract ((wrap64 ((i:Int)+2)):Int).toNat s.size)).bind fun Bu=>(if zI.2=true then(if Bu.2=true then(if zI.1=0 then(gX.l0 k t s (wrap64 ((i:Int)+1)))else(some (zI.1,Bu.1,true)))else(gX.l0 k t s (wrap64 ((i:Int)+1))))else(gX.l0 k t s (wrap64 ((i:Int)+1)))))else(none))else(none)))else(none))else(none)))→Ev g r→Ev (fun k=>gX.j1 k t s (i:Int) false) r:=fun hg h=>Ev.step (fun k=>(hg k).symm) h
   refine st (fun k=>rfl) (fx (by omega) (fx (by omega) ?_));rw[e1,e2,Int.toNat_natCast,Int.toNat_natCast];refine Ev.bind (nD t _) (fx (by omega) (fx (by omega) (Ev.bind (nD t _) ?_)));by_cases x:(holds t (s.extract 0 i)).2=true
   ·refine fx x ?_;by_cases y:(holds t (s.extract (i+2) s.size)).2=true
    ·refine fx y ?_;by_cases c:(holds t (s.extract 0 i)).1=0
     ·exact fx c (h2 ha (by unfold pG;simp only[x,y,c,if_true]))
     ·exact fz c (ky (Ev.now _) (h3 _ ha (by unfold pG;simp only[x,y,c,if_true,if_false])))
    ·exact fz y (h2 ha (by unfold pG;simp only[x,y,if_true];rfl))
   ·exact fz x (h2 ha (by unfold pG;simp only[x];rfl))
  ·rw[show(bt s ((i+1:Nat):Int) !=62)=true from bne_iff_ne.2 b];exact skip (h1 (fun k=>b k.2.2))
 ·exact fz a (skip (h1 (fun k=>a k.2.1)))
theorem uw (t:Int) {s:ByteArray} (hs:s.size≤1000000000):∀(d i:Nat),s.size - i≤d→i≤s.size→(∀j,i≤j→at2 s j→pG t s j=none)→Ev (fun n=>gX.l0 n t s (i:Int)) (0,0,false):=by
 intro d;induction d with
 |zero=>intro i hd hi _;exact zH t hs hi (by omega)
 |succ d ih=>
  intro i hd hi h;by_cases h1:i+1<s.size
  ·have nx:=ih (i+1) (by omega) (by omega) (fun j hj=>h j (by omega));refine yd t hs h1 (fun _=>nx) (fun _ _=>nx) (fun v ha hv=>?_);rw[h i (Nat.le_refl _) ha]at hv;cases hv
  ·exact zH t hs hi h1
theorem qN (t:Int) {s:ByteArray} (hs:s.size≤1000000000) (h:∀j,¬at2 s j):Ev (fun n=>gX.f n t s) (0,0,false):=
 uw t hs s.size 0 (by omega) (Nat.zero_le _) (fun j _ hj=>absurd hj (h j))
theorem xl (t:Int) {s:ByteArray} {k j:Nat} (hk:at2 s k) (hj:k<j) (h:j≤s.size):pG t s j=none:=by
 unfold pG;simp only;rw[if_neg];intro hb;have e:holds t (s.extract 0 j)=((holds t (s.extract 0 j)).1,true):=by rw[←hb]
 have:=zG e (j:=k) (by rw[ByteArray.size_extract];omega);rw[AK s hj h]at this;exact this hk.2.1
theorem rO (t:Int) {s:ByteArray} (hs:s.size≤1000000000) {k:Nat} (hk:at2 s k) (hn:∀j,j<k→¬at2 s j):Ev (fun n=>gX.f n t s) (oy t s k):=by
 have k1:=hk.1;have after:Ev (fun n=>gX.l0 n t s ((k+1:Nat):Int)) (0,0,false):=uw t hs s.size (k+1) (by omega) (by omega) (fun j hj ha=>xl t hk (by omega) (by have:=ha.1;omega))
 have at_k:Ev (fun n=>gX.l0 n t s (k:Int)) (oy t s k):=by
  cases hv:pG t s k with
  |none=>
   have e:oy t s k=(0,0,false):=by unfold oy;rw[hv];rfl
   rw[e];refine yd t hs k1 (fun h=>absurd hk h) (fun _ _=>after) (fun v _ h=>?_);rw[hv]at h;cases h
  |some v=>
   have e:oy t s k=v:=by unfold oy;rw[hv];rfl
   rw[e];refine yd t hs k1 (fun h=>absurd hk h) (fun _ h=>?_) (fun v' _ h=>?_)
   ·rw[hv]at h;cases h
   ·rw[hv]at h;exact(Option.some.inj h).symm
 have key:∀i,i≤k→Ev (fun n=>gX.l0 n t s (i:Int)) (oy t s k):=by
  apply down
  ·exact at_k
  ·intro i hi ih;exact yd t hs (by omega) (fun _=>ih) (fun h=>absurd h (hn i hi)) (fun v h=>absurd h (hn i hi))
 exact key 0 (Nat.zero_le _)
theorem vq (t:Int) (s:ByteArray) (k:Nat):oy t s k=(0,0,false)∨∃a b:Nat,oy t s k=((a:Int),(b:Int),true)∧(1≤t∧t≤3)∧a≠0∧a≤all t∧b≤all t:=by
 unfold oy pG;simp only;by_cases a:(holds t (s.extract 0 k)).2=true
 ·by_cases b:(holds t (s.extract (k+2) s.size)).2=true
  ·by_cases c:(holds t (s.extract 0 k)).1=0
   ·left;rw[if_pos a,if_pos b,if_pos c];rfl
   ·right;have ea:holds t (s.extract 0 k)=((holds t (s.extract 0 k)).1,true):=by rw[←a]
    have eb:holds t (s.extract (k+2) s.size)=((holds t (s.extract (k+2) s.size)).1,true):=by rw[←b]
    obtain⟨h1,h2,h3⟩:=ow ea;obtain⟨_,g2,g3⟩:=ow eb;refine⟨(holds t (s.extract 0 k)).1.toNat,(holds t (s.extract (k+2) s.size)).1.toNat,?_,h1,by omega,by omega,by omega⟩;rw[if_pos a,if_pos b,if_neg c,Int.toNat_of_nonneg h2,Int.toNat_of_nonneg g2];rfl
  ·left;rw[if_pos a,if_neg b];rfl
 ·left;rw[if_neg a];rfl
def mT (t:Int) (l:List Int):Bool:=lu t l&&decide (mu l=l)
theorem tG (t:Int) {l:List Int} (hn:l.length≤9223372036854775807):Ev (fun k=>jy.f k t l) (mT t l):=by
 unfold jy.f mT;refine Ev.bind (nW t hn) ?_;cases h:lu t l with
 |false=>exact nU (Ev.now _)
 |true=>
  have hlen:=mQ l;refine lC (Ev.bind (pz h) ?_)
  have key:∀i,i≤l.length→Ev (fun k=>jy.l0 k l (mu l) (i:Int)) (decide ((mu l).drop i=l.drop i)):=by
   apply down
   ·refine Ev.step (fun k=>rfl) (fz (by omega) (ky (Ev.now _) ?_));rw[List.drop_length,List.drop_of_length_le (by omega)];exact(decide_eq_true rfl).symm
   ·intro i hi ih;refine Ev.step (fun k=>rfl) (fx (by omega) (fx (by omega) (fx (by omega) ?_)));rw[mP hi,mP (l:=mu l) (by omega),List.drop_eq_getElem_cons hi,List.drop_eq_getElem_cons (l:=mu l) (by omega)];by_cases e:(mu l)[i]=l[i]
    ·refine fx e ?_;rw[w1 hi hn];refine ky ih (decide_eq_decide.2 ?_);rw[List.cons.injEq];exact⟨fun h=>⟨e,h⟩,fun h=>h.2⟩
    ·refine fz e (ky (Ev.now _) ?_);rw[decide_eq_false (fun h=>e (List.cons.inj h).1)]
  have:=key 0 (Nat.zero_le _);rw[List.drop_zero,List.drop_zero]at this;rw[Bool.true_and];exact this
def nf (t:Int) (l:List Int) (ls:List (List Int)):Bool:=mT t l&&(decide (ls.length≤10)&&ls.all (mT t))
theorem pY {l:List (List Int)} {i:Nat} (h:i<l.length):kT l (i:Int)=l[i]:=by
 unfold kT;rw[Int.toNat_natCast,List.getD_eq_getElem?_getD,List.getElem?_eq_getElem h];rfl
theorem nR (t:Int) {l:List Int} {ls:List (List Int)} (hn:l.length≤9223372036854775807) (hs:ls.length≤9223372036854775807) (hl:∀y∈ls,y.length≤9223372036854775807):Ev (fun k=>hX.f k t l ls) (nf t l ls):=by
 unfold hX.f
 have key:∀i,i≤ls.length→Ev (fun k=>hX.l0 k (i:Int) t l ls) (mT t l&&(decide (ls.length≤10)&&(ls.drop i).all (mT t))):=by
  apply down
  ·refine Ev.step (fun k=>rfl) (fz (by omega) (Ev.bind (tG t hn) ?_));rw[List.drop_length,List.all_nil,Bool.and_true];cases mT t l with
   |false=>exact nU (Ev.now _)
   |true=>
    refine lC (ky (Ev.now _) ?_);rw[Bool.true_and];exact decide_eq_decide.2 (by omega)
  ·intro i hi ih;refine Ev.step (fun k=>rfl) (fx (by omega) (fx (by omega) ?_));rw[pY hi,w1 hi hs];refine Ev.bind (tG t (hl _ (List.getElem_mem hi))) ?_;rw[List.drop_eq_getElem_cons hi,List.all_cons];cases mT t ls[i]with
   |false=>exact nU (ky (Ev.now _) (by simp))
   |true=>
    refine lC (ky ih ?_);rw[Bool.true_and]
 have:=key 0 (Nat.zero_le _);rw[List.drop_zero]at this;exact this
theorem ux (t:Int) {l:List Int} (hn:l.length≤9223372036854775807):Ev (fun k=>kL.f k t l) (mT t l):=by
 unfold kL.f mT;refine Ev.bind (uo t hn) ?_;cases h:lu t l with
 |false=>exact nU (Ev.now _)
 |true=>
  obtain⟨_,hl,hx,_⟩:=jD.1 h;have:=(ni t).1;refine lC (Ev.bind (xT (by omega) fun x hx'=>(hx x hx').1) (Ev.bind (wq (l:=mu l) (m:=l) (by rw[mQ];omega)) (ky (Ev.now _) ?_)));rw[Bool.true_and]
theorem zJ (t:Int):∀(ls:List (List Int)),(∀y∈ls,y.length≤9223372036854775807)→∀i:Int,0≤i→∃r,Ev (fun k=>Hof.si (jW.no k t) ls i) r∧decide (0≤r)= !ls.all (mT t):=by
 intro ls;induction ls with
 |nil=>exact fun _ i _=>⟨-1,Ev.now _,rfl⟩
 |cons y ys ih=>
  intro hl i hi;have hy:=ux t (hl y List.mem_cons_self);have hno:Ev (fun k=>jW.no k t y) (!mT t y):=Ev.bind hy (Ev.now _);cases e:mT t y with
  |true=>
   rw[e]at hno;obtain⟨r,h1,h2⟩:=ih (fun z hz=>hl z (List.mem_cons_of_mem _ hz)) (i+1) (by omega);refine⟨r,Ev.bind hno (nU h1),?_⟩;rw[h2,List.all_cons,e,Bool.true_and]
  |false=>
   rw[e]at hno;refine⟨i,Ev.bind hno (lC (Ev.now _)),?_⟩;rw[List.all_cons,e,decide_eq_true hi];rfl
theorem uy (t:Int) {l:List Int} {ls:List (List Int)} (hn:l.length≤9223372036854775807) (hl:∀y∈ls,y.length≤9223372036854775807):Ev (fun k=>jW.f k t l ls) (nf t l ls):=by
 unfold jW.f nf;refine Ev.bind (ux t hn) ?_;cases mT t l with
 |false=>exact nU (Ev.now _)
 |true=>
  refine lC ?_;by_cases h:ls.length≤10
  ·obtain⟨r,h1,h2⟩:=zJ t ls hl 0 (by omega);refine fx (by omega) (Ev.bind (Ev.bind h1 (Ev.now _)) (ky (Ev.now _) ?_));rw[h2,decide_eq_true h,Bool.true_and,Bool.true_and,Bool.not_not]
  ·refine fz (by omega) (ky (Ev.now _) ?_);rw[decide_eq_false h];rfl
theorem tH (t:Int) {l:List Int} {ls:List (List Int)} (hn:l.length≤100) (hs:ls.length≤100) (hl:∀y∈ls,y.length≤100):Ev (fun k=>iu.f k t l ls) (t,l,ls):=by
 unfold iu.f
 have key:∀i:Nat,i≤ls.length→Ev (fun k=>iu.l0 k (i:Int) t l ls t l (ls.take i)) (t,l,ls):=by
  apply down
  ·refine Ev.step (fun k=>rfl) (fz (by omega) (ky (Ev.now _) ?_));rw[List.take_length]
  ·intro i hi ih;have hy:=hl _ (List.getElem_mem hi);refine Ev.step (fun k=>rfl) (fx (by omega) (gZ rfl (fx (by omega) (fx (by rw[pY hi];simp only[List.length_nil];omega) (fx (by rw[List.length_take];omega) ?_)))));rw[pY hi,w1 hi (by omega),List.nil_append];rw[List.take_succ_eq_append_getElem hi]at ih;exact ih
 refine gZ rfl (fx (by simp only[List.length_nil];omega) ?_);rw[List.nil_append];exact key 0 (Nat.zero_le _)
theorem tI:∀{l:List Int},l≠ []→∃x∈l,∀y∈l,x≤y
 | [],h=>absurd rfl h
 | [x],_=>⟨x,List.mem_singleton.2 rfl,fun y hy=>by rw[List.mem_singleton.1 hy];exact Int.le_refl _⟩
 |x::z::l,_=>by
  obtain⟨m,hm,h⟩:=tI (l:=z::l) (by simp)
  by_cases hx:x≤m
  ·refine⟨x,List.mem_cons_self,fun y hy=>?_⟩
   rcases List.mem_cons.1 hy with rfl|hy
   ·exact Int.le_refl _
   ·exact Int.le_trans hx (h y hy)
  ·refine⟨m,List.mem_cons_of_mem _ hm,fun y hy=>?_⟩
   rcases List.mem_cons.1 hy with rfl|hy
   ·omega
   ·exact h y hy
theorem vr {t:Int} {l:List Int} (h:lu t l=true) (F:Nat):lu t (mu (raise l F))=true:=by
 obtain⟨ht,hl,hx,h0⟩:=jD.1 h;have h8:=ni t;have hn:∀y∈raise l F,0≤y:=fun y hy=>by obtain⟨x,h1,h2⟩:=qz hy;have:=hx x h1;omega
 have hlen:(raise l F).length=wn t:=by rw[mF];exact hl
 refine jD.2 ⟨ht,by rw[mQ];exact hlen,fun y hy=>?_,?_⟩
 ·obtain⟨x,hx1,rfl⟩:=rL.1 hy;have:=tX hx1 (hn x hx1);omega
 ·obtain⟨x,hx1,hx2⟩:=tI (l:=raise l F) (by intro e;rw[e]at hlen;simp at hlen;omega);refine rL.2 ⟨x,hx1,?_⟩;rw[zu (fun y hy _=>hx2 y hy)];rfl
theorem tJ {t:Int} {l:List Int} (h:lu t l=true) (a:Int) (s:Nat):mT t (tY l a s)=true:=by
 unfold mT tY;have hx:=(jD.1 h).2.2.1;rw[vr h,wm (fun y hy=>by obtain⟨x,h1,h2⟩:=qz hy;have:=hx x h1;omega),decide_eq_true rfl];rfl
theorem lv {t:Int} {l:List Int}:mT t l=true↔lu t l=true∧mu l=l:=by
 unfold mT;rw[Bool.and_eq_true,decide_eq_true_iff]
theorem AL {x y:List Int} (hl:x.length=y.length) (hn:x.length≤100):∀i,i≤x.length→Ev (fun k=>iE.l0 k x y (i:Int)) (decide (x.drop i=y.drop i)):=by
 apply down
 ·refine Ev.step (fun k=>rfl) (fz (by omega) (ky (Ev.now _) ?_));rw[List.drop_length,List.drop_of_length_le (by omega)];exact(decide_eq_true rfl).symm
 ·intro i hi ih;refine Ev.step (fun k=>rfl) (fx (by omega) (fx (by omega) (fx (by omega) ?_)));rw[mP hi,mP (by omega),List.drop_eq_getElem_cons hi,List.drop_eq_getElem_cons (l:=y) (by omega)];by_cases e:x[i]=y[i]
  ·refine fx e ?_;rw[w1 hi (by omega)];refine ky ih (decide_eq_decide.2 ?_);rw[List.cons.injEq];exact⟨fun h=>⟨e,h⟩,fun h=>h.2⟩
  ·refine fz e (ky (Ev.now _) ?_);rw[decide_eq_false (fun h=>e (List.cons.inj h).1)]
theorem vt {t:Int} {x y:List Int} (hx:lu t x=true) (hy:lu t y=true):Ev (fun k=>iE.f k t x y) (decide (mu x=mu y)):=by
 have lx:=(jD.1 hx).2.1;have ly:=(jD.1 hy).2.1;have h8:=ni t;have rx:=nW t (l:=x) (by omega);have ry:=nW t (l:=y) (by omega);rw[hx]at rx;rw[hy]at ry;unfold iE.f;refine Ev.bind rx (lC (Ev.bind ry ?_));refine Ev.step (f:=fun k=>if(!true)=true then(some false)else((gi.f k t x).bind fun ER=>((gi.f k t y).bind fun ES=>(iE.l0 k ER ES 0)))) (fun k=>rfl) (fz (by decide) (Ev.bind (pz hx) (Ev.bind (pz hy) ?_)));exact AL (by rw[mQ,mQ,lx,ly]) (by rw[mQ];omega) 0 (Nat.zero_le _)
theorem vu {t:Int} {l:List Int} (h:lu t l=true) {v:Int} (h0:0≤v) (h1:v≤all t) {a:Int} (ha:a=0∨a=1):Ev (fun k=>jm.f k t l a v) (if v=0 then([],false)else(tY l a v.toNat,true)):=by
 obtain⟨ht,hl,hx,_⟩:=jD.1 h;have h8:=ni t;have r:=nW t (l:=l) (by omega);rw[h]at r;have hs:zx t v=true:=decide_eq_true ⟨ht,h0,h1⟩;have Ft:=pV t;unfold jm.f;refine Ev.bind r (lC (gZ (wv t v) ?_));rw[hs];refine lC ?_;by_cases e:v=0
 ·rw[if_pos e];exact fx e (Ev.step (f:=fun _=>some ((([]:List Int)),false)) (fun k=>rfl) (Ev.now _))
 ·rw[if_neg e];refine fz e (gZ (nO _ _ _) ?_);rw[decide_eq_true (by omega)];obtain⟨n,rfl⟩:=Int.eq_ofNat_of_zero_le h0;rw[Int.toNat_natCast];refine Ev.step (f:=fun k=>if(!true)=true then(some ((([]:List Int)),false))else(if a=0 then((iy.f k l (n:Int)).bind fun ET=>((je.f k l ET).bind fun EU=>(some (EU,true))))else((je.f k l (n:Int)).bind fun EV=>(some (EV,true))))) (fun k=>rfl) (fz (by decide) ?_);unfold tY;by_cases a0:a=0
  ·rw[if_pos a0];exact fx a0 (Ev.bind (nX (by omega) n) (Ev.bind (ur (by omega) hx _) (Ev.now _)))
  ·rw[if_neg a0];exact fz a0 (Ev.bind (ur (by omega) hx n) (Ev.now _))
theorem nF (t:Int) {l:List Int} {ls:List (List Int)} (hn:l.length≤100) (hs:ls.length≤100) (hl:∀y∈ls,y.length≤100):Ev (fun k=>gR.f k t l ls) (t,l,ls):=by
 unfold gR.f;refine gZ rfl (fx (by show 0+l.length<_;omega) ?_);rw[List.nil_append]
 have key:∀i,i≤ls.length→Ev (fun k=>gR.l0 k ls (ls.length:Int) (i:Int) t l (ls.take i)) (t,l,ls):=by
  apply down
  ·refine Ev.step (fun k=>rfl) (fz (by omega) (ky (Ev.now _) ?_));rw[List.take_length]
  ·intro i hi ih;have:=hl _ (List.getElem_mem hi);refine Ev.step (fun k=>rfl) (fx (by omega) (fx (by omega) (fx (by omega) (gZ rfl (fx (by rw[pY hi];show 0+ls[i].length<_;omega) (fx (by rw[List.length_take];omega) ?_))))));rw[pY hi,w1 hi (by omega),List.nil_append];rw[List.take_succ_eq_append_getElem hi]at ih;exact ih
 exact key 0 (Nat.zero_le _)
theorem rE {α:Type} {l:List α} {y:α} (h:y∈l.dropLast):y∈l:=by rw[List.dropLast_eq_take]at h;exact List.mem_of_mem_take h
def pD (t:Int) (l:List Int) (ls:List (List Int)):Int×List Int×List (List Int)×Bool:=(t,l,ls,false)
def push (l:List Int) (ls:List (List Int)):List (List Int):=if ls.length+1>10 then(ls++ [l]).drop 1 else ls++ [l]
def vM (t:Int) (l:List Int) (ls:List (List Int)) (a:Int) (s:ByteArray):Int×List Int×List (List Int)×Bool:=
 if a=2∧s.size=0 then(if ls= []then pD t l ls else(t,ls.getLastD [],ls.dropLast,true))
 else if a=0∨a=1 then
  (if(holds t s).2=true then(if(holds t s).1=0 then pD t l ls else(if tY l a (holds t s).1.toNat=l then pD t l ls else(t,tY l a (holds t s).1.toNat,push l ls,true)))else pD t l ls)
 else pD t l ls
theorem mE {t:Int} {l:List Int} {ls:List (List Int)}:nf t l ls=true↔mT t l=true∧ls.length≤10∧∀y∈ls,mT t y=true:=by
 unfold nf;rw[Bool.and_eq_true,Bool.and_eq_true,decide_eq_true_iff,List.all_eq_true]
theorem ye {ls:List (List Int)} (h:ls≠ []):kT ls (wrap64 ((ls.length:Int) - 1))=ls.getLastD []∧wrap64 ((ls.length:Int) - 1)=((ls.length - 1:Nat):Int)∧ls.take (wrap64 ((ls.length:Int) - 1)).toNat=ls.dropLast∨¬ls.length≤100:=by
 by_cases hn:ls.length≤100
 ·left;have hp:0<ls.length:=List.length_pos_iff.2 h;have e:wrap64 ((ls.length:Int) - 1)=((ls.length - 1:Nat):Int):=by rw[oz (by omega) (by omega)];omega
  refine⟨?_,e,?_⟩
  ·rw[e,pY (by omega),List.getLastD_eq_getLast?,List.getLast?_eq_getElem?,List.getElem?_eq_getElem (by omega)];rfl
  ·rw[e,Int.toNat_natCast,List.dropLast_eq_take]
 ·exact Or.inr hn
theorem isNil (a:Int) (s:ByteArray):(a==2&&(s.toList==([]:List UInt8)))=true↔a=2∧s.size=0:=by
 rw[Bool.and_eq_true,beq_iff_eq,beq_iff_eq,pT]
set_option maxHeartbeats 1000000 in
theorem tK {t:Int} {l:List Int} {ls:List (List Int)} (hm:nf t l ls=true) (a:Int) (s:ByteArray):Ev (fun k=>hY.f k t l ls a s) (vM t l ls a s):=by
 obtain⟨htl,h9,hls⟩:=mE.1 hm;obtain⟨hr,_⟩:=lv.1 htl;obtain⟨ht,hl,hx,_⟩:=jD.1 hr;have h8:=(ni t).1
 have hlen:∀y∈ls,y.length≤100:=fun y hy=>by
  have:=(jD.1 (lv.1 (hls y hy)).1).2.1;omega
 have hc:=nF t (l:=l) (ls:=ls) (by omega) (by omega) hlen;unfold hY.f vM;refine Ev.bind hc ?_;by_cases hb:a=2∧s.size=0
 ·rw[if_pos hb];refine fx ((isNil a s).2 hb) ?_;by_cases he:ls= []
  ·rw[if_pos he];subst he;exact fx (show wrap64 (((([]:List (List Int)).length:Nat):Int) - 1)<0 by decide+kernel) (Ev.now _)
  ·rw[if_neg he];have hp:0<ls.length:=List.length_pos_iff.2 he;obtain⟨r1,r2,r3⟩:=(ye he).resolve_right (fun k=>k (by omega));have hlast:ls.getLastD []∈ls:=by rw[List.getLastD_eq_getLast?,List.getLast?_eq_some_getLast he];exact List.getLast_mem he
   have hc2:=nF t (l:=ls.getLastD []) (ls:=ls.dropLast) (hlen _ hlast) (by rw[List.length_dropLast];omega) (fun y hy=>hlen y (rE hy));refine fz (by dsimp only;rw[r2];omega) (fx (by dsimp only;rw[r2];omega) (fx (by dsimp only;rw[r2];omega) (fx (by dsimp only;rw[r2];omega) ?_)));dsimp only;rw[r1,r3];exact Ev.bind hc2 (Ev.now _)
 ·rw[if_neg hb];refine fz (fun k=>hb ((isNil a s).1 k)) ?_;have no:Ev (fun k=>hY.j0 k true t l ls a s t l ls) (pD t l ls):=Ev.step (f:=fun _=>some (t,l,ls,false)) (fun k=>rfl) (Ev.now _);have CO:∀v:Int,Ev (fun k=>hY.j1 k v true t l ls a s t l ls) (pD t l ls):=fun v=>Ev.step (f:=fun _=>some (t,l,ls,false)) (fun k=>rfl) (Ev.now _)
  have go:a=0∨a=1→Ev (fun k=>hY.j0 k false t l ls a s t l ls) (if(holds t s).2=true then(if(holds t s).1=0 then pD t l ls else(if tY l a (holds t s).1.toNat=l then pD t l ls else(t,tY l a (holds t s).1.toNat,push l ls,true)))else pD t l ls):=by
   intro ha;refine Ev.step (f:=fun k=>(jH.f k t s).bind fun yf=>(if yf.2=true then(hY.j1 k yf.1 (yf.1==0) t l ls a s t l ls)else(hY.j1 k yf.1 true t l ls a s t l ls))) (fun k=>rfl) (Ev.bind (me t s) ?_);by_cases h2:(holds t s).2=true
   ·rw[if_pos h2];refine fx h2 ?_;have eh:holds t s=((holds t s).1,true):=by rw[←h2]
    obtain⟨_,v0,v1⟩:=ow eh;obtain⟨v,ev⟩:=Int.eq_ofNat_of_zero_le v0;have hv2:v<2^wn t:=by have:=pX ht;omega
    rw[ev,Int.toNat_natCast];by_cases e0:(v:Int)=0
    ·rw[if_pos e0,show((v:Int)==0)=true from by rw[e0];rfl];exact CO _
    ·rw[if_neg e0,show((v:Int)==0)=false from beq_eq_false_iff_ne.2 e0];have hq:=tJ hr a v;have hql:(tY l a v).length≤100:=by have:=(jD.1 (lv.1 hq).1).2.1;omega
     have two:Ev (fun k=>hY.j2 k (v:Int) a t l ls t l ls) (if tY l a v=l then pD t l ls else(t,tY l a v,push l ls,true)):=by
      refine Ev.step (f:=fun k=>(iv.f k t l a (v:Int)).bind fun Cj=>((ie.f k Cj l).bind fun EW=>(if EW=true then(some (t,l,ls,false))else(if ls.length<5864062014805 then((some (ls++ [l]:List (List Int))).bind fun AM=>(if(AM.length:Int)>10 then(if 1≤(AM.length:Int)then((gR.f k t Cj (AM.drop (1:Int).toNat)).bind fun tL=>(some (tL.1,tL.2.1,tL.2.2,true)))else(none))else((gR.f k t Cj AM).bind fun tL=>(some (tL.1,tL.2.1,tL.2.2,true)))))else(none))))) (fun k=>rfl) (Ev.bind (wY ht hl hx hv2 a) (Ev.bind (wq (by omega)) ?_));by_cases e:tY l a v=l
      ·rw[if_pos e];exact fx (decide_eq_true e) (Ev.now _)
      ·rw[if_neg e]
       have hall:∀y∈ls++ [l],y.length≤100:=fun y hy=>by
        rcases List.mem_append.1 hy with hy|hy
        ·exact hlen y hy
        ·rw[List.mem_singleton.1 hy];omega
       have hln:(ls++ [l]).length=ls.length+1:=by rw[List.length_append,List.length_singleton]
       refine fz (by rw[decide_eq_false e];decide) (fx (by omega) (gZ rfl ?_));unfold push;by_cases h10:ls.length+1>10
       ·rw[if_pos h10];have hc3:=nF t (l:=tY l a v) (ls:=(ls++ [l]).drop 1) hql (by rw[List.length_drop];omega) (fun y hy=>hall y (List.mem_of_mem_drop hy));exact fx (by rw[hln];omega) (fx (by rw[hln];omega) (Ev.bind hc3 (Ev.now _)))
       ·rw[if_neg h10];have hc3:=nF t (l:=tY l a v) (ls:=ls++ [l]) hql (by omega) hall;exact fz (by rw[hln];omega) (Ev.bind hc3 (Ev.now _))
     refine Ev.step (f:=fun k=>if a=1 then(hY.j2 k (v:Int) 1 t l ls t l ls)else(hY.j2 k (v:Int) 0 t l ls t l ls)) (fun k=>rfl) ?_;rcases ha with rfl|rfl
     ·exact fz (by decide) two
     ·exact fx rfl two
   ·rw[if_neg h2];exact fz h2 (CO _)
  by_cases a0:a=0
  ·rw[if_pos (Or.inl a0)];exact fx a0 (go (Or.inl a0))
  ·refine fz a0 ?_;by_cases a1:a=1
   ·rw[if_pos (Or.inr a1),show(a !=1)=false from by rw[a1];rfl];exact go (Or.inr a1)
   ·rw[if_neg (by omega),show(a !=1)=true from bne_iff_ne.2 a1];exact no
theorem zK {l:List Int} {ls:List (List Int)} (h:ls.length≤10):(push l ls).length≤10:=by
 unfold push;split
 ·rw[List.length_drop,List.length_append,List.length_singleton];omega
 ·rw[List.length_append,List.length_singleton];omega
theorem zL {l y:List Int} {ls:List (List Int)} (h:y∈push l ls):y∈ls∨y=l:=by
 have:y∈ls++ [l]:=by
  unfold push at h;split at h
  ·exact List.mem_of_mem_drop h
  ·exact h
 rcases List.mem_append.1 this with k|k
 ·exact Or.inl k
 ·exact Or.inr (List.mem_singleton.1 k)
theorem zM {t:Int} {l:List Int} {ls:List (List Int)} (hm:nf t l ls=true) (a:Int) (s:ByteArray):nf (vM t l ls a s).1 (vM t l ls a s).2.1 (vM t l ls a s).2.2.1=true:=by
 obtain⟨htl,h10,hls⟩:=mE.1 hm;unfold vM;have no:nf (pD t l ls).1 (pD t l ls).2.1 (pD t l ls).2.2.1=true:=hm;split
 ·split
  ·exact no
  ·rename_i he;have hlast:ls.getLastD []∈ls:=by rw[List.getLastD_eq_getLast?,List.getLast?_eq_some_getLast he];exact List.getLast_mem he
   exact mE.2 ⟨hls _ hlast,by rw[List.length_dropLast];omega,fun y hy=>hls y (rE hy)⟩
 ·split
  ·split
   ·split
    ·exact no
    ·split
     ·exact no
     ·exact mE.2 ⟨tJ (lv.1 htl).1 _ _,zK h10,fun y hy=>(zL hy).elim (hls y) (fun e=>e▸htl)⟩
   ·exact no
  ·exact no
theorem rF {n:Nat} (h:n≤10):(num n).size≤5:=by
 have:∀m:Nat,m<11→(num m).size≤5:=by decide+kernel
 exact this n (by omega)
def texts (l:List Int):List ByteArray:=l.map fun x=>num x.toNat
def jn:ByteArray→List Int→ByteArray
 |c,[]=>c
 |c,x::r=>jn ((c++(⟨#[44]⟩:ByteArray))++num x.toNat) r
theorem yg:∀(r:List Int) (c:ByteArray),(jn c r).toList=c.toList++Lib.joinTail [44] ((texts r).map (·.data.toList))
 | [],c=>by simp[jn,texts,Lib.joinTail]
 |x::r,c=>by
  unfold jn
  rw[yg r,pC,pC,toList_data (num x.toNat),show(⟨#[44]⟩:ByteArray).toList= [44] from by decide+kernel]
  simp[texts,Lib.joinTail]
theorem yh:∀(r:List Int) (c:ByteArray),(∀x∈r,x.toNat≤10)→(jn c r).size≤c.size+6*r.length
 | [],c,_=>by simp[jn]
 |x::r,c,h=>by
  unfold jn
  have h1:=yh r ((c++(⟨#[44]⟩:ByteArray))++num x.toNat) (fun y hy=>h y (List.mem_cons_of_mem _ hy))
  have h2:=rF (h x List.mem_cons_self)
  rw[ByteArray.size_append,ByteArray.size_append,show(⟨#[44]⟩:ByteArray).size=1 from rfl]at h1
  rw[List.length_cons]
  omega
theorem xm {x:Int} {r:List Int} (h:∀y∈x::r,y.toNat≤10) (hr:r.length≤8):strings_Join.f (texts (x::r)) (⟨#[44]⟩:ByteArray)=some (jn (num x.toNat) r):=by
 have e:Lib.join ((texts (x::r)).map (·.data.toList)) (⟨#[44]⟩:ByteArray).data.toList=(jn (num x.toNat) r).toList:=by
  rw[yg]
  show Lib.join ((num x.toNat).data.toList::(texts r).map (·.data.toList)) [44]=_
  rw[Lib.join_cons,toList_data]
 have hs:=yh r (num x.toNat) (fun y hy=>h y (List.mem_cons_of_mem _ hy));have hn:=rF (h x List.mem_cons_self);unfold strings_Join.f;rw[e,jN,if_pos (by simp[texts];omega),if_pos (by omega)];refine congrArg some (ext_list ?_);rw[toList_data]
theorem wD {l:List Int} (hl:l.length≤8) (hx:∀x∈l,0≤x∧x≤9) {r:ByteArray} (hj:strings_Join.f (texts l) (⟨#[44]⟩:ByteArray)=some r):Ev (fun k=>iK.l0 k ([]:List ByteArray) l (l.length:Int) 0) r:=by
 have key:∀i,i≤l.length→Ev (fun k=>iK.l0 k ((texts l).take i) l (l.length:Int) (i:Int)) r:=by
  apply down
  ·rw[List.take_of_length_le (by simp[texts])];exact Ev.step (fun k=>rfl) (fz (by omega) (gZ hj (Ev.now _)))
  ·intro i hi ih;have hm:=hx _ (wX hi);have e:texts l=texts l:=rfl
   have ht:(texts l).take (i+1)=(texts l).take i++ [num (rd l (i:Int)).toNat]:=by
    have hi':i<(texts l).length:=by simp[texts];exact hi
    rw[List.take_succ_eq_append_getElem hi',mP hi];simp[texts]
   rw[ht]at ih
   have hn:strconv_Itoa.f (rd l (i:Int))=some (num (rd l (i:Int)).toNat):=by
    have:=(qG (n:=(rd l (i:Int)).toNat) (by omega)).1;rw[Int.toNat_of_nonneg hm.1]at this;exact this
   refine Ev.step (fun k=>rfl) (fx (by omega) (fx (by omega) (fx (by omega) (gZ hn (fx ?_ ?_)))))
   ·rw[List.length_take];omega
   ·rw[w1 hi (by omega)];exact ih
 exact key 0 (Nat.zero_le _)
theorem rZ {x:Int} (h0:0≤x) (h:x.toNat≤10):Ev (fun k=>il.f k x) (num x.toNat):=by
 have:=qf h;rw[Int.toNat_of_nonneg h0]at this;exact this
theorem xn {t:Int} {l:List Int} {ls:List (List Int)} {q:Int} {m:List Int} {ms:List (List Int)} (hl:l.length≤8) (hx:∀x∈l,0≤x∧x≤9):∀i,i≤l.length→∀c:ByteArray,c.size≤6*i→
  Ev (fun k=>fq.l0 k c (i:Int) t l ls q m ms) (q,m,ms,jn c (l.drop i)):=by
 apply down
 ·intro c _;rw[List.drop_length];exact Ev.step (fun k=>rfl) (fz (by omega) (Ev.now _))
 ·intro i hi ih c hc;have hm:=hx _ (wX hi);have hs:=rF (n:=(rd l (i:Int)).toNat) (by omega);have hc1:(c++(⟨#[44]⟩:ByteArray)).size=c.size+1:=by rw[ByteArray.size_append];rfl
  rw[List.drop_eq_getElem_cons hi,←mP hi];refine Ev.step (fun k=>rfl) (fx (by omega) (fx (by omega) (fx (by omega) (Ev.bind (rZ hm.1 (by omega)) (fx (by omega) ?_)))));rw[w1 hi (by omega)];exact ih _ (by rw[ByteArray.size_append];omega)
theorem wE (b:Bool):∃r,mS.f b=some r∧na.f b=some r:=by cases b<;>exact⟨_,rfl,rfl⟩
theorem yC (t:Int) {s:ByteArray} (hs:s.size≤1000000000):∃v:Int×Int×Bool,Ev (fun k=>kN.f k t s) v∧Ev (fun k=>gX.f k t s) v∧(v=(0,0,false)∨∃a b:Nat,v=((a:Int),(b:Int),true)∧a≠0∧a≤all t∧b≤all t):=by
 rcases rN t (s:=s) (by omega)with⟨k,h1,h2,h3⟩|⟨h1,h2⟩
 ·refine⟨_,h3,rO t hs h1 h2,?_⟩;rcases vq t s k with e|⟨a,b,e,_,g1,g2,g3⟩
  ·exact Or.inl e
  ·exact Or.inr ⟨a,b,e,g1,g2,g3⟩
 ·exact⟨_,h2,qN t hs h1,Or.inl rfl⟩
def plain (s:ByteArray):Bool:=(List.range s.size).all fun(j:Nat)=>decide (32≤bt s (j:Int)∧bt s (j:Int)≤126)
def plainFrom (s:ByteArray) (i:Nat):Bool:=(List.range' i (s.size - i)).all fun(j:Nat)=>decide (32≤bt s (j:Int)∧bt s (j:Int)≤126)
theorem qI (s:ByteArray):plainFrom s s.size=true:=by unfold plainFrom;rw[Nat.sub_self];rfl
theorem qg (s:ByteArray) {i:Nat} (h:i<s.size):plainFrom s i=(decide (32≤bt s (i:Int)∧bt s (i:Int)≤126)&&plainFrom s (i+1)):=by
 unfold plainFrom;rw[show s.size - i=(s.size - (i+1))+1 from by omega,List.range'_succ,List.all_cons]
theorem qJ (s:ByteArray):plainFrom s 0=plain s:=by
 unfold plainFrom plain;rw[Nat.sub_zero,List.range_eq_range']
theorem wF {s:ByteArray} (hs:s.size≤9223372036854775807):Ev (fun k=>jE.f k s) (plain s&&decide (s.size≠0)):=by
 unfold jE.f;rw[←qJ]
 have key:∀i,i≤s.size→Ev (fun k=>jE.l0 k s (i:Int)) (plainFrom s i&&decide (s.size≠0)):=by
  apply down
  ·refine Ev.step (fun k=>rfl) (fz (by omega) (ky (Ev.now _) ?_));rw[qI,Bool.true_and];exact decide_eq_decide.2 (by omega)
  ·intro i hi ih;refine Ev.step (fun k=>rfl) (fx (by omega) (fx (by omega) ?_));rw[qg s hi];by_cases h1:bt s (i:Int)<32
   ·rw[decide_eq_false (by omega)];exact fx h1 (Ev.now _)
   ·by_cases h2:bt s (i:Int)>126
    ·rw[decide_eq_false (by omega)];exact fz h1 (fx h2 (Ev.now _))
    ·rw[decide_eq_true (by omega),w1 hi hs];exact fz h1 (fz h2 ih)
 exact key 0 (Nat.zero_le _)
theorem tM {s:ByteArray} (hs:s.size≤9223372036854775807):Ev (fun k=>jd.f k s) (plain s):=by
 unfold jd.f;rw[←qJ]
 have key:∀i,i≤s.size→Ev (fun k=>jd.l0 k s (s.size:Int) (i:Int)) (plainFrom s i):=by
  apply down
  ·refine Ev.step (fun k=>rfl) (fz (by omega) (ky (Ev.now _) ?_));rw[qI]
  ·intro i hi ih;refine Ev.step (fun k=>rfl) (fx (by omega) (fx (by omega) (fx (by omega) ?_)));rw[qg s hi];by_cases h1:bt s (i:Int)<32
   ·rw[decide_eq_false (by omega)];exact fx h1 (Ev.now _)
   ·by_cases h2:bt s (i:Int)>126
    ·rw[decide_eq_false (by omega)];exact fz h1 (fx h2 (Ev.now _))
    ·rw[decide_eq_true (by omega),w1 hi hs];exact fz h1 (fz h2 ih)
 exact key 0 (Nat.zero_le _)
def vv:ByteArray:=⟨#[102,105,114,115,116,32]⟩
def AO:ByteArray:=⟨#[97,108,108,32]⟩
def zN:ByteArray:=⟨#[98,97,99,107]⟩
def nC (kind:Int) (s:ByteArray):ByteArray:=
 if kind=2∧s.size=0 then zN else if plain s=true∧s.size≠0 then(if kind=0 then vv++s else if kind=1 then AO++s else⟨#[]⟩)else⟨#[]⟩
theorem sD (kind:Int) (s:ByteArray):(kind==2&&(s.toList==([]:List UInt8)))=true↔kind=2∧s.size=0:=by
 rw[Bool.and_eq_true,beq_iff_eq,beq_iff_eq,pT]
theorem yD (s:ByteArray):((⟨#[102,105,114,115,116]⟩:ByteArray)++(⟨#[32]⟩:ByteArray))++s=vv++s:=by congr 1
theorem AP (s:ByteArray):((⟨#[97,108,108]⟩:ByteArray)++(⟨#[32]⟩:ByteArray))++s=AO++s:=by congr 1
theorem pH (kind:Int) {s:ByteArray} (hs:s.size≤9223372036854775000):Ev (fun k=>iJ.f k kind s) (nC kind s):=by
 unfold iJ.f nC;refine gZ (nO _ _ _) ?_
 have off:(¬(plain s=true∧s.size≠0)∨(kind≠0∧kind≠1))→Ev (fun k=>iJ.j0 k false kind s) (if kind=2∧s.size=0 then zN else if plain s=true∧s.size≠0 then(if kind=0 then vv++s else if kind=1 then AO++s else⟨#[]⟩)else⟨#[]⟩):=by
  intro h;refine Ev.step (fun k=>rfl) ?_;simp only[iJ.j0];refine fz Bool.false_ne_true ?_;by_cases h2:kind=2∧s.size=0
  ·rw[if_pos h2];exact fx ((sD kind s).2 h2) (Ev.now _)
  ·rw[if_neg h2];refine fz (fun x=>h2 ((sD kind s).1 x)) (ky (Ev.now _) ?_);rcases h with h|h
   ·rw[if_neg h]
   ·rw[if_neg h.1,if_neg h.2,ite_self]
 by_cases h:0≤kind∧kind≤1
 ·refine fx (decide_eq_true h) (Ev.bind (wF (by omega)) ?_);by_cases hp:plain s=true∧s.size≠0
  ·rw[hp.1,decide_eq_true hp.2,if_neg (by omega),if_pos ⟨rfl,hp.2⟩];refine Ev.step (fun k=>rfl) ?_;simp only[iJ.j0];have hk:kind=0∨kind=1:=by omega
   rcases hk with rfl|rfl
   ·exact fx rfl (gZ rfl (fx (by omega) (fx (by decide) (fx (by decide) (fx (by rw[ByteArray.size_append];show 6+s.size≤_;omega) (ky (Ev.now _) (yD s)))))))
   ·exact fx rfl (gZ rfl (fx (by omega) (fx (by decide) (fx (by decide) (fx (by rw[ByteArray.size_append];show 4+s.size≤_;omega) (ky (Ev.now _) (AP s)))))))
  ·have e:(plain s&&decide (s.size≠0))=false:=by
    rw[Bool.eq_false_iff];intro x;rw[Bool.and_eq_true,decide_eq_true_iff]at x;exact hp x
   rw[e];exact off (Or.inl hp)
 ·exact fz (by rw[decide_eq_false h];decide) (off (Or.inr (by omega)))
theorem mH (kind:Int) {s:ByteArray} (hs:s.size≤9223372036854775000):Ev (fun k=>jh.f k kind s) (nC kind s):=by
 unfold jh.f nC;by_cases h2:kind=2∧s.size=0
 ·rw[if_pos h2];exact fx ((sD kind s).2 h2) (Ev.now _)
 rw[if_neg h2];refine fz (fun x=>h2 ((sD kind s).1 x)) ?_;by_cases h0:s.size=0
 ·rw[if_neg (fun x=>x.2 h0)];refine fx ((pT s).2 h0) (Ev.step (fun k=>rfl) ?_);simp only[jh.j0];exact fx trivial (Ev.now _)
 ·refine fz (fun x=>h0 ((pT s).1 x)) (Ev.bind (tM (by omega)) ?_);cases hp:plain s with
  |false=>
   rw[if_neg (fun x=>Bool.false_ne_true x.1)];refine Ev.step (fun k=>rfl) ?_;simp only[jh.j0,Bool.not_false];exact fx trivial (Ev.now _)
  |true=>
   rw[if_pos ⟨rfl,h0⟩];refine Ev.step (fun k=>rfl) ?_;simp only[jh.j0,Bool.not_true];refine fz Bool.false_ne_true ?_;by_cases k0:kind=0
   ·exact fx k0 (fx (by omega) (ky (Ev.now _) (if_pos k0).symm))
   ·refine fz k0 ?_;by_cases k1:kind=1
    ·exact fx k1 (fx (by omega) (ky (Ev.now _) ((if_neg k0).trans (if_pos k1)).symm))
    ·exact fz k1 (ky (Ev.now _) ((if_neg k0).trans (if_neg k1)).symm)
theorem AQ (l:List UInt8):(⟨l.toArray⟩:ByteArray).toList=l:=by rw[toList_data]
theorem sj (l:List UInt8) (c:UInt8):(Lib.indexByte l c= -1∧c∉l)∨∃(a b:List UInt8),l=a++c::b∧c∉a∧Lib.indexByte l c=(a.length:Int):=by
 induction l with
 |nil=>exact Or.inl ⟨rfl,by simp⟩
 |cons x l ih=>
  unfold Lib.indexByte;by_cases hx:(x==c)=true
  ·rw[if_pos hx];exact Or.inr ⟨[],l,by rw[beq_iff_eq.1 hx];rfl,by simp,rfl⟩
  ·rw[if_neg hx];have Fu:c≠x:=fun e=>hx (by rw[e];exact beq_self_eq_true x)
   rcases ih with⟨h1,h2⟩|⟨a,b,h1,h2,h3⟩
   ·rw[h1,if_pos (by decide)];exact Or.inl ⟨rfl,by rw[List.mem_cons];rintro(h|h);exact Fu h;exact h2 h⟩
   ·rw[h3,if_neg (by rw[beq_iff_eq];omega)];exact Or.inr ⟨x::a,b,by rw[h1];rfl,by rw[List.mem_cons];rintro(h|h);exact Fu h;exact h2 h,by rw[List.length_cons];omega⟩
theorem uz (s:ByteArray) (c:UInt8) (hs:s.size<9223372036854775807):
  (strings_Cut.f s ⟨#[c]⟩=some (s,(⟨#[]⟩:ByteArray),false)∧c∉s.toList)∨
  ∃a b:ByteArray,strings_Cut.f s ⟨#[c]⟩=some (a,b,true)∧s.toList=a.toList++c::b.toList∧c∉a.toList:=by
 have hbt:bt (⟨#[c]⟩:ByteArray) 0=(c.toNat:Int):=rfl
 have key:∀i:Int,stringslite_Index.f s ⟨#[c]⟩=some i→i=Lib.indexByte s.toList c→((strings_Cut.f s ⟨#[c]⟩=some (s,(⟨#[]⟩:ByteArray),false)∧c∉s.toList)∨
  ∃a b:ByteArray,strings_Cut.f s ⟨#[c]⟩=some (a,b,true)∧s.toList=a.toList++c::b.toList∧c∉a.toList):=by
  intro i hi hv;unfold strings_Cut.f stringslite_Cut.f;rw[hi,Option.bind_some];rcases sj s.toList c with⟨h1,h2⟩|⟨a,b,h1,h2,h3⟩
  ·rw[hv,h1,if_pos (by decide)];exact Or.inl ⟨rfl,h2⟩
  ·have hl:a.length+(b.length+1)=s.size:=by rw[←jN,h1,List.length_append,List.length_cons]
   rw[hv,h3,if_neg (by omega),Int.toNat_natCast,if_pos (by show a.length+1≤s.size;omega)];refine Or.inr ⟨_,_,rfl,?_,?_⟩
   ·rw[nQ,List.drop_zero,Nat.sub_zero,nw,h1,List.take_left];congr 1
    show c::b=c::(a++c::b).drop (a.length+1)
    rw[List.drop_append,List.drop_of_length_le (by omega),show a.length+1 - a.length=1 from by omega];rfl
   ·rw[nQ,List.drop_zero,Nat.sub_zero,h1,List.take_left];exact h2
 unfold stringslite_Index.f at key;rw[if_pos (show(⟨#[c]⟩:ByteArray).size=1 from rfl),if_pos hs]at key;by_cases he:((⟨#[c]⟩:ByteArray).toList==s.toList)=true
 ·rw[if_pos he]at key;refine key 0 rfl ?_;have:s.toList= [c]:=by rw[←beq_iff_eq.1 he];exact AQ [c]
  rw[this]
  show(0:Int)=if c==c then 0 else _
  rw[if_pos (beq_self_eq_true c)]
 ·rw[if_neg he]at key;refine key _ rfl ?_
  show Lib.indexByte s.data.toList ((bt (⟨#[c]⟩:ByteArray) 0).toNat.toUInt8)=_
  rw[hbt,Int.toNat_natCast,toList_data];congr 1;simp
def nV (s:ByteArray):Int×ByteArray×Bool:=
 if s.toList= [98,97,99,107]then(2,(⟨#[]⟩:ByteArray),true)
 else if[102,105,114,115,116,32]<+:s.toList∧plain (s.extract 6 s.size)=true∧6<s.size then(0,s.extract 6 s.size,true)
 else if[97,108,108,32]<+:s.toList∧plain (s.extract 4 s.size)=true∧4<s.size then(1,s.extract 4 s.size,true)
 else(0,(⟨#[]⟩:ByteArray),false)
theorem yE:zN.toList= [98,97,99,107]:=by decide+kernel
theorem xo:vv.toList= [102,105,114,115,116,32]:=by decide+kernel
theorem zO:AO.toList= [97,108,108,32]:=by decide+kernel
theorem rG:(⟨#[]⟩:ByteArray).toList= []:=by decide+kernel
theorem tN {p:List UInt8} {s:ByteArray} (h:p<+:s.toList):s.toList=p++(s.extract p.length s.size).toList:=by
 obtain⟨t,ht⟩:=h;rw[nw,←ht,List.drop_left]
theorem extract_size (s:ByteArray) {i:Nat} (_:i≤s.size):(s.extract i s.size).size=s.size - i:=by rw[←jN,nw,List.length_drop,jN]
theorem rP (s t:ByteArray):(nC 0 t).toList=s.toList↔(s.toList= [102,105,114,115,116,32]++t.toList∧plain t=true∧t.size≠0)∨(¬(plain t=true∧t.size≠0)∧s.toList= []):=by
 unfold nC;rw[if_neg (by omega)];by_cases h:plain t=true∧t.size≠0
 ·rw[if_pos h,if_pos rfl,pC,xo];exact⟨fun k=>Or.inl ⟨k.symm,h⟩,fun k=>k.elim (fun k=>k.1.symm) (fun k=>absurd h k.1)⟩
 ·rw[if_neg h,rG];exact⟨fun k=>Or.inr ⟨h,k.symm⟩,fun k=>k.elim (fun k=>absurd k.2 h) (fun k=>k.2.symm)⟩
theorem tO (s t:ByteArray):(nC 1 t).toList=s.toList↔(s.toList= [97,108,108,32]++t.toList∧plain t=true∧t.size≠0)∨(¬(plain t=true∧t.size≠0)∧s.toList= []):=by
 unfold nC;rw[if_neg (by omega)];by_cases h:plain t=true∧t.size≠0
 ·rw[if_pos h,if_neg (by omega),if_pos rfl,pC,zO];exact⟨fun k=>Or.inl ⟨k.symm,h⟩,fun k=>k.elim (fun k=>k.1.symm) (fun k=>absurd h k.1)⟩
 ·rw[if_neg h,rG];exact⟨fun k=>Or.inr ⟨h,k.symm⟩,fun k=>k.elim (fun k=>absurd k.2 h) (fun k=>k.2.symm)⟩
theorem se {s t:ByteArray} (h:s.toList= [102,105,114,115,116,32]++t.toList) (hp:plain t=true) (h0:t.size≠0):nV s=(0,t,true):=by
 have e:s.extract 6 s.size=t:=ext_list (by rw[nw,h];rfl);have hl:s.size=6+t.size:=by rw[←jN,h,List.length_append,jN];rfl
 unfold nV;rw[if_neg (by rw[h];intro k;injection k with k _;exact absurd k (by decide)),if_pos ⟨⟨t.toList,h.symm⟩,by rw[e];exact hp,by omega⟩,e]
theorem uA {s t:ByteArray} (h:s.toList= [97,108,108,32]++t.toList) (hp:plain t=true) (h0:t.size≠0):nV s=(1,t,true):=by
 have e:s.extract 4 s.size=t:=ext_list (by rw[nw,h];rfl);have hl:s.size=4+t.size:=by rw[←jN,h,List.length_append,jN];rfl
 unfold nV
 rw[if_neg (by rw[h];intro k;injection k with k _;exact absurd k (by decide)),
  if_neg (fun k=>by obtain⟨⟨u,hu⟩,_⟩:=k;rw[h]at hu;injection hu with hu _;exact absurd hu (by decide)),
  if_pos ⟨⟨t.toList,h.symm⟩,by rw[e];exact hp,by omega⟩,e]
theorem tQ {s:ByteArray} (h:s.toList= [98,97,99,107]):nV s=(2,(⟨#[]⟩:ByteArray),true):=by unfold nV;rw[if_pos h]
theorem nk {s:ByteArray} (h1:s.toList≠ [98,97,99,107]) (h2:∀t:ByteArray,s.toList= [102,105,114,115,116,32]++t.toList→¬(plain t=true∧t.size≠0))
  (h3:∀t:ByteArray,s.toList= [97,108,108,32]++t.toList→¬(plain t=true∧t.size≠0)):nV s=(0,(⟨#[]⟩:ByteArray),false):=by
 unfold nV
 rw[if_neg h1,if_neg (fun k=>h2 _ (tN k.1) ⟨k.2.1,by show(s.extract 6 s.size).size≠0;rw[extract_size s (by omega)];omega⟩),
  if_neg (fun k=>h3 _ (tN k.1) ⟨k.2.1,by show(s.extract 4 s.size).size≠0;rw[extract_size s (by omega)];omega⟩)]
theorem wH (s:ByteArray):(s.toList= [98,97,99,107]∧nV s=(2,(⟨#[]⟩:ByteArray),true))∨
  (∃t:ByteArray,s.toList= [102,105,114,115,116,32]++t.toList∧plain t=true∧t.size≠0∧nV s=(0,t,true))∨
  (∃t:ByteArray,s.toList= [97,108,108,32]++t.toList∧plain t=true∧t.size≠0∧nV s=(1,t,true))∨
  (s.toList≠ [98,97,99,107]∧(∀t:ByteArray,s.toList= [102,105,114,115,116,32]++t.toList→¬(plain t=true∧t.size≠0))∧(∀t:ByteArray,s.toList= [97,108,108,32]++t.toList→¬(plain t=true∧t.size≠0))∧nV s=(0,(⟨#[]⟩:ByteArray),false)):=by
 by_cases h1:s.toList= [98,97,99,107]
 ·exact Or.inl ⟨h1,tQ h1⟩
 by_cases h2:∃t:ByteArray,s.toList= [102,105,114,115,116,32]++t.toList∧plain t=true∧t.size≠0
 ·obtain⟨t,a,b,c⟩:=h2;exact Or.inr (Or.inl ⟨t,a,b,c,se a b c⟩)
 by_cases h3:∃t:ByteArray,s.toList= [97,108,108,32]++t.toList∧plain t=true∧t.size≠0
 ·obtain⟨t,a,b,c⟩:=h3;exact Or.inr (Or.inr (Or.inl ⟨t,a,b,c,uA a b c⟩))
 have k2:∀t:ByteArray,s.toList= [102,105,114,115,116,32]++t.toList→¬(plain t=true∧t.size≠0):=fun t a b=>h2 ⟨t,a,b⟩
 have k3:∀t:ByteArray,s.toList= [97,108,108,32]++t.toList→¬(plain t=true∧t.size≠0):=fun t a b=>h3 ⟨t,a,b⟩
 exact Or.inr (Or.inr (Or.inr ⟨h1,k2,k3,nk h1 k2 k3⟩))
theorem qO {c:UInt8}:∀{a a' b b':List UInt8},c∉a→c∉a'→a++c::b=a'++c::b'→a=a'
 | [],[],_,_,_,_,_=>rfl
 | [],y::a',_,_,_,h2,e=>by injection e with e _;exact absurd (by rw[e];exact List.mem_cons_self) h2
 |x::a,[],_,_,h1,_,e=>by injection e with e _;exact absurd (by rw[←e];exact List.mem_cons_self) h1
 |x::a,y::a',_,_,h1,h2,e=>by
  injection e with e1 e2
  rw[e1,qO (fun k=>h1 (List.mem_cons_of_mem _ k)) (fun k=>h2 (List.mem_cons_of_mem _ k)) e2]
theorem vw (t:ByteArray) (h:t.size=0):(nC 2 t).toList= [98,97,99,107]:=by unfold nC;rw[if_pos ⟨rfl,h⟩,yE]
theorem AR (t:ByteArray) (h:t.size≠0):(nC 2 t).toList= []:=by
 unfold nC;rw[if_neg (fun k=>h k.2)];split
 ·rw[if_neg (by omega),if_neg (by omega),rG]
 ·exact rG
theorem pI {s:ByteArray} (hs:s.size≤9223372036854774000):Ev (fun k=>lD.f k s) (nV s):=by
 unfold lD.f;rcases uz s 32 (by omega)with⟨hc,hn⟩|⟨a,b,hc,hl,hn⟩
 ·refine gZ hc ?_
  show Ev (fun k=>if s.toList=_ then _ else _) _
  have n1:∀t:ByteArray,s.toList≠ [102,105,114,115,116,32]++t.toList:=fun t e=>hn (by rw[e];simp)
  have n2:∀t:ByteArray,s.toList≠ [97,108,108,32]++t.toList:=fun t e=>hn (by rw[e];simp)
  by_cases h1:s.toList= [102,105,114,115,116]
  ·refine fx h1 (Ev.bind (mH 0 (s:=⟨#[]⟩) (by decide)) (fz ?_ ?_))
   ·show¬(nC 0 (⟨#[]⟩:ByteArray)).toList=s.toList
    rw[rP];rintro(⟨e,_⟩|⟨_,e⟩)
    ·exact n1 _ e
    ·rw[h1]at e;cases e
   ·rw[nk (by rw[h1];decide) (fun t e=>absurd e (n1 t)) (fun t e=>absurd e (n2 t))];exact Ev.now _
  refine fz h1 ?_;by_cases h2:s.toList= [97,108,108]
  ·refine fx h2 (Ev.bind (mH 1 (s:=⟨#[]⟩) (by decide)) (fz ?_ ?_))
   ·show¬(nC 1 (⟨#[]⟩:ByteArray)).toList=s.toList
    rw[tO];rintro(⟨e,_⟩|⟨_,e⟩)
    ·exact n2 _ e
    ·rw[h2]at e;cases e
   ·rw[nk (by rw[h2];decide) (fun t e=>absurd e (n1 t)) (fun t e=>absurd e (n2 t))];exact Ev.now _
  refine fz h2 ?_;by_cases h3:s.toList= [98,97,99,107]
  ·refine fx h3 (Ev.bind (mH 2 (s:=⟨#[]⟩) (by decide)) (fx ?_ ?_))
   ·show(nC 2 (⟨#[]⟩:ByteArray)).toList=s.toList
    rw[vw _ rfl,h3]
   ·rw[tQ h3];exact Ev.now _
  refine fz h3 ?_;rw[nk h3 (fun t e=>absurd e (n1 t)) (fun t e=>absurd e (n2 t))];exact Ev.now _
 ·refine gZ hc ?_
  show Ev (fun k=>if a.toList=_ then _ else _) _
  have hbs:b.size≤9223372036854775000:=by
   have:=congrArg List.length hl;rw[List.length_append,List.length_cons,jN,jN,jN]at this;omega
  have nb:s.toList≠ [98,97,99,107]:=fun e=>by
   have:(32:UInt8)∈s.toList:=by rw[hl];simp
   rw[e]at this;revert this;decide
  by_cases h1:a.toList= [102,105,114,115,116]
  ·have hl1:s.toList= [102,105,114,115,116,32]++b.toList:=by rw[hl,h1];rfl
   refine fx h1 (Ev.bind (mH 0 hbs) ?_);by_cases hp:plain b=true∧b.size≠0
   ·rw[se hl1 hp.1 hp.2];exact fx ((rP s b).2 (Or.inl ⟨hl1,hp⟩)) (Ev.now _)
   ·refine fz (fun k=>?_) ?_
    ·rcases(rP s b).1 k with k|k
     ·exact hp k.2
     ·rw[hl1]at k;cases k.2
    ·rw[nk nb (fun t e k=>hp (by
      have:t=b:=ext_list (List.append_cancel_left (e.symm.trans hl1));rwa [this]at k)) (fun t e=>by rw[hl1]at e;injection e with e _;exact absurd e (by decide))]
     exact Ev.now _
  refine fz h1 ?_;by_cases h2:a.toList= [97,108,108]
  ·have hl1:s.toList= [97,108,108,32]++b.toList:=by rw[hl,h2];rfl
   refine fx h2 (Ev.bind (mH 1 hbs) ?_);by_cases hp:plain b=true∧b.size≠0
   ·rw[uA hl1 hp.1 hp.2];exact fx ((tO s b).2 (Or.inl ⟨hl1,hp⟩)) (Ev.now _)
   ·refine fz (fun k=>?_) ?_
    ·rcases(tO s b).1 k with k|k
     ·exact hp k.2
     ·rw[hl1]at k;cases k.2
    ·rw[nk nb (fun t e=>by rw[hl1]at e;injection e with e _;exact absurd e (by decide)) (fun t e k=>hp (by
      have:t=b:=ext_list (List.append_cancel_left (e.symm.trans hl1));rwa [this]at k))]
     exact Ev.now _
  refine fz h2 ?_
  have n1:∀t:ByteArray,s.toList≠ [102,105,114,115,116,32]++t.toList:=fun t e=>by
   have e2:a.toList++32::b.toList= [102,105,114,115,116]++32::t.toList:=hl.symm.trans e;exact h1 (qO hn (by decide) e2)
  have n2:∀t:ByteArray,s.toList≠ [97,108,108,32]++t.toList:=fun t e=>by
   have e2:a.toList++32::b.toList= [97,108,108]++32::t.toList:=hl.symm.trans e;exact h2 (qO hn (by decide) e2)
  by_cases h3:a.toList= [98,97,99,107]
  ·refine fx h3 (Ev.bind (mH 2 hbs) (fz (fun k=>?_) ?_))
   ·have hk:(nC 2 b).toList=s.toList:=k;by_cases hb0:b.size=0
    ·rw[vw b hb0]at hk;exact nb hk.symm
    ·rw[AR b hb0,hl]at hk;simp at hk
   ·rw[nk nb (fun t e=>absurd e (n1 t)) (fun t e=>absurd e (n2 t))];exact Ev.now _
  refine fz h3 ?_;rw[nk nb (fun t e=>absurd e (n1 t)) (fun t e=>absurd e (n2 t))];exact Ev.now _
theorem rH {α:Type} {c:Prop} [Decidable c] {g:Nat→Option α} {r:α} (h:Ev g r):Ev (fun n=>if c then g n else g n) r:=by
 by_cases k:c
 ·exact fx k h
 ·exact fz k h
def what:ByteArray:=⟨#[119,104,97,116]⟩
def Bv (k:Nat) (t:Int) (l:List Int) (c:Int) (a b:ByteArray):Option ByteArray:=
 if a.toList=([110,111,114,109,97,108,108,121]:List UInt8)then((kN.f k t b).bind fun v=>(if v.2.2=true then((ks.f k t l v.1 v.2.1).bind fun x=>((mS.f x).bind fun y=>(some y)))else(some (⟨#[119,104,97,116]⟩:ByteArray))))else((jH.f k t b).bind fun h=>(if h.2=true then(if a.toList=([98,101,108,105,101,118,101]:List UInt8)then((mS.f ((Go.bits .andNot .i64 c h.1)==0)).bind fun y=>(some y))else(if a.toList=([102,105,114,109]:List UInt8)then((lJ.f k t l h.1).bind fun x=>((strconv_Itoa.f x).bind fun y=>(some y)))else(if a.toList=([103,105,118,101]:List UInt8)then((mb.f k t l h.1).bind fun x=>((gU.f k t x).bind fun y=>(some y)))else(if a.toList=([117,112,100,97,116,101]:List UInt8)then((iF.f k t c h.1).bind fun x=>((gU.f k t x).bind fun y=>(some y)))else(if a.toList=([110,101,97,114]:List UInt8)then((jt.f k t c h.1).bind fun x=>((gU.f k t x).bind fun y=>(some y)))else(some (⟨#[119,104,97,116]⟩:ByteArray)))))))else(some (⟨#[119,104,97,116]⟩:ByteArray))))
def zP (k:Nat) (t:Int) (l:List Int) (ls:List (List Int)) (q:Int) (m:List Int) (ms:List (List Int)) (c:Int) (a b:ByteArray):Option (Int×List Int×(List (List Int))×ByteArray):=
 (iM.f k t b).bind fun h=>((gX.f k t b).bind fun v=>(if a.toList=([98,101,108,105,101,118,101]:List UInt8)then(fq.j3 k c a h.1 h.2 v.2.2 h.2 t l ls q m ms v.1 v.2.1)else(fq.j3 k c a h.1 h.2 v.2.2 false t l ls q m ms v.1 v.2.1)))
section
variable {t:Int} {l:List Int} {ls:List (List Int)} {q:Int} {m:List Int} {ms:List (List Int)} {c x ra rb:Int} {a b s:ByteArray} {ok r9:Bool} {R:Int×List Int×(List (List Int))×ByteArray}
theorem zQ (n:a.toList= [110,111,114,109,97,108,108,121]) (h:Ev (fun k=>fq.j8 k r9 t l ls q m ms ra rb) R):Ev (fun k=>fq.j3 k c a x ok r9 false t l ls q m ms ra rb) R:=
 Ev.step (fun _=>rfl) (fz (by rw[n];decide) (Ev.step (fun _=>rfl) (fz (by rw[n];decide) (Ev.step (fun _=>rfl) (fz (by rw[n];decide) (Ev.step (fun _=>rfl) (fz (by rw[n];decide) (Ev.step (fun _=>rfl) (fx n h)))))))))
theorem EX (n:a.toList≠ [110,111,114,109,97,108,108,121]):Ev (fun k=>fq.j3 k c a x false r9 false t l ls q m ms ra rb) (q,m,ms,what):=
 Ev.step (fun _=>rfl) (rH (Ev.step (fun _=>rfl) (rH (Ev.step (fun _=>rfl) (rH (Ev.step (fun _=>rfl) (rH (Ev.step (fun _=>rfl) (fz n (Ev.step (fun _=>rfl) (Ev.now _)))))))))))
theorem Ck (n:a.toList≠ [110,111,114,109,97,108,108,121]) (n1:a.toList≠ [102,105,114,109]) (n2:a.toList≠ [103,105,118,101]) (n3:a.toList≠ [117,112,100,97,116,101]) (n4:a.toList≠ [110,101,97,114]):Ev (fun k=>fq.j3 k c a x ok r9 false t l ls q m ms ra rb) (q,m,ms,what):=
 Ev.step (fun _=>rfl) (fz n1 (Ev.step (fun _=>rfl) (fz n2 (Ev.step (fun _=>rfl) (fz n3 (Ev.step (fun _=>rfl) (fz n4 (Ev.step (fun _=>rfl) (fz n (Ev.step (fun _=>rfl) (Ev.now _)))))))))))
theorem xp (hr:lu t l=true) (a:ByteArray) {b:ByteArray} (hb:b.size≤1048576):∃r,Ev (fun k=>Bv k t l ((kz l (all t):Nat):Int) a b) r∧∀q m ms,Ev (fun k=>zP k t l ls q m ms ((kz l (all t):Nat):Int) a b) (q,m,ms,r):=by
 obtain⟨v,ri,rs,rc⟩:=yC t (s:=b) (by omega);have hi:=me t b;have hs:=nD t b;obtain⟨x,ok,hh⟩:∃x ok,holds t b=(x,ok):=⟨_,_,rfl⟩;rw[hh]at hi hs;unfold Bv zP;by_cases n:a.toList= [110,111,114,109,97,108,108,121]
 ·have nb:a.toList≠ [98,101,108,105,101,118,101]:=by rw[n];decide
  rcases rc with rfl|⟨A,B,rfl,g0,g1,g2⟩
  ·exact⟨_,fx n (Ev.bind ri (fz Bool.false_ne_true (Ev.now _))),fun q m ms=>Ev.bind hs (Ev.bind rs (fz nb (zQ n (Ev.step (fun _=>rfl) (Ev.now _)))))⟩
  ·obtain⟨y,y1,y2⟩:=wE (decide (kz l A&&& B=kz l A));exact⟨y,fx n (Ev.bind ri (fx rfl (Ev.bind (xf hr g1) (gZ y1 (Ev.now _))))),fun q m ms=>Ev.bind hs (Ev.bind rs (fz nb (zQ n (Ev.step (fun _=>rfl) (Ev.bind (xg hr g0 g1 g2) (gZ y2 (Ev.now _)))))))⟩
 ·cases ok with
  |false=>exact⟨_,fz n (Ev.bind hi (fz Bool.false_ne_true (Ev.now _))),fun q m ms=>Ev.bind hs (Ev.bind rs (rH (EX n)))⟩
  |true=>
   obtain⟨ht,h0,h1⟩:=ow hh;obtain⟨s,rfl⟩:=Int.eq_ofNat_of_zero_le h0;have hx:s≤all t:=by omega
   have hc:kz l (all t)≤all t:=mf ht (jD.1 hr).2.1 _;by_cases n0:a.toList= [98,101,108,105,101,118,101]
   ·obtain⟨y,y1,y2⟩:=wE (decide (kz l (all t)&&& s=kz l (all t)));exact⟨y,fz n (Ev.bind hi (fx rfl (fx n0 (gZ (by rw[wA (big (nE hc))];exact y1) (Ev.now _))))),fun q m ms=>Ev.bind hs (Ev.bind rs (fx n0 (Ev.step (fun _=>rfl) (Ev.bind (qx (nE hc)) (gZ (by rw[ya];exact y2) (Ev.now _))))))⟩
   ·by_cases n1:a.toList= [102,105,114,109]
    ·obtain⟨z,ez,hz⟩:=zD hr (all t^^^s);have f1:=wB hr hx;have f2:=uf hr hx;rw[ez]at f1 f2;exact⟨_,fz n (Ev.bind hi (fx rfl (fz n0 (fx n1 (Ev.bind f1 (gZ (qG hz).1 (Ev.now _))))))),fun q m ms=>Ev.bind hs (Ev.bind rs (fz n0 (Ev.step (fun _=>rfl) (fx n1 (Ev.step (fun _=>rfl) (Ev.bind f2 (Ev.bind (qf hz) (Ev.now _))))))))⟩
    ·by_cases n2:a.toList= [103,105,118,101]
     ·have hg:=zE hr s;exact⟨_,fz n (Ev.bind hi (fx rfl (fz n0 (fz n1 (fx n2 (Ev.bind (xh hr hx) (Ev.bind (oe ht hg) (Ev.now _)))))))),fun q m ms=>Ev.bind hs (Ev.bind rs (fz n0 (Ev.step (fun _=>rfl) (fz n1 (Ev.step (fun _=>rfl) (fx n2 (Ev.step (fun _=>rfl) (Ev.bind (xi hr hx) (Ev.bind (oh ht hg) (Ev.now _))))))))))⟩
     ·by_cases n3:a.toList= [117,112,100,97,116,101]
      ·have hg:=AF ht (a:=kz l (all t)) hx;exact⟨_,fz n (Ev.bind hi (fx rfl (fz n0 (fz n1 (fz n2 (fx n3 (Ev.bind (uX ht hc hx) (Ev.bind (oe ht hg) (Ev.now _))))))))),fun q m ms=>Ev.bind hs (Ev.bind rs (fz n0 (Ev.step (fun _=>rfl) (fz n1 (Ev.step (fun _=>rfl) (fz n2 (Ev.step (fun _=>rfl) (fx n3 (Ev.step (fun _=>rfl) (Ev.bind (uY ht hc hx) (Ev.bind (oh ht hg) (Ev.now _))))))))))))⟩
      ·by_cases n4:a.toList= [110,101,97,114]
       ·have hg:=sC ht hc hx;exact⟨_,fz n (Ev.bind hi (fx rfl (fz n0 (fz n1 (fz n2 (fz n3 (fx n4 (Ev.bind (uV ht hc hx) (Ev.bind (oe ht hg) (Ev.now _)))))))))),fun q m ms=>Ev.bind hs (Ev.bind rs (fz n0 (Ev.step (fun _=>rfl) (fz n1 (Ev.step (fun _=>rfl) (fz n2 (Ev.step (fun _=>rfl) (fz n3 (Ev.step (fun _=>rfl) (fx n4 (Ev.step (fun _=>rfl) (Ev.bind (rD ht hc hx) (Ev.bind (oh ht hg) (Ev.now _))))))))))))))⟩
       ·exact⟨what,fz n (Ev.bind hi (fx rfl (fz n0 (fz n1 (fz n2 (fz n3 (fz n4 (Ev.now _)))))))),fun q m ms=>Ev.bind hs (Ev.bind rs (fz n0 (Ck n n1 n2 n3 n4)))⟩
theorem Bw {p:Nat} (hp:p≤s.size) (hs:s.size≤1048576) (hn:∀j:Nat,j<p→bt s (j:Int)≠32) (he:p=s.size∨bt s (p:Int)=32) (h:Ev (fun k=>fq.j2 k s c (p:Int) t l ls q m ms) R):Ev (fun k=>fq.l1 k s c 0 t l ls q m ms) R:=by
 have key:∀i,i≤p→Ev (fun k=>fq.l1 k s c (i:Int) t l ls q m ms) R:=by
  apply down
  ·by_cases e:p=s.size
   ·exact Ev.step (fun _=>rfl) (fz (by omega) h)
   ·exact Ev.step (fun _=>rfl) (fx (by omega) (fx (by omega) (fx (he.resolve_left e) h)))
  ·intro i hi ih;refine Ev.step (fun _=>rfl) (fx (by omega) (fx (by omega) (fz (hn i hi) ?_)));rw[w1 (n:=s.size) (by omega) (by omega)];exact ih
 exact key 0 (Nat.zero_le _)
theorem Cl {p:Nat} (h:p=s.size):Ev (fun k=>fq.j2 k s c ((p:Nat):Int) t l ls q m ms) (q,m,ms,what):=Ev.step (fun _=>rfl) (fx (by omega) (Ev.now _))
theorem DF {p:Nat} (hp:p<s.size) (hs:s.size≤1048576) (ha:s.extract 0 p=a) (hb:s.extract (p+1) s.size=b) (h:Ev (fun k=>zP k t l ls q m ms c a b) R):Ev (fun k=>fq.j2 k s c (p:Int) t l ls q m ms) R:=by
 refine Ev.step (fun _=>rfl) (fz (by omega) (fx (by omega) (fx (by omega) ?_)));rw[w1 (n:=s.size) (by omega) (by omega),Int.toNat_natCast,Int.toNat_natCast,ha,hb];exact fx (by omega) (fx (by omega) h)
theorem xq (hr:lu t l=true) (hls:ls.length≤10) (hs:s.size≤1048576):∃r,Ev (fun k=>iK.f k t l ls s) r∧∀q m ms,Ev (fun k=>(lI.f k t l).bind fun c=>(if s.toList=([99,111,114,101]:List UInt8)then((iq.f k t c).bind fun x=>(some (q,m,ms,x)))else(if s.toList=([114,97,110,107,115]:List UInt8)then(if 0<(l.length:Int)then((il.f k (rd l 0)).bind fun x=>(fq.l0 k x 1 t l ls q m ms))else(none))else(if s.toList=([112,97,115,116]:List UInt8)then((il.f k (ls.length:Int)).bind fun x=>(some (q,m,ms,x)))else(fq.l1 k s c 0 t l ls q m ms))))) (q,m,ms,r):=by
 obtain⟨ht,hl,hx,h0⟩:=jD.1 hr;have h8:=len8 hr;have hc:kz l (all t)≤all t:=mf ht hl _;have ci:=pF hr;have cs:=yB hr;by_cases n1:s.toList= [99,111,114,101]
 ·exact⟨_,gZ ci (fx n1 (Ev.bind (oe ht hc) (Ev.now _))),fun q m ms=>Ev.bind cs (fx n1 (Ev.bind (oh ht hc) (Ev.now _)))⟩
 ·by_cases n2:s.toList= [114,97,110,107,115]
  ·cases l with
   |nil=>cases h0
   |cons x r=>
    have hy:∀y∈x::r,y.toNat≤10:=fun y hy=>by have:=hx y hy;omega
    have hj:=xm hy (by rw[List.length_cons]at h8;omega);have hx0:=hx x List.mem_cons_self;refine⟨_,gZ ci (fz n1 (fx n2 (wD h8 hx hj))),fun q m ms=>Ev.bind cs (fz n1 (fx n2 (fx (by rw[List.length_cons];omega) (Ev.bind (rZ (x:=rd (x::r) 0) hx0.1 (hy x List.mem_cons_self)) ?_))))⟩;exact xn h8 hx 1 (by rw[List.length_cons];omega) (num x.toNat) (Nat.le_trans (rF (hy x List.mem_cons_self)) (by decide))
  ·by_cases n3:s.toList= [112,97,115,116]
   ·exact⟨_,gZ ci (fz n1 (fz n2 (fx n3 (gZ (qG hls).1 (Ev.now _))))),fun q m ms=>Ev.bind cs (fz n1 (fz n2 (fx n3 (Ev.bind (qf hls) (Ev.now _)))))⟩
   ·have yi:∀{j:Nat} {d:List UInt8},j<d.length→d<+:s.toList→32∉d→bt s (j:Int)≠32:=by
     intro j d hj hp hn e;have hjs:j<s.size:=by rw[←jN];exact Nat.lt_of_lt_of_le hj hp.length_le
     rw[rM s hjs]at e;have e2:s.toList[j]'(by rw[jN];exact hjs)=32:=UInt8.toNat_inj.1 (by have:(32:UInt8).toNat=32:=rfl;omega);rw[←hp.getElem hj]at e2;exact hn (e2▸List.getElem_mem hj)
    rcases uz s 32 (by omega)with⟨hk,hn⟩|⟨a,b,hk,he,hn⟩
    ·refine⟨what,gZ ci (fz n1 (fz n2 (fz n3 (gZ hk (fz Bool.false_ne_true (Ev.now _)))))),fun q m ms=>Ev.bind cs (fz n1 (fz n2 (fz n3 (Bw (Nat.le_refl _) hs ?_ (Or.inl rfl) (Cl rfl)))))⟩;exact fun j hj=>yi (d:=s.toList) (by rw[jN];exact hj) (List.prefix_refl _) hn
    ·have hz:a.size+(b.size+1)=s.size:=by rw[←jN s,he,List.length_append,List.length_cons,jN,jN]
     have hp:a.size<s.size:=by omega
     obtain⟨r,g1,g2⟩:=xp (ls:=ls) hr a (b:=b) (by omega);refine⟨r,gZ ci (fz n1 (fz n2 (fz n3 (gZ hk (fx rfl g1))))),fun q m ms=>Ev.bind cs (fz n1 (fz n2 (fz n3 (Bw (p:=a.size) (by omega) hs ?_ (Or.inr ?_) (DF hp hs ?_ ?_ (g2 q m ms))))))⟩
     ·exact fun j hj=>yi (d:=a.toList) (by rw[jN];exact hj) ⟨_,he.symm⟩ hn
     ·rw[rM s hp];have:s.toList[a.size]?=some 32:=by rw[he,List.getElem?_append_right (by rw[jN];omega),jN,Nat.sub_self];rfl
      rw[List.getElem?_eq_getElem (by rw[jN];exact hp)]at this;rw[Option.some.inj this];rfl
     ·apply ext_list;rw[nQ,he,List.drop_zero,Nat.sub_zero,←jN a,List.take_left'];rfl
     ·apply ext_list;rw[nw,he,←jN a,←List.drop_drop,List.drop_left']
      ·rfl
      ·rfl
end
set_option maxHeartbeats 1000000 in
theorem qh {t:Int} {l:List Int} {ls:List (List Int)} (hn:l.length≤9223372036854775807) (hs:ls.length≤9223372036854775807) (hl:∀y∈ls,y.length≤9223372036854775807) (a:Int) (s:ByteArray):
  Ev (fun k=>ib.f k t l ls a s) (if nf t l ls=true then vM t l ls a s else(0,[],[],false)):=by
 unfold ib.f;refine Ev.bind (nR t hn hs hl) ?_;by_cases hm:nf t l ls=true
 ·rw[if_pos hm];refine fx hm ?_;obtain⟨htl,h9,hls⟩:=mE.1 hm;obtain⟨hr,htd⟩:=lv.1 htl;obtain⟨ht,hll,hx,_⟩:=jD.1 hr;have h8:=(ni t).1
  have hlen:∀y∈ls,y.length≤100:=fun y hy=>by
   have:=(jD.1 (lv.1 (hls y hy)).1).2.1;omega
  refine Ev.bind (tH t (by omega) (by omega) hlen) ?_;unfold vM;have CO:∀v:Int,Ev (fun k=>ib.j1 k v true t l ls a s t l ls) (pD t l ls):=fun v=>Ev.step (f:=fun _=>some (t,l,ls,false)) (fun k=>rfl) (Ev.now _)
  have go:Ev (fun k=>ib.j0 k false t l ls a s t l ls) (if a=0∨a=1 then(if(holds t s).2=true then(if(holds t s).1=0 then pD t l ls else(if tY l a (holds t s).1.toNat=l then pD t l ls else(t,tY l a (holds t s).1.toNat,push l ls,true)))else pD t l ls)else pD t l ls):=by
   refine Ev.step (f:=fun k=>(iM.f k t s).bind fun zR=>(if zR.2=true then((kj.f a 0 1).bind fun EY=>(ib.j1 k zR.1 (!EY) t l ls a s t l ls))else(ib.j1 k zR.1 true t l ls a s t l ls))) (fun k=>rfl) (Ev.bind (nD t s) ?_);by_cases h2:(holds t s).2=true
   ·refine fx h2 (gZ (nO _ _ _) ?_);by_cases ha:a=0∨a=1
    ·rw[if_pos ha,if_pos h2,decide_eq_true (by omega)];have eh:holds t s=((holds t s).1,true):=by rw[←h2]
     obtain⟨_,v0,v1⟩:=ow eh;have hch:=vu hr v0 v1 ha;obtain⟨v,ev⟩:=Int.eq_ofNat_of_zero_le v0;rw[ev]at hch⊢;rw[Int.toNat_natCast]at hch⊢;have Fv:∀q:List Int,Ev (fun k=>ib.j2 k q true t l ls) (pD t l ls):=fun q=>Ev.step (f:=fun _=>some (t,l,ls,false)) (fun k=>rfl) (Ev.now _)
     refine Ev.step (f:=fun k=>(jm.f k t l a (v:Int)).bind fun oB=>(if oB.2=true then((iE.f k t oB.1 l).bind fun Cf=>(ib.j2 k oB.1 Cf t l ls))else(ib.j2 k oB.1 true t l ls))) (fun k=>rfl) (Ev.bind hch ?_);by_cases e0:(v:Int)=0
     ·rw[if_pos e0,if_pos e0];exact nU (Fv _)
     ·rw[if_neg e0,if_neg e0];have hq:=tJ hr a v;obtain⟨hq1,hq2⟩:=lv.1 hq;have hso:=vt hq1 hr;rw[hq2,htd]at hso;refine lC (Ev.bind hso ?_);by_cases e:tY l a v=l
      ·rw[if_pos e,decide_eq_true e];exact Fv _
      ·rw[if_neg e,decide_eq_false e];refine Ev.step (f:=fun k=>if ls.length<5864062014805 then((some (ls++ [l]:List (List Int))).bind fun Cm=>(if(Cm.length:Int)>10 then(some (t,tY l a v,Cm.drop (1:Int).toNat,true))else(some (t,tY l a v,Cm,true))))else(none)) (fun k=>rfl) (fx (by omega) (gZ rfl ?_));have hln:(ls++ [l]).length=ls.length+1:=by rw[List.length_append,List.length_singleton]
       unfold push;by_cases h10:ls.length+1>10
       ·rw[if_pos h10];exact fx (by rw[hln];omega) (Ev.now _)
       ·rw[if_neg h10];exact fz (by rw[hln];omega) (Ev.now _)
    ·rw[if_neg ha,decide_eq_false (by omega)];exact CO _
   ·refine fz h2 ?_;by_cases ha:a=0∨a=1
    ·rw[if_pos ha,if_neg h2];exact CO _
    ·rw[if_neg ha];exact CO _
  by_cases hb:a=2∧s.size=0
  ·rw[if_pos hb];refine fx ((isNil a s).2 hb) ?_;by_cases he:ls= []
   ·rw[if_pos he];rw[if_neg (by omega)]at go;rw[show decide (((ls.length:Nat):Int)>0)=false from by rw[he];rfl];exact go
   ·rw[if_neg he];have hp:0<ls.length:=List.length_pos_iff.2 he;obtain⟨r1,r2,r3⟩:=(ye he).resolve_right (fun k=>k (by omega));rw[decide_eq_true (by omega)];refine Ev.step (f:=fun k=>if 0≤(wrap64 ((ls.length:Int) - 1))then(if(wrap64 ((ls.length:Int) - 1))<(ls.length:Int)then(some (t,kT ls (wrap64 ((ls.length:Int) - 1)),ls.take (wrap64 ((ls.length:Int) - 1)).toNat,true))else(none))else(none)) (fun k=>rfl) (fx (by rw[r2];omega) (fx (by rw[r2];omega) ?_));rw[r1,r3];exact Ev.now _
  ·rw[if_neg hb];exact fz (fun k=>hb ((isNil a s).1 k)) go
 ·rw[if_neg hm];exact fz hm (Ev.now _)
theorem AU {l:List nZ} {i:Nat} (h:i<l.length):nH l (i:Int)=l[i]:=by
 unfold nH;rw[Int.toNat_natCast,List.getD_eq_getElem?_getD,List.getElem?_eq_getElem h];rfl
def ny (s:ByteArray):List nZ→Int×ByteArray×Bool
 | []=>(0,(⟨#[]⟩:ByteArray),false)
 |x::t=>if s.toList≠ []∧(nC x.f0 x.f1).toList=s.toList then(x.f0,x.f1,true)else ny s t
theorem zS (s:ByteArray) {L:List nZ} (hL:L.length≤1000) (hs:∀x∈L,x.f1.size≤9223372036854774000):
  ∀i,i≤L.length→Ev (fun k=>gW.l0 k s L (i:Int)) (ny s (L.drop i)):=by
 apply down
 ·rw[List.drop_length];exact Ev.step (fun k=>rfl) (fz (by omega) (Ev.now _))
 ·intro i hi ih;rw[List.drop_eq_getElem_cons hi];refine Ev.step (fun k=>rfl) (fx (by omega) ?_);by_cases h0:s.toList= []
  ·refine fx h0 ?_;rw[w1 hi (by omega)];unfold ny;rw[if_neg (fun k=>k.1 h0)];exact ih
  ·refine fz h0 (fx (by omega) ?_);rw[AU hi];refine Ev.bind (pH _ (s:=L[i].f1) (by have:=hs _ (List.getElem_mem hi);omega)) ?_;unfold ny;by_cases hd:(nC L[i].f0 L[i].f1).toList=s.toList
   ·rw[if_pos ⟨h0,hd⟩];exact fx hd (Ev.now _)
   ·rw[if_neg (fun k=>hd k.2),w1 hi (by omega)];exact fz hd ih
def yj (s:ByteArray):List nZ:=(⟨2,(⟨#[]⟩:ByteArray)⟩:nZ)::((if 6<s.size then[(⟨0,s.extract 6 s.size⟩:nZ)]else[])++(if 4<s.size then[(⟨1,s.extract 4 s.size⟩:nZ)]else[]))
theorem wJ (s:ByteArray):ny s (yj s)=nV s:=by
 have f0:∀L:List nZ,(∀x∈L,s.toList= []∨(nC x.f0 x.f1).toList≠s.toList)→ny s L=(0,(⟨#[]⟩:ByteArray),false):=by
  intro L h;induction L with
  |nil=>rfl
  |cons x t ih=>
   unfold ny;rw[if_neg (fun k=>by rcases h x List.mem_cons_self with h|h;exact k.1 h;exact h k.2)];exact ih (fun y hy=>h y (List.mem_cons_of_mem _ hy))
 have fb:s.toList≠ [98,97,99,107]→ny s (yj s)=ny s ((if 6<s.size then[(⟨0,s.extract 6 s.size⟩:nZ)]else[])++(if 4<s.size then[(⟨1,s.extract 4 s.size⟩:nZ)]else[])):=by
  intro h
  show(if _ then _ else _)=_
  rw[if_neg (fun k=>h (by rw[←k.2];exact vw _ rfl))]
 rcases wH s with⟨h,e⟩|⟨t,h,hp,h0,e⟩|⟨t,h,hp,h0,e⟩|⟨h1,h2,h3,e⟩
 ·rw[e]
  show(if _ then _ else _)=_
  rw[if_pos ⟨by rw[h];decide,by rw[h];exact vw _ rfl⟩]
 ·have hl:s.size=6+t.size:=by rw[←jN,h,List.length_append,jN];rfl
  have ex:s.extract 6 s.size=t:=ext_list (by rw[nw,h];rfl);rw[e,fb (by rw[h];intro k;injection k with k _;exact absurd k (by decide)),if_pos (by omega),ex]
  show(if _ then _ else _)=_
  rw[if_pos ⟨by rw[h];simp,(rP s t).2 (Or.inl ⟨h,hp,h0⟩)⟩]
 ·have hl:s.size=4+t.size:=by rw[←jN,h,List.length_append,jN];rfl
  have ex:s.extract 4 s.size=t:=ext_list (by rw[nw,h];rfl)
  have n6:ny s ((if 6<s.size then[(⟨0,s.extract 6 s.size⟩:nZ)]else[])++ [(⟨1,t⟩:nZ)])=ny s [(⟨1,t⟩:nZ)]:=by
   by_cases c:6<s.size
   ·rw[if_pos c]
    show(if _ then _ else _)=_
    rw[if_neg (fun k=>by
     rcases(rP s _).1 k.2 with⟨k,_⟩|⟨_,k⟩
     ·rw[h]at k;injection k with k _;exact absurd k (by decide)
     ·rw[h]at k;simp at k)]
    rfl
   ·rw[if_neg c];rfl
  rw[e,fb (by rw[h];intro k;injection k with k _;exact absurd k (by decide)),if_pos (c:=4<s.size) (by omega),ex,n6]
  show(if _ then _ else _)=_
  rw[if_pos ⟨by rw[h];simp,(tO s t).2 (Or.inl ⟨h,hp,h0⟩)⟩]
 ·rw[e,fb h1];apply f0;intro x hx;by_cases hs0:s.toList= []
  ·exact Or.inl hs0
  refine Or.inr fun k=>?_
  rcases List.mem_append.1 hx with hx|hx
  ·by_cases c:6<s.size
   ·rw[if_pos c]at hx;rw[List.mem_singleton.1 hx]at k;rcases(rP s _).1 k with⟨k,k2⟩|⟨_,k⟩
    ·exact h2 _ k k2
    ·exact hs0 k
   ·rw[if_neg c]at hx;simp at hx
  ·by_cases c:4<s.size
   ·rw[if_pos c]at hx;rw[List.mem_singleton.1 hx]at k;rcases(tO s _).1 k with⟨k,k2⟩|⟨_,k⟩
    ·exact h3 _ k k2
    ·exact hs0 k
   ·rw[if_neg c]at hx;simp at hx
theorem rQ {s:ByteArray} (hs:s.size≤9223372036854774000):Ev (fun k=>gW.f k s) (nV s):=by
 have hx:∀i:Nat,(s.extract i s.size).size≤9223372036854774000:=fun i=>by rw[←jN,nw,List.length_drop,jN];omega
 rw[←wJ]
 have fin:∀L:List nZ,L.length≤1000→(∀x∈L,x.f1.size≤9223372036854774000)→Ev (fun k=>gW.j1 k s L) (ny s L):=by
  intro L h1 h2;refine Ev.step (fun k=>rfl) ?_;simp only[gW.j1];exact zS s h1 h2 0 (Nat.zero_le _)
 unfold gW.f;refine gZ rfl ?_
 have go:∀L:List nZ,L.length≤900→(∀x∈L,x.f1.size≤9223372036854774000)→Ev (fun k=>gW.j0 k s L) (ny s (L++(if 4<s.size then[(⟨1,s.extract 4 s.size⟩:nZ)]else[]))):=by
  intro L h1 h2;refine Ev.step (fun k=>rfl) ?_;simp only[gW.j0];by_cases c:4<s.size
  ·rw[if_pos c];refine fx (by omega) (fx (by omega) (fx (by omega) (fin _ (by rw[List.length_append];exact Nat.add_le_add h1 (by decide:1≤100)) ?_)));intro x hm;rcases List.mem_append.1 hm with hm|hm
   ·exact h2 x hm
   ·rw[List.mem_singleton.1 hm];exact hx 4
  ·rw[if_neg c,List.append_nil];exact fz (by omega) (fin _ (by omega) h2)
 by_cases c:6<s.size
 ·refine fx (by omega) (fx (by omega) (fx (by decide) ?_))
  have:=go ([(⟨2,(⟨#[]⟩:ByteArray)⟩:nZ)]++ [(⟨0,s.extract 6 s.size⟩:nZ)]) (by simp) (by
   intro x hm;rcases List.mem_append.1 hm with hm|hm
   ·rw[List.mem_singleton.1 hm];exact(by decide:(0:Nat)≤9223372036854774000)
   ·rw[List.mem_singleton.1 hm];exact hx 6)
  unfold yj;rw[if_pos c];exact this
 ·refine fz (by omega) ?_
  have:=go [(⟨2,(⟨#[]⟩:ByteArray)⟩:nZ)] (by decide) (by
   intro x hm;rw[List.mem_singleton.1 hm];exact(by decide:(0:Nat)≤9223372036854774000))
  unfold yj;rw[if_neg c,List.nil_append];exact this
set_option maxRecDepth 100000 in
set_option maxHeartbeats 8000000 in
theorem zT:∀t:Fin 3,∀n:Fin 256,n.val≤all ((t.val:Int)+1)→((gU.f 12 ((t.val:Int)+1) (n.val:Int)).any fun s=>decide (holds ((t.val:Int)+1) s=((n.val:Int),true)))=true:=by decide+kernel
theorem AV {t:Int} (ht:1≤t∧t≤3) {n:Nat} (hn:n≤all t):∃s,Ev (fun k=>gU.f k t (n:Int)) s∧holds t s=((n:Int),true):=by
  have h8:=pV t;have et:(((t - 1).toNat:Nat):Int)+1=t:=by omega
  have h:=zT ⟨(t - 1).toNat,by omega⟩ ⟨n,by omega⟩;simp only[et]at h;cases hc:gU.f 12 t (n:Int)with
  |none=>
    rw[hc]at h;have h9:=h hn;simp at h9
  |some s=>
    rw[hc]at h;exact⟨s,Ev.of (fun k=>gU.mono _ _ _) hc,of_decide_eq_true (h hn)⟩
theorem zU {t:Int} {l:List Int} {ls:List (List Int)} {a:Int} {s:ByteArray} (h:¬(vM t l ls a s).2.2.2=true):vM t l ls a s=(t,l,ls,false):=by
 unfold vM at h⊢;split
 ·rename_i h1;rw[if_pos h1]at h;split
  ·rfl
  ·rename_i h2;rw[if_neg h2]at h;exact absurd rfl h
 ·rename_i h1;rw[if_neg h1]at h;split
  ·rename_i h2;rw[if_pos h2]at h;split
   ·rename_i h3;rw[if_pos h3]at h;split
    ·rfl
    ·rename_i h4;rw[if_neg h4]at h;split
     ·rfl
     ·rename_i h5;rw[if_neg h5]at h;exact absurd rfl h
   ·rfl
  ·rfl
theorem yF {t:Int} {l:List Int} {ls:List (List Int)} (h:nf t l ls=true) {s:ByteArray} (hz:s.size≤1048576):
  ∃q m ms r,Ev (fun k=>ll.f k t l ls s) (q,m,ms,r)∧Ev (fun k=>fq.f k t l ls s) (q,m,ms,r)∧nf q m ms=true∧(¬r.toList= [111,107]→q=t∧m=l∧ms=ls):=by
 obtain⟨o1,o2,o3⟩:=mE.1 h;have l1:=len8 (lv.1 o1).1;have l3:∀y∈ls,y.length≤8:=fun y hy=>len8 (lv.1 (o3 y hy)).1
 have sm:=nR t (l:=l) (ls:=ls) (by omega) (by omega) (fun y hy=>by have:=l3 y hy;omega);rw[h]at sm;have sc:=tH t (l:=l) (ls:=ls) (by omega) (by omega) (fun y hy=>by have:=l3 y hy;omega);have ic:=nF t (l:=l) (ls:=ls) (by omega) (by omega) (fun y hy=>by have:=l3 y hy;omega);have ir:=pI (s:=s) (by omega);have sr:=rQ (s:=s) (by omega);obtain⟨a,d,b,e⟩:∃a d b,nV s=(a,d,b):=⟨_,_,_,rfl⟩;rw[e]at ir sr;cases b with
 |true=>
  have id:=tK h a d;have sd:=qh (t:=t) (l:=l) (ls:=ls) (by omega) (by omega) (fun y hy=>by have:=l3 y hy;omega) a d;rw[if_pos h]at sd;have ok:=zM h a d;have no:=zU (t:=t) (l:=l) (ls:=ls) (a:=a) (s:=d);generalize vM t l ls a d=g at id sd ok no;obtain⟨q,m,ms,b⟩:=g;cases b with
  |true=>exact⟨q,m,ms,_,Ev.bind ir (fx rfl (Ev.bind id (fx rfl (Ev.now _)))),Ev.bind sm (lC (Ev.bind sc (Ev.bind sr (fx rfl (Ev.bind sd (fx rfl (Ev.now _))))))),ok,fun k=>absurd (by decide+kernel) k⟩
  |false=>
   have e:=no (by simp);simp only[Prod.mk.injEq]at e;exact⟨q,m,ms,_,Ev.bind ir (fx rfl (Ev.bind id (fz Bool.false_ne_true (Ev.now _)))),Ev.bind sm (lC (Ev.bind sc (Ev.bind sr (fx rfl (Ev.bind sd (fz Bool.false_ne_true (Ev.now _))))))),ok,fun _=>⟨e.1,e.2.1,e.2.2.1⟩⟩
 |false=>
  obtain⟨r,g1,g2⟩:=xq (lv.1 o1).1 (ls:=ls) o2 hz;exact⟨t,l,ls,r,Ev.bind ir (fz Bool.false_ne_true (Ev.bind ic (Ev.bind g1 (Ev.now _)))),Ev.bind sm (lC (Ev.bind sc (Ev.bind sr (fz Bool.false_ne_true (g2 t l ls))))),h,fun _=>⟨rfl,rfl,rfl⟩⟩
theorem tR {t:Int} {l:List Int} {ls:List (List Int)} (h:nf t l ls=true) {s r:ByteArray} (hz:s.size≤1048576) (hs:(nV s).2.2=false) (ha:Ev (fun k=>iK.f k t l ls s) r):Ev (fun k=>ll.f k t l ls s) (t,l,ls,r):=by
 obtain⟨o1,o2,o3⟩:=mE.1 h;have l1:=len8 (lv.1 o1).1;have l3:∀y∈ls,y.length≤8:=fun y hy=>len8 (lv.1 (o3 y hy)).1
 have ic:=nF t (l:=l) (ls:=ls) (by omega) (by omega) (fun y hy=>by have:=l3 y hy;omega);have ir:=pI (s:=s) (by omega);obtain⟨a,d,b,e⟩:∃a d b,nV s=(a,d,b):=⟨_,_,_,rfl⟩;rw[e]at ir hs;cases b with
 |true=>cases hs
 |false=>exact Ev.bind ir (fz Bool.false_ne_true (Ev.bind ic (Ev.bind ha (Ev.now _))))
theorem xr {t:Int} {l:List Int} {ls:List (List Int)} (h:nf t l ls=true):Ev (fun k=>ll.f k t l ls (⟨#[32]⟩:ByteArray)) (t,l,ls,what):=by
 have hr:=(lv.1 (mE.1 h).1).1;have ht:=(jD.1 hr).1;refine tR h (by decide) (by decide+kernel) ?_;have hh:=me t (⟨#[]⟩:ByteArray);have hn:∀t:Fin 3,(holds ((t.val:Int)+1) (⟨#[]⟩:ByteArray)).2=false:=by decide+kernel
 have hn':(holds t (⟨#[]⟩:ByteArray)).2=false:=by
  have:=hn ⟨(t - 1).toNat,by omega⟩;have e:(((t - 1).toNat:Nat):Int)+1=t:=by omega
  dsimp only at this;rw[e]at this;exact this
 have hc:strings_Cut.f (⟨#[32]⟩:ByteArray) (⟨#[32]⟩:ByteArray)=some ((⟨#[]⟩:ByteArray),(⟨#[]⟩:ByteArray),true):=by decide+kernel
 exact gZ (pF hr) (fz (by decide+kernel) (fz (by decide+kernel) (fz (by decide+kernel) (gZ hc (fx rfl (fz (by decide+kernel) (Ev.bind hh (fz (by rw[hn'];exact Bool.false_ne_true) (Ev.now _)))))))))
theorem yG {t:Int} {l:List Int} {ls:List (List Int)} (h:nf t l ls=true):∃x,Ev (fun k=>ll.f k t l ls (⟨#[99,111,114,101]⟩:ByteArray)) (t,l,ls,x)∧holds t x=(((kz l (all t):Nat):Int),true):=by
 have hr:=(lv.1 (mE.1 h).1).1;obtain⟨ht,hl,_,_⟩:=jD.1 hr;obtain⟨x,e,hx⟩:=AV ht (mf ht hl (all t));exact⟨x,tR h (by decide) (by decide+kernel) (gZ (pF hr) (fx (by decide+kernel) (Ev.bind e (Ev.now _)))),hx⟩
theorem tS {t:Int} {l:List Int} (h:mT t l=true):0<l.length∧l.length≤8:=by
 have h1:=(jD.1 (lv.1 h).1).2.1;have:=ni t;omega
theorem AW (t:Int) (l:List Int) (ls:List (List Int)) (a:Int) (s:ByteArray):(vM t l ls a s).2.2.1.length≤ls.length+1:=by
 have no:(pD t l ls).2.2.1.length≤ls.length+1:=Nat.le_succ _;unfold vM;split
 ·split
  ·exact no
  ·show(ls.dropLast).length≤_
   rw[List.length_dropLast];omega
 ·split
  ·split
   ·split
    ·exact no
    ·split
     ·exact no
     ·show(push l ls).length≤_
      unfold push;split
      ·rw[List.length_drop,List.length_append,List.length_singleton];omega
      ·rw[List.length_append,List.length_singleton];omega
   ·exact no
  ·exact no
theorem xt (t:Int) {l:List Int} {ls:List (List Int)} (hn:l.length≤100) (hs:ls.length≤9) (hl:∀y∈ls,y.length≤100) (a:Int) (s:ByteArray):
  ∃r1 r2 r3 r4,Ev (fun k=>ib.f k t l ls a s) (r1,r2,r3,r4)∧(r4=true→(0<r2.length∧r2.length≤8)∧r3.length≤ls.length+1∧∀y∈r3,y.length≤8):=by
 have h:=qh (t:=t) (l:=l) (ls:=ls) (by omega) (by omega) (fun y hy=>by have:=hl y hy;omega) a s;by_cases hm:nf t l ls=true
 ·rw[if_pos hm]at h;obtain⟨o1,_,o3⟩:=mE.1 (zM hm a s);exact⟨(vM t l ls a s).1,(vM t l ls a s).2.1,(vM t l ls a s).2.2.1,(vM t l ls a s).2.2.2,h,fun _=>⟨tS o1,AW t l ls a s,fun y hy=>(tS (o3 y hy)).2⟩⟩
 ·rw[if_neg hm]at h;exact⟨0,[],[],false,h,fun k=>by cases k⟩
def vx (t:Int) (l:List Int):Int×List Int×List (List Int):=if lu t l=true then(t,mu l,[])else(0,[],[])
theorem xu {t:Int} {l:List Int} (h:lu t l=true):l.length≤8:=by
 have:=(jD.1 h).2.1;have:=(ni t).1;omega
theorem sk (t:Int) {l:List Int} (hn:l.length≤9223372036854775807):Ev (fun k=>lQ.f k t l) (vx t l):=by
 unfold lQ.f vx;refine Ev.bind (nW t hn) ?_;by_cases h:lu t l=true
 ·rw[if_pos h];exact fx h (Ev.bind (pz h) (Ev.now _))
 ·rw[if_neg h];exact fz h (Ev.now _)
theorem zV:oL.f=some true:=by decide+kernel
def Code (b:List Int):Prop:=b.length≤2000∧∀x,x∈b→0≤x∧x≤255
theorem vy {b:List Int} (h:Code b) {i:Int} (h0:0≤i) (h1:i<(b.length:Int)):0≤rd b i∧rd b i≤255:=by
 obtain⟨n,rfl⟩:=Int.eq_ofNat_of_zero_le h0;exact h.2 _ (wX (by omega))
theorem xv {x y:Int} (h0:0≤x) (h1:x<4611686018427387904) (k0:0≤y) (k1:y<4611686018427387904):0≤Go.bits .xor .i64 x y:=by
 obtain⟨a,rfl⟩:=Int.eq_ofNat_of_zero_le h0;obtain⟨b,rfl⟩:=Int.eq_ofNat_of_zero_le k0;rw[Ax a b (by omega) (by omega)];omega
theorem tmod_in {x n:Int} (h:0≤x) (hn:1≤n):0≤Int.tmod x n∧Int.tmod x n<n:=by
 rw[Int.tmod_eq_emod_of_nonneg h];exact⟨Int.emod_nonneg _ (by omega),Int.emod_lt_of_pos _ (by omega)⟩
theorem yk {x n:Int} (h:0≤x) (hn:1≤n):0≤Int.tdiv x n∧Int.tdiv x n≤x:=by
 rw[Int.tdiv_eq_ediv_of_nonneg h];exact⟨Int.ediv_nonneg h (by omega),Int.ediv_le_self _ h⟩
theorem mR {b:List Int} (hb:Code b) {p:Int} (h0:0≤p) (h1:p≤1000000000) (n:Int):
  ∃r,Ev (fun k=>fA.f k b p n) (r,p+1)∧0≤r∧(1≤n→r<n)∧(n<1→r=0):=by
 have hl:=hb.1;have hw:wrap64 (p+1)=p+1:=oz (by omega) (by omega);have hw2:wrap64 (p+1 - 1)=p:=by rw[oz (by omega) (by omega)];omega
 unfold fA.f;rw[hw];by_cases hn:n<1
 ·refine⟨0,fx hn (Ev.step (f:=fun _=>some (0,p+1)) (fun k=>rfl) (Ev.now _)),Int.le_refl _,fun h=>by omega,fun _=>rfl⟩
 ·by_cases he:(b.length:Int)=0
  ·refine⟨0,fz hn ?_,Int.le_refl _,fun h=>by omega,fun _=>rfl⟩;rw[he];exact Ev.step (f:=fun _=>some (0,p+1)) (fun k=>rfl) (Ev.now _)
  ·have he':((b.length:Int)==0)=false:=beq_eq_false_iff_ne.2 he;by_cases hk:p<(b.length:Int)
   ·obtain⟨a1,a2⟩:=vy hb h0 hk;have hm:=tmod_in (x:=rd b p) (n:=n) a1 (by omega);refine⟨Int.tmod (rd b p) n,fz hn ?_,hm.1,fun _=>hm.2,fun h=>by omega⟩;rw[he'];refine Ev.step (fun k=>rfl) ?_;simp only[fA.j0,hw2];refine fz (by decide) (fx hk (fx h0 (fz (by omega) (ky (Ev.now _) ?_))));rw[oz (by omega) (by omega)]
   ·have hlp:1≤(b.length:Int):=by omega
    have m1:=tmod_in (x:=p) (n:=(b.length:Int)) h0 hlp;have e7:wrap64 (p*7)=p*7:=oz (by omega) (by omega);have FQ:wrap64 (p*7+3)=p*7+3:=oz (by omega) (by omega);have m2:=tmod_in (x:=p*7+3) (n:=(b.length:Int)) (by omega) hlp;have c1:=vy hb m1.1 m1.2;have c2:=vy hb m2.1 m2.2;have d1:=yk (x:=p) (n:=(b.length:Int)) h0 hlp;generalize hA:rd b (Int.tmod p (b.length:Int))=A at c1;generalize hB:rd b (Int.tmod (p*7+3) (b.length:Int))=B at c2;generalize hD:Int.tdiv p (b.length:Int)=D at d1;have hx0:0≤A*131+B*1117+p*29+D*53:=by omega
    have hx1:A*131+B*1117+p*29+D*53<4611686018427387904:=by omega
    have d2:=yk (x:=A*131+B*1117+p*29+D*53) (n:=64) hx0 (by omega);have EZ:=xv hx0 hx1 d2.1 (by omega);have hm:=tmod_in (n:=n) EZ (by omega);refine⟨_,fz hn ?_,hm.1,fun _=>hm.2,fun h=>by omega⟩;rw[he'];refine Ev.step (fun k=>rfl) ?_;simp only[fA.j0,hw2,e7,FQ,hA,hB,hD];refine fz (by decide) (fz hk (fz he (fx m1.1 (fx m1.2 (fx m2.1 (fx m2.2 (fz (by omega) (ky (Ev.now _) ?_))))))));rw[oz (n:=A) (by omega) (by omega),oz (n:=B) (by omega) (by omega),oz (n:=A*131) (by omega) (by omega),oz (n:=B*1117) (by omega) (by omega),oz (n:=A*131+B*1117) (by omega) (by omega),oz (n:=p*29) (by omega) (by omega),oz (n:=A*131+B*1117+p*29) (by omega) (by omega),oz (n:=D) (by omega) (by omega),oz (n:=D*53) (by omega) (by omega),oz (n:=A*131+B*1117+p*29+D*53) (by omega) (by omega),oz (n:=Int.tdiv _ 64) (by omega) (by omega)]
theorem xw {b:List Int} (hb:Code b) {p:Int} (h0:0≤p) (h1:p≤1000000000) (n:Int):
  ∃r p',Ev (fun k=>iZ.f k b p n) (r,p')∧p≤p'∧p'≤p+1:=by
 unfold iZ.f;by_cases hn:n>0
 ·obtain⟨r,hr,_⟩:=mR hb h0 h1 n;exact⟨_,p+1,fx hn (Ev.bind hr (Ev.now _)),by omega,by omega⟩
 ·exact⟨false,p,fz hn (Ev.now _),by omega,by omega⟩
theorem AX {c:List Int} (h:∀x∈c,(Lit.int .u8 x).wf=true):∃b,nc.f c=some (b,0)∧Code b:=by
 have hc:∀x,x∈c→0≤x∧x≤255:=fun x hx=>by
  have:=h x hx;simp[Lit.wf,IntKind.min,IntKind.max,IntKind.signed,IntKind.bits]at this;omega
 unfold nc.f;by_cases hl:(c.length:Int)>2000
 ·refine⟨c.take 2000,by rw[if_pos hl,if_pos (by omega)],by rw[List.length_take];omega,fun x hx=>hc x (List.mem_of_mem_take hx)⟩
 ·exact⟨c,by rw[if_neg hl],by omega,hc⟩
theorem vz {b:List Int} (hb:Code b) {p:Int} (h0:0≤p) (h1:p≤900000000) (t d:Int):
  ∃s,Ev (fun k=>gj.j0 k t d true b p) (s,p+2)∧s.size≤1:=by
 obtain⟨i,hi,i0,i1,_⟩:=mR hb (p:=p) h0 (by omega) 8;have i1:=i1 (by omega);have hm:1≤mx (mn t 3) 1∧mx (mn t 3) 1≤3:=by unfold mx mn;split<;>split<;>omega
 have hd:Int.tdiv i 7=0∨Int.tdiv i 7=1:=by
  rw[Int.tdiv_eq_ediv_of_nonneg i0];omega
 generalize hn:wrap64 ((mx (mn t 3) 1)+(wrap64 ((wrap64 (Int.tdiv i 7))*3)))=n
 have hn1:1≤n∧n≤6:=by
  rw[←hn];rcases hd with e|e
  ·rw[e,oz (n:=(0:Int)) (by omega) (by omega),oz (n:=(0:Int)*3) (by omega) (by omega),oz (by omega) (by omega)];omega
  ·rw[e,oz (n:=(1:Int)) (by omega) (by omega),oz (n:=(1:Int)*3) (by omega) (by omega),oz (by omega) (by omega)];omega
 obtain⟨j,hj,j0,j1,_⟩:=mR hb (p:=p+1) (by omega) (by omega) n;have j1:=j1 hn1.1;have e2:p+1+1=p+2:=by omega
 rw[e2]at hj;refine⟨rdOf ByteArray.empty [(⟨#[97]⟩:ByteArray),(⟨#[98]⟩:ByteArray),(⟨#[99]⟩:ByteArray),(⟨#[97]⟩:ByteArray),(⟨#[48]⟩:ByteArray),(⟨#[49]⟩:ByteArray)] j,Ev.step (f:=fun k=>((some (([(⟨#[97]⟩:ByteArray),(⟨#[98]⟩:ByteArray),(⟨#[99]⟩:ByteArray),(⟨#[97]⟩:ByteArray),(⟨#[48]⟩:ByteArray),(⟨#[49]⟩:ByteArray)]:List ByteArray):List ByteArray)).bind fun DG=>((fA.f k b p 8).bind fun Bx=>((fA.f k b Bx.2 (wrap64 ((mx (mn t 3) 1)+(wrap64 ((wrap64 (Int.tdiv Bx.1 7))*3))))).bind fun yl=>(if 0≤yl.1 then(if yl.1<(DG.length:Int)then(some (rdOf ByteArray.empty DG yl.1,yl.2))else(none))else(none)))))) (fun k=>rfl) (gZ rfl (Ev.bind hi ?_)),?_⟩
 ·rw[hn];exact Ev.bind hj (fx j0 (fx (by show j<6;omega) (Ev.now _)))
 ·have:j=0∨j=1∨j=2∨j=3∨j=4∨j=5:=by omega
  rcases this with rfl|rfl|rfl|rfl|rfl|rfl<;>decide+kernel
theorem rR {b:List Int} (hb:Code b) (t:Int) (d c m:Nat) (hd:d<100) (hc:c≤1000) (hm:m≤1000)
  (H:∀p:Int,0≤p→p≤900000000 - 2*c - 10→∃s p',Ev (fun k=>gj.f k b p t (d:Int)) (s,p')∧p≤p'∧p'≤p+c∧s.size≤m):
  ∀p:Int,0≤p→p≤900000000 - 2*(2*c+5:Nat) - 10→∃s p',Ev (fun k=>gj.f k b p t ((d+1:Nat):Int)) (s,p')∧p≤p'∧p'≤p+(2*c+5:Nat)∧s.size≤2*m+3:=by
 intro p h0 h1;obtain⟨y,hy,_,_,_⟩:=mR hb h0 (by omega) 3;have hd1:wrap64 (((d+1:Nat):Int) - 1)=(d:Int):=by rw[oz (by omega) (by omega)];omega
 have st:∀{r},Ev (fun k=>gj.j0 k t ((d+1:Nat):Int) (y==0) b (p+1)) r→Ev (fun k=>gj.f k b p t ((d+1:Nat):Int)) r:=fun h=>Ev.step (f:=fun k=>if((d+1:Nat):Int)=0 then(gj.j0 k t ((d+1:Nat):Int) true b p)else((fA.f k b p 3).bind fun sf=>(gj.j0 k t ((d+1:Nat):Int) (sf.1==0) b sf.2))) (fun k=>rfl) (fz (by omega) (Ev.bind hy h))
 by_cases e0:y=0
 ·obtain⟨s,hs,h2⟩:=vz hb (p:=p+1) (by omega) (by omega) t ((d+1:Nat):Int);have eb:(y==0)=true:=beq_iff_eq.2 e0;rw[eb]at st;exact⟨s,p+1+2,st hs,by omega,by omega,by omega⟩
 ·have eb:(y==0)=false:=beq_eq_false_iff_ne.2 e0;rw[eb]at st;obtain⟨z,hz,_,_,_⟩:=mR hb (p:=p+1) (by omega) (by omega) 4;obtain⟨s1,p1,hs1,a1,a2,a3⟩:=H (p+1+1) (by omega) (by omega);obtain⟨s2,p2,hs2,b1,b2,b3⟩:=H p1 (by omega) (by omega);rw[←hd1]at hs1 hs2;have FU:∀x:ByteArray,x.size=1→((x++s1)++x).size=s1.size+2:=fun x hx=>by rw[ByteArray.size_append,ByteArray.size_append,hx];omega
  have one:∀x:UInt8,(⟨#[x]⟩:ByteArray).size=1:=fun x=>rfl
  by_cases z0:z=0
  ·refine⟨(⟨#[33]⟩:ByteArray)++s1,p1,st (Ev.step (fun k=>rfl) (Ev.bind hz (fx z0 (Ev.bind hs1 (fx (by dsimp only;(try simp only[ByteArray.size_append,one]);omega) (Ev.now _)))))),by omega,by omega,?_⟩;rw[ByteArray.size_append,one];omega
  by_cases z1:z=1
  ·refine⟨((((⟨#[40]⟩:ByteArray)++s1)++(⟨#[38]⟩:ByteArray))++s2)++(⟨#[41]⟩:ByteArray),p2,st (Ev.step (fun k=>rfl) (Ev.bind hz (fz z0 (fx z1 (Ev.bind hs1 (fx (by dsimp only;(try simp only[ByteArray.size_append,one]);omega) (fx (by dsimp only;(try simp only[ByteArray.size_append,one]);omega) (Ev.bind hs2 (fx (by dsimp only;(try simp only[ByteArray.size_append,one]);omega) (fx (by dsimp only;(try simp only[ByteArray.size_append,one]);omega) (Ev.now _))))))))))),by omega,by omega,?_⟩;simp only[ByteArray.size_append,one];omega
  by_cases z2:z=2
  ·refine⟨((((⟨#[40]⟩:ByteArray)++s1)++(⟨#[124]⟩:ByteArray))++s2)++(⟨#[41]⟩:ByteArray),p2,st (Ev.step (fun k=>rfl) (Ev.bind hz (fz z0 (fz z1 (fx z2 (Ev.bind hs1 (fx (by dsimp only;(try simp only[ByteArray.size_append,one]);omega) (fx (by dsimp only;(try simp only[ByteArray.size_append,one]);omega) (Ev.bind hs2 (fx (by dsimp only;(try simp only[ByteArray.size_append,one]);omega) (fx (by dsimp only;(try simp only[ByteArray.size_append,one]);omega) (Ev.now _)))))))))))),by omega,by omega,?_⟩;simp only[ByteArray.size_append,one];omega
  ·refine⟨((((⟨#[40]⟩:ByteArray)++s1)++(⟨#[62]⟩:ByteArray))++s2)++(⟨#[41]⟩:ByteArray),p2,st (Ev.step (fun k=>rfl) (Ev.bind hz (fz z0 (fz z1 (fz z2 (Ev.bind hs1 (fx (by dsimp only;(try simp only[ByteArray.size_append,one]);omega) (fx (by dsimp only;(try simp only[ByteArray.size_append,one]);omega) (Ev.bind hs2 (fx (by dsimp only;(try simp only[ByteArray.size_append,one]);omega) (fx (by dsimp only;(try simp only[ByteArray.size_append,one]);omega) (Ev.now _)))))))))))),by omega,by omega,?_⟩;simp only[ByteArray.size_append,one];omega
theorem ym {b:List Int} (hb:Code b) (t:Int) {p:Int} (h0:0≤p) (h1:p≤800000000):∃s p',Ev (fun k=>gj.f k b p t 2) (s,p')∧p≤p'∧p'≤p+30∧s.size≤20:=by
 have H0:∀p:Int,0≤p→p≤900000000 - 2*(2:Nat) - 10→∃s p',Ev (fun k=>gj.f k b p t ((0:Nat):Int)) (s,p')∧p≤p'∧p'≤p+(2:Nat)∧s.size≤1:=by
  intro p h0 h1;obtain⟨s,hs,h2⟩:=vz hb (p:=p) h0 (by omega) t ((0:Nat):Int);exact⟨s,p+2,Ev.step (f:=fun k=>if((0:Nat):Int)=0 then(gj.j0 k t ((0:Nat):Int) true b p)else((fA.f k b p 3).bind fun sf=>(gj.j0 k t ((0:Nat):Int) (sf.1==0) b sf.2))) (fun k=>rfl) (fx rfl hs),by omega,by omega,h2⟩
 have H1:=rR hb t 0 2 1 (by omega) (by omega) (by omega) H0;have H2:=rR hb t 1 9 5 (by omega) (by omega) (by omega) H1;obtain⟨s,p',a,b1,b2,b3⟩:=H2 p h0 (by omega);exact⟨s,p',a,b1,by omega,by omega⟩
theorem DH (b:List Int) (p:Int):Ev (fun k=>iZ.f k b p 0) (false,p):=by
 unfold iZ.f;exact fz (by omega) (Ev.now _)
theorem xx {b:List Int} (hb:Code b) {p:Int} (h0:0≤p) (h1:p≤900000000):
  ∃r,Ev (fun k=>lA.f k b p 0) (r,p+1)∧1≤r∧r≤3:=by
 unfold lA.f;obtain⟨r,hr,r0,r1,_⟩:=mR hb (p:=p) h0 (by omega) 5;have r1:=r1 (by omega);refine⟨rd [1,2,2,3,3] r,Ev.bind (DH b p) (fz Bool.false_ne_true (gZ rfl (Ev.bind hr (fx r0 (fx (by simpa using r1) (Ev.now _)))))),?_⟩;have:r=0∨r=1∨r=2∨r=3∨r=4:=by omega
 rcases this with rfl|rfl|rfl|rfl|rfl<;>decide+kernel
theorem zW {b:List Int} (hb:Code b) {t:Int} (ht:1≤t∧t≤3) {x:Int} (x0:0≤x) (x1:x<3):∀i:Nat,i≤wn t→∀(l:List Int) (p:Int),l.length=i→(∀y∈l,0≤y∧y≤9)→0≤p→p+10*(wn t - i:Nat)≤800000000→
  ∃r p',Ev (fun k=>iV.l0 k 0 l (wn t:Int) x (i:Int) b p) (r,p')∧p≤p'∧p'≤p+10*(wn t - i:Nat)+10∧lu t r=true:=by
 have hw:=ni t;apply down
 ·intro l p hl hx h0 h1;obtain⟨j,hj,j0,j1,_⟩:=mR hb (p:=p) (by omega) (by omega) (wn t:Int);have j1:=j1 (by omega);obtain⟨m,rfl⟩:=Int.eq_ofNat_of_zero_le j0;have hm:m<l.length:=by omega
  refine⟨l.set ((m:Int)).toNat 0,p+1,Ev.step (fun k=>rfl) (fz (by omega) (Ev.bind hj (fx j0 (fx (by omega) (gZ rfl (Ev.bind (DH b (p+1)) (nU (Ev.now _)))))))),by omega,by omega,jD.2 ⟨ht,by rw[List.length_set,hl],fun y hy=>?_,?_⟩⟩
  ·rcases List.mem_or_eq_of_mem_set hy with h|rfl
   ·exact hx y h
   ·omega
  ·rw[Int.toNat_natCast];exact List.mem_set hm 0
 ·intro i hi ih l p hl hx h0 h1;obtain⟨z,hz,z0,z1,_⟩:=mR hb (p:=p) (by omega) (by omega) (rd [2,4,10] x)
  have hq:1≤rd [2,4,10] x∧rd [2,4,10] x≤10:=by
   have:x=0∨x=1∨x=2:=by omega
   rcases this with rfl|rfl|rfl<;>decide+kernel
  have z1:=z1 hq.1
  obtain⟨r,p',hr,b1,b2,b3⟩:=ih (l++ [z]) (p+1) (by rw[List.length_append,hl];rfl) (fun y hy=>by
   rcases List.mem_append.1 hy with h|h
   ·exact hx y h
   ·rw[List.mem_singleton.1 h];omega) (by omega) (by omega)
  refine⟨r,p',Ev.step (fun k=>rfl) (fx (by omega) (gZ rfl (fx x0 (fx (by simpa using x1) (Ev.bind hz (fx (by omega) ?_)))))),by omega,by omega,b3⟩;rw[w1 hi (by omega)];exact hr
theorem zX {b:List Int} (hb:Code b) {p:Int} (h0:0≤p) (h1:p≤700000000) {t:Int} (ht:1≤t∧t≤3):
  ∃r p',Ev (fun k=>iV.f k b p t 0) (r,p')∧p≤p'∧p'≤p+100∧lu t r=true:=by
 have hw:=ni t
 have hv:mG.f t=some (wn t:Int):=by
  unfold mG.f;rw[nO,Option.bind_some,decide_eq_true ht,if_pos rfl,if_pos (by omega),qd ht]
 obtain⟨x,hx,x0,x1,_⟩:=mR hb h0 (by omega) 3;have x1:=x1 (by omega);have hmx:mx (wn t:Int) 1=(wn t:Int):=by unfold mx;split<;>omega
 obtain⟨r,p',hr,b1,b2,b3⟩:=zW hb ht x0 x1 0 (Nat.zero_le _) [] (p+1) rfl (by simp) (by omega) (by omega);unfold iV.f;refine⟨r,p',gZ hv (Ev.bind hx ?_),by omega,by omega,b3⟩;rw[hmx];exact hr
theorem yn {b:List Int} (hb:Code b) (t:Int) (l:List Int) (ls:List (List Int)) {p:Int} (h0:0≤p) (h1:p≤700000000):∃a s p',Ev (fun k=>jX.f k b p t l ls) (a,s,p')∧p≤p'∧p'≤p+40∧s.size≤21:=by
 obtain⟨i,hi,i0,i1,_⟩:=mR hb (p:=p) h0 (by omega) 7;have i1:=i1 (by omega);obtain⟨j,hj,_,_,_⟩:=mR hb (p:=p+1) (by omega) (by omega) 60;unfold jX.f;generalize hK:wrap64 ((rd [0,0,0,1,1,1,2] i)+(wrap64 ((wrap64 (Int.tdiv j 59))*3)))=K;have one:∀x:UInt8,(⟨#[x]⟩:ByteArray).size=1:=fun x=>rfl
 by_cases e:K=2
 ·obtain⟨o,p1,ho,a1,a2⟩:=xw hb (p:=p+1+1) (by omega) (by omega) 40;cases o with
  |true=>
   refine⟨K,(⟨#[]⟩:ByteArray)++(⟨#[41]⟩:ByteArray),p1,gZ rfl (Ev.bind hi (fx i0 (fx (by show i<7;omega) (Ev.bind hj ?_)))),by omega,by omega,by decide⟩;simp only[hK];exact fx e (Ev.bind ho (lC (fx (by decide) (Ev.now _))))
  |false=>
   refine⟨K,(⟨#[]⟩:ByteArray),p1,gZ rfl (Ev.bind hi (fx i0 (fx (by show i<7;omega) (Ev.bind hj ?_)))),by omega,by omega,by decide⟩;simp only[hK];exact fx e (Ev.bind ho (nU (Ev.now _)))
 ·obtain⟨s,p2,hs,c1,c2,c3⟩:=ym hb t (p:=p+1+1) (by omega) (by omega);obtain⟨o,p1,ho,a1,a2⟩:=xw hb (p:=p2) (by omega) (by omega) 40;cases o with
  |true=>
   refine⟨K,s++(⟨#[41]⟩:ByteArray),p1,gZ rfl (Ev.bind hi (fx i0 (fx (by show i<7;omega) (Ev.bind hj ?_)))),by omega,by omega,by rw[ByteArray.size_append,one];omega⟩;simp only[hK];exact fz e (Ev.bind hs (Ev.bind ho (lC (fx (by show s.size+1≤_;omega) (Ev.now _)))))
  |false=>
   refine⟨K,s,p1,gZ rfl (Ev.bind hi (fx i0 (fx (by show i<7;omega) (Ev.bind hj ?_)))),by omega,by omega,by omega⟩;simp only[hK];exact fz e (Ev.bind hs (Ev.bind ho (nU (Ev.now _))))
theorem AY {b:List Int} (hb:Code b) (n:Int):∀(x:Nat) (t:Int) (l:List Int) (ls:List (List Int)) (p:Int),x≤5→0≤p→p+100*x≤600000000→0<l.length→l.length≤8→ls.length+x≤5→(∀y∈ls,y.length≤8)→
  ∃t' l' ls' p',Ev (fun k=>jf.l0 k n (x:Int) b p t l ls) (t',l',ls',p')∧p≤p'∧p'≤p+100*x+10∧l'.length≤8∧ls'.length≤6∧∀y∈ls',y.length≤8:=by
 intro x;induction x with
 |zero=>
  intro t l ls p _ h0 h1 hl0 CP hs hr;obtain⟨o,p1,ho,a1,a2⟩:=xw hb h0 (by omega) n;cases o with
  |false=>exact⟨t,l,ls,p1,Ev.step (fun k=>rfl) (fz (by omega) (Ev.bind ho (nU (Ev.now _)))),by omega,by omega,CP,by omega,hr⟩
  |true=>
   obtain⟨z,hz,z0,z1,_⟩:=mR hb (p:=p1) (by omega) (by omega) 3;by_cases e0:z=0
   ·exact⟨4,l,ls,p1+1,Ev.step (fun k=>rfl) (fz (by omega) (Ev.bind ho (lC (Ev.bind hz (fx e0 (Ev.now _)))))),by omega,by omega,CP,by omega,hr⟩
   by_cases e1:z=1
   ·exact⟨t,l.set (0:Int).toNat 9,ls,p1+1,Ev.step (fun k=>rfl) (fz (by omega) (Ev.bind ho (lC (Ev.bind hz (fz e0 (fx e1 (fx (by omega) (Ev.now _)))))))),by omega,by omega,by rw[List.length_set];exact CP,by omega,hr⟩
   ·refine⟨t,l,ls++ [[1]],p1+1,Ev.step (fun k=>rfl) (fz (by omega) (Ev.bind ho (lC (Ev.bind hz (fz e0 (fz e1 (fx (by omega) (Ev.now _)))))))),by omega,by omega,CP,by rw[List.length_append,List.length_singleton];omega,fun y hy=>?_⟩;rcases List.mem_append.1 hy with h|h
    ·exact hr y h
    ·rw[List.mem_singleton.1 h];decide
 |succ x ih=>
  intro t l ls p hx h0 h1 hl0 CP hs hr;obtain⟨a,s,p1,hd,a1,a2,a3⟩:=yn hb t l ls h0 (by omega);obtain⟨r1,r2,r3,r4,hm,hgood⟩:=xt t (l:=l) (ls:=ls) (by omega) (by omega) (fun y hy=>by have:=hr y hy;omega) a s;have hw:wrap64 (((x+1:Nat):Int) - 1)=(x:Int):=by rw[oz (by omega) (by omega)];omega
  cases r4 with
  |true=>
   obtain⟨g1,g2,g3⟩:=hgood rfl;obtain⟨t',l',ls',p',h2,b1,b2,b3⟩:=ih r1 r2 r3 p1 (by omega) (by omega) (by omega) g1.1 g1.2 (by omega) g3;refine⟨t',l',ls',p',Ev.step (fun k=>rfl) (fx (by omega) (Ev.bind hd (Ev.bind hm (lC ?_)))),by omega,by omega,b3⟩;rw[hw];exact h2
  |false=>
   obtain⟨t',l',ls',p',h2,b1,b2,b3⟩:=ih t l ls p1 (by omega) (by omega) (by omega) hl0 CP (by omega) hr;refine⟨t',l',ls',p',Ev.step (fun k=>rfl) (fx (by omega) (Ev.bind hd (Ev.bind hm (nU ?_)))),by omega,by omega,b3⟩;rw[hw];exact h2
theorem AZ {b:List Int} (hb:Code b) (n:Int) {p:Int} (h0:0≤p) (h1:p≤500000000):
  ∃t l ls p',Ev (fun k=>jf.f k b p n) (t,l,ls,p')∧p≤p'∧p'≤p+1000∧l.length≤8∧ls.length≤6∧∀y∈ls,y.length≤8:=by
 unfold jf.f;obtain⟨t,ht,t0,t1⟩:=xx hb h0 (by omega);obtain⟨l,p1,hl,a1,a2,a3⟩:=zX hb (p:=p+1) (by omega) (by omega) (t:=t) ⟨t0,t1⟩;have h8:=xu a3;have hw:=ni t;have hlen:=(jD.1 a3).2.1;have hn:=sk t (l:=l) (by omega);have en:vx t l=(t,mu l,[]):=if_pos a3;rw[en]at hn;obtain⟨x,hx,x0,x1,_⟩:=mR hb (p:=p1) (by omega) (by omega) 6;have x1:=x1 (by omega);obtain⟨m,rfl⟩:=Int.eq_ofNat_of_zero_le x0;obtain⟨t',l',ls',p',h2,b1,b2,b3⟩:=AY hb n m t (mu l) [] (p1+1) (by omega) (by omega) (by omega) (by rw[mQ];omega) (by rw[mQ];omega) (by simp only[List.length_nil];omega) (by simp);exact⟨t',l',ls',p',Ev.bind ht (Ev.bind hl (Ev.bind hn (Ev.bind hx h2))),by omega,by omega,b3⟩
theorem tT {l:List ByteArray} {n:Nat} (h:∀y∈l,y.size≤n) (i:Int):(rdOf ByteArray.empty l i).size≤n:=by
  unfold rdOf;rw[List.getD_eq_getElem?_getD];cases e:l[i.toNat]? with
  |none=>exact Nat.zero_le _
  |some y=>exact h y (List.mem_of_getElem? e)
theorem wK {b:List Int} (hb:Code b) (t:Int) {p:Int} (h0:0≤p) (h1:p≤800000000):∃s p',Ev (fun k=>gj.f k b p t 1) (s,p')∧p≤p'∧p'≤p+9∧s.size≤5:=by
  have H0:∀p:Int,0≤p→p≤900000000 - 2*(2:Nat) - 10→∃s p',Ev (fun k=>gj.f k b p t ((0:Nat):Int)) (s,p')∧p≤p'∧p'≤p+(2:Nat)∧s.size≤1:=by
    intro p h0 h1;obtain⟨s,hs,h2⟩:=vz hb (p:=p) h0 (by omega) t ((0:Nat):Int);exact⟨s,p+2,Ev.step (f:=fun k=>if((0:Nat):Int)=0 then(gj.j0 k t ((0:Nat):Int) true b p)else((fA.f k b p 3).bind fun sf=>(gj.j0 k t ((0:Nat):Int) (sf.1==0) b sf.2))) (fun k=>rfl) (fx rfl hs),by omega,by omega,h2⟩
  have H1:=rR hb t 0 2 1 (by omega) (by omega) (by omega) H0;obtain⟨s,p',a,b1,b2,b3⟩:=H1 p h0 (by omega);exact⟨s,p',a,b1,by omega,by omega⟩
theorem xy (a:Int) (s:ByteArray):(nC a s).size≤s.size+6:=by
  unfold nC;split
  · show 4≤s.size+6
    omega
  · split
    · split
      · rw[ByteArray.size_append]
        show 6+s.size≤s.size+6
        omega
      · split
        · rw[ByteArray.size_append]
          show 4+s.size≤s.size+6
          omega
        · exact Nat.zero_le _
    · exact Nat.zero_le _
theorem Ba {b:List Int} (hb:Code b) (t:Int) (l:List Int) (ls:List (List Int)) {p:Int} (h0:0≤p) (h1:p≤600000000):∃s p',Ev (fun k=>iG.f k b p t l ls) (s,p')∧p≤p'∧p'≤p+110∧s.size≤60:=by
  have T:∀y:Int,∃s p',Ev (fun k=>iG.j0 k y true b (p+1) t l ls) (s,p')∧p≤p'∧p'≤p+110∧s.size≤60:=by
    intro y;obtain⟨i,hi,i0,i1,_⟩:=mR hb (p:=p+1) (by omega) (by omega) 5;have i1:=i1 (by omega);obtain⟨s,p',hs,c1,c2,c3⟩:=ym hb t (p:=p+1+1) (by omega) (by omega);have hz:(rdOf ByteArray.empty [(⟨#[98,101,108,105,101,118,101,32]⟩:ByteArray),(⟨#[102,105,114,109,32]⟩:ByteArray),(⟨#[103,105,118,101,32]⟩:ByteArray),(⟨#[117,112,100,97,116,101,32]⟩:ByteArray),(⟨#[110,101,97,114,32]⟩:ByteArray)] i).size≤8:=tT (by decide) i;refine⟨(rdOf ByteArray.empty [(⟨#[98,101,108,105,101,118,101,32]⟩:ByteArray),(⟨#[102,105,114,109,32]⟩:ByteArray),(⟨#[103,105,118,101,32]⟩:ByteArray),(⟨#[117,112,100,97,116,101,32]⟩:ByteArray),(⟨#[110,101,97,114,32]⟩:ByteArray)] i)++s,p',Ev.step (fun _=>rfl) ?_,by omega,by omega,?_⟩
    · simp only[iG.j0]
      exact fx trivial (gZ rfl (Ev.bind hi (fx i0 (fx (by show i<5;omega) (Ev.bind hs (fx (by dsimp only;omega) (Ev.now _)))))))
    · rw[ByteArray.size_append]
      omega
  have F:∀y:Int,∃s p',Ev (fun k=>iG.j0 k y false b (p+1) t l ls) (s,p')∧p≤p'∧p'≤p+110∧s.size≤60:=by
    intro y;by_cases e:y=4
    · obtain⟨s,p2,hs,c1,c2,c3⟩:=wK hb t (p:=p+1) (by omega) (by omega)
      obtain⟨u,p3,hu,d1,d2,d3⟩:=wK hb t (p:=p2) (by omega) (by omega);have n9:(⟨#[110,111,114,109,97,108,108,121,32]⟩:ByteArray).size=9:=rfl;have n2:(⟨#[45,62]⟩:ByteArray).size=2:=rfl;refine⟨(((⟨#[110,111,114,109,97,108,108,121,32]⟩:ByteArray)++s)++(⟨#[45,62]⟩:ByteArray))++u,p3,Ev.step (fun _=>rfl) ?_,by omega,by omega,?_⟩
      · simp only[iG.j0]
        exact fz Bool.false_ne_true (fx e (Ev.bind hs (fx (by dsimp only;omega) (fx (by dsimp only;rw[ByteArray.size_append,n9];omega) (Ev.bind hu (fx (by dsimp only;rw[ByteArray.size_append,ByteArray.size_append,n9,n2];omega) (Ev.now _)))))))
      · rw[ByteArray.size_append,ByteArray.size_append,ByteArray.size_append,n9,n2]
        omega
    · obtain⟨a,s,p2,hd,c1,c2,c3⟩:=yn hb t l ls (p:=p+1) (by omega) (by omega)
      have:=xy a s;refine⟨nC a s,p2,Ev.step (fun _=>rfl) ?_,by omega,by omega,by omega⟩;simp only[iG.j0];exact fz Bool.false_ne_true (fz e (Ev.bind hd (Ev.bind (pH a (s:=s) (by omega)) (Ev.now _))))
  obtain⟨x,hx,x0,x1,_⟩:=mR hb h0 (by omega) 6;have x1:=x1 (by omega);unfold iG.f;by_cases e0:x=0
  · obtain⟨i,hi,i0,i1,_⟩:=mR hb (p:=p+1) (by omega) (by omega) 3
    have i1:=i1 (by omega);exact⟨_,p+1+1,Ev.bind hx (fx e0 (gZ rfl (Ev.bind hi (fx i0 (fx (by show i<3;omega) (Ev.now _)))))),by omega,by omega,Nat.le_trans (tT (n:=5) (by decide) i) (by omega)⟩
  · by_cases e1:x=1
    · obtain⟨i,hi,i0,i1,_⟩:=mR hb (p:=p+1) (by omega) (by omega) 10
      have i1:=i1 (by omega);exact⟨_,p+1+1,Ev.bind hx (fz e0 (fx e1 (gZ rfl (Ev.bind hi (fx i0 (fx (by show i<10;omega) (Ev.now _))))))),by omega,by omega,Nat.le_trans (tT (n:=10) (by decide) i) (by omega)⟩
    · by_cases e2:x=2
      · obtain⟨s,p',h,c1,c2,c3⟩:=T x
        have e:(x==2)=true:=by rw[e2];rfl
        refine⟨s,p',Ev.bind hx (fz e0 (fz e1 (fx e2 ?_))),c1,c2,c3⟩;dsimp only;rw[e];exact h
      · by_cases e3:x=3
        · obtain⟨s,p',h,c1,c2,c3⟩:=T x
          have e:(x==3)=true:=by rw[e3];rfl
          refine⟨s,p',Ev.bind hx (fz e0 (fz e1 (fz e2 ?_))),c1,c2,c3⟩;dsimp only;rw[e];exact h
        · obtain⟨s,p',h,c1,c2,c3⟩:=F x
          have e:(x==3)=false:=beq_eq_false_iff_ne.2 e3;refine⟨s,p',Ev.bind hx (fz e0 (fz e1 (fz e2 ?_))),c1,c2,c3⟩;dsimp only;rw[e];exact h
theorem wL {l m:List Int} (hn:l.length≤9223372036854775807):Ev (fun k=>iW.f k l m) (decide (l=m)):=by
 unfold iW.f;by_cases hl:l.length=m.length
 ·refine fx (by omega) ?_
  have key:∀i,i≤l.length→Ev (fun k=>iW.l0 k l m (i:Int)) (decide (l.drop i=m.drop i)):=by
   apply down
   ·refine Ev.step (fun k=>rfl) (fz (by omega) (ky (Ev.now _) ?_));rw[List.drop_length,hl,List.drop_length,decide_eq_true rfl]
   ·intro i hi ih;have hm:i<m.length:=by omega
    refine Ev.step (fun k=>rfl) (fx (by omega) (fx (by omega) (fx (by omega) ?_)));rw[mP hi,mP hm,w1 hi hn,List.drop_eq_getElem_cons hi,List.drop_eq_getElem_cons hm];by_cases e:l[i]=m[i]
    ·refine fx e (ky ih ?_);exact decide_eq_decide.2 ⟨fun k=>by rw[e,k],fun k=>(List.cons.inj k).2⟩
    ·refine fz e (ky (Ev.now _) ?_);exact(decide_eq_false (fun k=>e (List.cons.inj k).1)).symm
  have:=key 0 (Nat.zero_le _);simpa using this
 ·refine fz (by omega) (ky (Ev.now _) ?_);exact(decide_eq_false (fun k=>hl (by rw[k]))).symm
theorem qK {l:List Int} (hn:l.length≤9223372036854775807):Ev (fun k=>iW.f k l l) true:=ky (wL hn) (decide_eq_true rfl)
theorem ug {l:List (List Int)} (hn:l.length≤9223372036854775807) (hl:∀y∈l,y.length≤9223372036854775807):Ev (fun k=>jF.f k l l) true:=by
 unfold jF.f;refine fx rfl ?_
 have key:∀i,i≤l.length→Ev (fun k=>jF.l0 k l l (i:Int)) true:=by
  apply down
  ·exact Ev.step (fun k=>rfl) (fz (by omega) (Ev.now _))
  ·intro i hi ih;refine Ev.step (fun k=>rfl) (fx (by omega) (fx (by omega) (fx (by omega) ?_)));rw[pY hi,w1 hi hn];exact Ev.bind (qK (hl _ (List.getElem_mem hi))) (lC ih)
 exact key 0 (Nat.zero_le _)
theorem oo (t:Int) {l:List Int} {ls:List (List Int)} (hn:l.length≤9223372036854775807) (hs:ls.length≤9223372036854775807) (hl:∀y∈ls,y.length≤9223372036854775807):Ev (fun k=>km.f k t l ls t l ls) true:=by
 unfold km.f;exact fx rfl (Ev.bind (qK hn) (lC (Ev.bind (ug hs hl) (Ev.now _))))
theorem rI (t:Int) {l:List Int} {ls:List (List Int)} (hn:l.length≤9223372036854775807) (hl:∀y∈ls,y.length≤9223372036854775807):Ev (fun k=>lB.f k t l ls) (nf t l ls):=by
 unfold lB.f;exact Ev.bind (uy t hn hl) (Ev.now _)
end Go.Proofs.YtihgpkohglcijaaGreatDoor.Pl
