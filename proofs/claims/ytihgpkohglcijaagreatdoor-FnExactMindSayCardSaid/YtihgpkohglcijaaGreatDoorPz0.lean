import Derived.Test.YtihgpkohglcijaaGreatDoorPx15
import Derived.Test.YtihgpkohglcijaaGreatDoorMath
import Derived.Test.YtihgpkohglcijaaGreatDoorPx2
import Derived.Test.YtihgpkohglcijaaGreatDoorPx4
import Derived.Test.YtihgpkohglcijaaGreatDoorPx18
import Derived.Test.YtihgpkohglcijaaGreatDoorPx6
import Derived.Test.YtihgpkohglcijaaGreatDoorPx19
import Derived.Test.YtihgpkohglcijaaGreatDoorPx5
import Derived.Test.YtihgpkohglcijaaGreatDoorPx11
import Derived.Test.YtihgpkohglcijaaGreatDoorPx24
import Derived.Test.YtihgpkohglcijaaGreatDoorPx8
import Derived.Test.YtihgpkohglcijaaGreatDoorPx12
import Derived.Test.YtihgpkohglcijaaGreatDoorPx22
import Derived.Test.YtihgpkohglcijaaGreatDoorPx23
import Derived.Test.YtihgpkohglcijaaGreatDoorPx10
import Derived.Test.YtihgpkohglcijaaGreatDoorPx0
import Derived.Test.YtihgpkohglcijaaGreatDoorPx16
import Derived.Test.YtihgpkohglcijaaGreatDoorPx17
import Derived.Test.YtihgpkohglcijaaGreatDoorPx3
import Derived.Test.YtihgpkohglcijaaGreatDoorPx7
import Derived.Test.YtihgpkohglcijaaGreatDoorPx20
import Derived.Test.YtihgpkohglcijaaGreatDoorPx13
import Derived.Test.YtihgpkohglcijaaGreatDoorPx25
import Derived.Test.YtihgpkohglcijaaGreatDoorPx21
import Derived.Test.YtihgpkohglcijaaGreatDoorPx14
import Derived.Test.YtihgpkohglcijaaGreatDoorPx27
import Derived.Test.YtihgpkohglcijaaGreatDoorPx26
import Derived.Test.YtihgpkohglcijaaGreatDoorPx28
/- The plain laws that this law's proof needs, packed into one text (mergep.py). -/
namespace Go.Proofs.YtihgpkohglcijaaGreatDoor.Pl
open Go.RowKit Go.Proofs.YtihgpkohglcijaaGreatDoorW.PrintWords Go.Proofs.YtihgpkohglcijaaGreatDoorW.PrintLast Go.Proofs.YtihgpkohglcijaaGreatDoorW.PrintMore Go.Proofs.YtihgpkohglcijaaGreatDoor.P Go.Proofs.YtihgpkohglcijaaGreatDoor.Mt
theorem AR (b:ByteArray):∀(n i:Nat) (r:List UInt8),b.size - i=n→ByteArray.toList.loop b i r=r.reverse++b.data.toList.drop i:=by
 intro n
 induction n with
 |zero=>
  intro i r h
  unfold ByteArray.toList.loop
  rw[if_neg (by omega),List.drop_eq_nil_of_le (by rw[Array.length_toList];show b.size≤i;omega),List.append_nil]
 |succ n ih=>
  intro i r h
  unfold ByteArray.toList.loop
  have hi:i<b.data.toList.length:=by rw[Array.length_toList];show i<b.size;omega
  rw[if_pos (by omega),ih (i+1) _ (by omega),List.drop_eq_getElem_cons hi,List.reverse_cons,List.append_assoc]
  congr 2
  have:b.get! i=b.data.toList[i]:=by
   show b.data[i]! =_
   rw[getElem!_pos _ i (by rw[Array.length_toList]at hi;exact hi)]
   simp
  rw[this]
  rfl
theorem toList_data (b:ByteArray):b.toList=b.data.toList:=by
 unfold ByteArray.toList
 rw[AR b _ 0 [] rfl]
 rfl
theorem xo (b:ByteArray):b.toList= []↔b.size=0:=by
 rw[toList_data,List.eq_nil_iff_length_eq_zero,Array.length_toList]
 rfl
theorem ext_list {a b:ByteArray} (h:a.toList=b.toList):a=b:=by
 rw[toList_data,toList_data]at h
 exact ByteArray.ext (Array.toList_inj.1 h)
theorem wE (a b c:Int):qt.f a b c=some (decide (b≤a∧a≤c)):=by
 unfold qt.f
 by_cases h:a≥b
 ·rw[if_pos h]
  congr 1
  exact decide_eq_decide.2 ⟨fun k=>⟨h,k⟩,fun k=>k.2⟩
 ·rw[if_neg h]
  congr 1
  symm
  exact decide_eq_false (fun k=>h k.1)
theorem ss {l:List Int} {i:Nat} (h:i<l.length):rd l (i:Int)=l[i]:=by
 unfold rd
 rw[Int.toNat_natCast,List.getD_eq_getElem?_getD,List.getElem?_eq_getElem h]
 rfl
theorem DT {l:List Int} {i:Nat} (h:i<l.length):rd l (i:Int)∈l:=by rw[ss h];exact List.getElem_mem h
theorem down {P:Nat→Prop} {n:Nat} (h0:P n) (h1:∀i,i<n→P (i+1)→P i):∀i,i≤n→P i:=by
 have key:∀d i,i+d=n→P i:=by
  intro d
  induction d with
  |zero=>intro i hi;rw[show i=n from by omega];exact h0
  |succ d ih=>intro i hi;exact h1 i (by omega) (ih (i+1) (by omega))
 intro i hi
 exact key (n - i) i (by omega)
theorem w1 {i n:Nat} (h:i<n) (hn:n≤9223372036854775807):wrap64 ((i:Int)+1)=((i+1:Nat):Int):=by rw[xn (by omega) (by omega)];rfl
theorem three {t:Int} (h:1≤t∧t≤3):t=1∨t=2∨t=3:=by omega
def wn (t:Int):Nat:=if t=1 then 2 else if t=2 then 4 else 8
theorem wu (t:Int):wn t≤8∧2≤wn t:=by unfold wn;split<;>(try split)<;>omega
theorem xW {t:Int} (h:1≤t∧t≤3):shl .i64 1 t=(wn t:Int):=by rcases three h with rfl|rfl|rfl<;>decide+kernel
/-- How many of 0 .. n-1 are in l. -/
def vl (l:List Int):Nat→Nat
 |0=>0
 |n+1=>vl l n+(if(n:Int)∈l then 1 else 0)
def yB (l:List Int) (x:Int):Nat:=vl l x.toNat
def si (l:List Int):List Int:=l.map fun x=>(yB l x:Int)
theorem zf {l m:List Int}:∀n:Nat,(∀y:Int,0≤y→y<n→(y∈l↔y∈m))→vl l n=vl m n
 |0,_=>rfl
 |n+1,h=>by
  unfold vl
  rw[zf n (fun y h0 h1=>h y h0 (by omega))]
  have:=h n (by omega) (by omega)
  by_cases hm:(n:Int)∈l
  ·rw[if_pos hm,if_pos (this.1 hm)]
  ·rw[if_neg hm,if_neg (fun k=>hm (this.2 k))]
theorem Cn (l:List Int):∀n,vl l n≤n
 |0=>Nat.le_refl _
 |n+1=>by unfold vl;have:=Cn l n;split<;>omega
/-- A list without repeats that has just the members of l below n: as many. -/
theorem xF {l:List Int}:∀(n:Nat) (s:List Int),s.Nodup→(∀y,y∈s↔(y∈l∧0≤y∧y<n))→s.length=vl l n
 |0,s,_,h=>by
  cases s with
  |nil=>rfl
  |cons y s=>have:=(h y).1 List.mem_cons_self;omega
 |n+1,s,hd,h=>by
  unfold vl
  by_cases hn:(n:Int)∈l
  ·rw[if_pos hn]
   have hs:(n:Int)∈s:=(h n).2 ⟨hn,by omega,by omega⟩
   have:=xF (l:=l) n (s.erase n) (hd.erase _) (fun y=>by
    rw[hd.mem_erase_iff]
    constructor
    ·rintro⟨a,b⟩
     obtain⟨b,c,d⟩:=(h y).1 b
     exact⟨b,c,by omega⟩
    ·rintro⟨b,c,d⟩
     exact⟨by omega,(h y).2 ⟨b,c,by omega⟩⟩)
   rw[List.length_erase_of_mem hs]at this
   have hp:0<s.length:=List.length_pos_of_mem hs
   omega
  ·rw[if_neg hn]
   exact xF n s hd (fun y=>by
    rw[h y]
    constructor
    ·rintro⟨a,b,c⟩;exact⟨a,b,by have:y≠n:=fun e=>hn (e▸a);omega⟩
    ·rintro⟨a,b,c⟩;exact⟨a,b,by omega⟩)
theorem vq (l:List Int):(si l).length=l.length:=List.length_map ..
/-- Every level below one is taken. -/
theorem AU {l:List Int}:∀(n k:Nat),k<vl l n→∃y∈l,0≤y∧y<n∧yB l y=k
 |0,k,h=>by simp[vl]at h
 |n+1,k,h=>by
  unfold vl at h
  by_cases hk:k<vl l n
  ·obtain⟨y,hy,h0,h1,h2⟩:=AU n k hk
   exact⟨y,hy,h0,by omega,h2⟩
  ·by_cases hn:(n:Int)∈l
   ·rw[if_pos hn]at h
    exact⟨n,hn,by omega,by omega,by show vl l ((n:Int).toNat)=k;rw[Int.toNat_natCast];omega⟩
   ·rw[if_neg hn]at h;omega
theorem yo {l:List Int} {y:Int}:y∈si l↔∃x∈l,(yB l x:Int)=y:=by unfold si;rw[List.mem_map]
/-- Tidying twice is tidying once. -/
theorem CP {l:List Int} {x:Int} (_:x∈l) (_:0≤x):yB (si l) (yB l x)=yB l x:=by
 have key:∀n:Nat,n≤yB l x→vl (si l) n=n:=by
  intro n
  induction n with
  |zero=>intro _;rfl
  |succ n ih=>
   intro h
   unfold vl
   obtain⟨y,hy,_,_,he⟩:=AU (l:=l) x.toNat n h
   rw[ih (by omega),if_pos (yo.2 ⟨y,hy,by rw[he]⟩)]
 show vl (si l) ((yB l x:Int).toNat)=yB l x
 rw[Int.toNat_natCast]
 exact key _ (Nat.le_refl _)
theorem AV {l:List Int} (h:∀x∈l,0≤x):si (si l)=si l:=by
 show(si l).map _=_
 conv=>lhs;arg 2;unfold si
 rw[List.map_map]
 show _=l.map _
 apply List.map_congr_left
 intro x hx
 show((yB (si l) (yB l x):Nat):Int)=_
 rw[CP hx (h x hx)]
theorem zM (z:Int) (l:List Int):∀n:Nat,vl (z::l) n≤vl l n+(if 0≤z∧z<n then 1 else 0)
 |0=>by unfold vl;omega
 |n+1=>by
  have ih:=zM z l n
  have e1:vl (z::l) (n+1)=vl (z::l) n+(if(n:Int)∈z::l then 1 else 0):=rfl
  have e2:vl l (n+1)=vl l n+(if(n:Int)∈l then 1 else 0):=rfl
  rw[e1,e2]
  by_cases hz:z=(n:Int)
  ·subst hz
   rw[if_neg (by omega)]at ih
   rw[if_pos (c:=0≤(n:Int)∧_) (by omega)]
   split<;>split<;>omega
  ·have hm:((n:Int)∈z::l)↔(n:Int)∈l:=by rw[List.mem_cons];exact⟨fun h=>h.resolve_left (fun e=>hz e.symm),Or.inr⟩
   by_cases hl:(n:Int)∈l
   ·rw[if_pos (hm.2 hl),if_pos hl]
    split at ih<;>split<;>omega
   ·rw[if_neg (fun k=>hl (hm.1 k)),if_neg hl]
    split at ih<;>split<;>omega
theorem zg {l:List Int} {n:Nat}:vl l n≤(l.filter fun y=>decide (y<(n:Int))).length:=by
 induction l with
 |nil=>
  have:∀n,vl [] n=0:=by intro n;induction n with|zero=>rfl|succ n ih=>unfold vl;rw[ih,if_neg (by simp)]
  rw[this];exact Nat.zero_le _
 |cons z l ih=>
  have:=zM z l n
  rw[List.filter_cons]
  by_cases h:z<(n:Int)
  ·rw[if_pos (by simpa using h),List.length_cons]
   split at this<;>omega
  ·rw[if_neg (by simpa using h)]
   rw[if_neg (by omega)]at this
   omega
theorem zD {l:List Int} {x:Int} (hx:x∈l) (h0:0≤x):yB l x<l.length:=by
 have h1:=zg (l:=l) (n:=x.toNat)
 have h2:(l.filter fun y=>decide (y<((x.toNat:Nat):Int))).length<l.length:=by
  rw[Int.toNat_of_nonneg h0]
  have hle:=List.length_filter_le (fun y=>decide (y<x)) l
  rcases Nat.lt_or_ge (l.filter fun y=>decide (y<x)).length l.length with h|h
  ·exact h
  ·have he:(l.filter fun y=>decide (y<x)).length=l.length:=by omega
   have:=List.length_filter_eq_length_iff.1 he x hx
   simp at this
 unfold yB
 omega
/-- The least one has level 0. -/
theorem DU {l:List Int} {x:Int} (h:∀y∈l,0≤y→x≤y):yB l x=0:=by
 unfold yB
 have:∀n:Nat,n≤x.toNat→vl l n=0:=by
  intro n
  induction n with
  |zero=>intro _;rfl
  |succ n ih=>
   intro hn
   unfold vl
   rw[ih (by omega),if_neg (fun hm=>by have:=h n hm (by omega);omega)]
 exact this _ (Nat.le_refl _)
/-- The place of a member in an ascending list without repeats: how many are less. -/
theorem ER {c:List Int} (hs:c.Pairwise (·<·)) (h0:∀x∈c,0≤x) {i:Nat} (hi:i<c.length):yB c c[i]=i:=by
 have hx0:0≤c[i]:=h0 _ (List.getElem_mem hi)
 unfold yB
 have hn:(c.take i).Nodup:=by
  have:(c.take i).Pairwise (·<·):=hs.sublist (List.take_sublist ..)
  exact this.imp (fun h=>by omega)
 have hget:=List.pairwise_iff_getElem.1 hs
 rw[←xF (l:=c) c[i].toNat (c.take i) hn (fun y=>by
  rw[Int.toNat_of_nonneg hx0]
  constructor
  ·intro hy
   obtain⟨j,hj,rfl⟩:=List.mem_iff_getElem.1 hy
   rw[List.length_take]at hj
   rw[List.getElem_take]
   refine⟨List.getElem_mem _,h0 _ (List.getElem_mem _),hget j i (by omega) hi (by omega)⟩
  ·rintro⟨hy,_,hlt⟩
   obtain⟨j,hj,rfl⟩:=List.mem_iff_getElem.1 hy
   have hji:j<i:=by
    rcases(by omega:j<i∨j=i∨i<j)with k|k|k
    ·exact k
    ·subst k;omega
    ·have:=hget i j hi hj k;omega
   rw[List.mem_iff_getElem]
   exact⟨j,by rw[List.length_take];omega,List.getElem_take⟩)]
 rw[List.length_take]
 omega
theorem CQ {l m:List Int} (h:∀y,y∈l↔y∈m) (x:Int):yB l x=yB m x:=zf _ (fun y _ _=>h y)
def rB (t:Int) (l:List Int):Bool:=decide ((1≤t∧t≤3)∧l.length=wn t∧(∀x∈l,0≤x∧x≤9)∧(0:Int)∈l)
theorem qc {t:Int} {l:List Int}:rB t l=true↔(1≤t∧t≤3)∧l.length=wn t∧(∀x∈l,0≤x∧x≤9)∧(0:Int)∈l:=by unfold rB;exact decide_eq_true_iff
theorem xG (l:List Int) (i:Nat):rd l (i:Int)=l.getD i 0:=by unfold rd;rw[Int.toNat_natCast]
theorem yd (a b:Int):(mn a b=a∨mn a b=b)∧mn a b≤a∧mn a b≤b:=by unfold mn;split<;>omega
theorem DV (a b:Int):(mx a b=a∨mx a b=b)∧a≤mx a b∧b≤mx a b:=by unfold mx;split<;>omega
theorem wS (t:Int) {l:List Int} (hn:l.length≤9223372036854775807):Ev (fun k=>kc.f k t l) (rB t l):=by
 unfold kc.f
 have key:∀i,i≤l.length→∀m:Int,0≤m→m≤9→Ev (fun k=>kc.l0 k t l m (i:Int)) (decide ((1≤t∧t≤3)∧l.length=wn t∧(∀x∈l.drop i,0≤x∧x≤9)∧(m=0∨(0:Int)∈l.drop i))):=by
  apply down
  ·intro m h0 h9
   refine Ev.step (fun k=>rfl) (jO (by omega) (kg (wE _ _ _) ?_))
   rw[List.drop_length]
   by_cases ht:1≤t∧t≤3
   ·refine jM (decide_eq_true ht) (jM (by omega) ?_)
    rw[xW ht]
    by_cases hl:l.length=wn t
    ·refine jM (by omega) (qq (Ev.now _) ?_)
     by_cases hm:m=0
     ·rw[hm,decide_eq_true ⟨ht,hl,fun x hx=>absurd hx (by simp),Or.inl rfl⟩];rfl
     ·rw[decide_eq_false (fun k=>by rcases k.2.2.2 with h|h;exact hm h;simp at h)]
      exact beq_eq_false_iff_ne.2 hm
    ·refine jO (by omega) (qq (Ev.now _) ?_)
     rw[decide_eq_false (fun k=>hl k.2.1)]
   ·refine jO (by rw[decide_eq_false ht];decide) (qq (Ev.now _) ?_)
    rw[decide_eq_false (fun k=>ht k.1)]
  ·intro i hi ih m h0 h9
   refine Ev.step (fun k=>rfl) (jM (by omega) (jM (by omega) (kg (wE _ _ _) ?_)))
   rw[ss hi]
   by_cases hr:0≤l[i]∧l[i]≤9
   ·obtain⟨m1,m2,m3⟩:=yd m l[i]
    refine jM (decide_eq_true hr) ?_
    rw[w1 hi hn]
    refine qq (ih (mn m l[i]) (by omega) (by omega)) (decide_eq_decide.2 ?_)
    rw[List.drop_eq_getElem_cons hi]
    simp only[List.mem_cons,forall_eq_or_imp]
    constructor
    ·rintro⟨a,b,c,d⟩
     refine⟨a,b,⟨hr,c⟩,?_⟩
     rcases d with d|d
     ·rcases m1 with m1|m1
      ·exact Or.inl (by omega)
      ·exact Or.inr (Or.inl (by omega))
     ·exact Or.inr (Or.inr d)
    ·rintro⟨a,b,⟨_,c⟩,d⟩
     refine⟨a,b,c,?_⟩
     rcases d with d|d|d
     ·exact Or.inl (by omega)
     ·exact Or.inl (by omega)
     ·exact Or.inr d
   ·refine jO (by rw[decide_eq_false hr];decide) (qq (Ev.now _) ?_)
    rw[decide_eq_false (fun k=>hr (k.2.2.1 _ (by rw[List.drop_eq_getElem_cons hi];exact List.mem_cons_self)))]
 refine qq (key 0 (Nat.zero_le _) 9 (by omega) (by omega)) (decide_eq_decide.2 ?_)
 rw[List.drop_zero]
 exact⟨fun⟨a,b,c,d⟩=>⟨a,b,c,d.resolve_left (by omega)⟩,fun⟨a,b,c,d⟩=>⟨a,b,c,Or.inr d⟩⟩
/-! ### tidy: the reference -/
theorem xu {t:Int} {l:List Int} (h:rB t l=true):Ev (fun k=>jP.f k t l) (si l):=by
 obtain⟨ht,hl,hx,_⟩:=qc.1 h
 have h8:=(wu t).1
 unfold jP.f
 have l2:∀(out:List Int) (w c:Nat) (r:Int) (res:List Int),∀v,v≤l.length→∀b:Bool,
   Ev (fun k=>jP.l1 k t l out (w:Int) (if(b=true∨r∈l.drop v)then wrap64 ((c:Int)+1)else(c:Int)) (wrap64 (r+1))) res→Ev (fun k=>jP.l2 k t l out (w:Int) (c:Int) r b (v:Int)) res:=by
  intro out w c r res
  apply down (P:=fun v=>∀b:Bool,Ev (fun k=>jP.l1 k t l out (w:Int) (if(b=true∨r∈l.drop v)then wrap64 ((c:Int)+1)else(c:Int)) (wrap64 (r+1))) res→Ev (fun k=>jP.l2 k t l out (w:Int) (c:Int) r b (v:Int)) res)
  ·intro b hb
   refine Ev.step (fun k=>rfl) (jO (by omega) ?_)
   rw[List.drop_length]at hb
   cases b with
   |true=>rw[if_pos (Or.inl rfl)]at hb;exact jM rfl hb
   |false=>rw[if_neg (by simp)]at hb;exact jO (by decide) hb
  ·intro v hv ih b hb
   refine Ev.step (fun k=>rfl) (jM (by omega) ?_)
   rw[List.drop_eq_getElem_cons hv]at hb
   cases b with
   |true=>
    refine jM rfl ?_
    rw[w1 hv (by omega)]
    refine ih true ?_
    rw[if_pos (Or.inl rfl)]at hb⊢
    exact hb
   |false=>
    refine jO (by decide) (jM (by omega) ?_)
    rw[ss hv,w1 hv (by omega)]
    refine ih _ ?_
    have:((l[v]==r)=true∨r∈l.drop (v+1))↔(false=true∨r∈l[v]::l.drop (v+1)):=by
     rw[List.mem_cons,beq_iff_eq]
     constructor
     ·rintro(h|h)
      ·exact Or.inr (Or.inl h.symm)
      ·exact Or.inr (Or.inr h)
     ·rintro(h|h|h)
      ·cases h
      ·exact Or.inl h.symm
      ·exact Or.inr h
    simp only[this]
    exact hb
 have l1:∀(out:List Int) (w:Nat) (hw:w<l.length) (res:List Int),out.length≤8→Ev (fun k=>jP.l0 k t l (out++ [(yB l l[w]:Int)]) ((w+1:Nat):Int)) res→
   ∀r,r≤(l[w]).toNat→Ev (fun k=>jP.l1 k t l out (w:Int) (vl l r:Int) (r:Int)) res:=by
  intro out w hw res ho hres
  have hxw:=hx _ (List.getElem_mem hw)
  apply down
  ·refine Ev.step (fun k=>rfl) (jM (by omega) (jO (by rw[ss hw];omega) (jM (by omega) ?_)))
   rw[w1 hw (by omega)]
   exact hres
  ·intro r hr ih
   refine Ev.step (fun k=>rfl) (jM (by omega) (jM (by rw[ss hw];omega) ?_))
   refine l2 out w (vl l r) (r:Int) res 0 (Nat.zero_le _) false ?_
   have hc:=Cn l r
   have e:(if(false=true∨(r:Int)∈l.drop 0)then wrap64 ((vl l r:Int)+1)else(vl l r:Int))=((vl l (r+1):Nat):Int):=by
    show _=((vl l r+(if(r:Int)∈l then 1 else 0):Nat):Int)
    rw[List.drop_zero]
    by_cases hm:(r:Int)∈l
    ·rw[if_pos (Or.inr hm),if_pos hm,xn (by omega) (by omega)];rfl
    ·rw[if_neg (by rintro(k|k);cases k;exact hm k),if_neg hm];rfl
   rw[e,xn (n:=(r:Int)+1) (by omega) (by omega)]
   exact ih
 have l0:∀w,w≤l.length→Ev (fun k=>jP.l0 k t l ((l.take w).map fun x=>(yB l x:Int)) (w:Int)) (si l):=by
  apply down
  ·refine Ev.step (fun k=>rfl) (jO (by omega) (Ev.step (fun k=>rfl) ?_))
   simp only[jP.j1]
   refine jO (by decide) (qq (Ev.now _) ?_)
   rw[List.take_length]
   rfl
  ·intro w hw ih
   have hr:=wS t (l:=l) (by omega)
   rw[h]at hr
   refine Ev.step (fun k=>rfl) (jM (by omega) (Ev.bind hr (Ev.step (fun k=>rfl) ?_)))
   simp only[jP.j1]
   refine jM trivial (l1 _ w hw _ (by rw[List.length_map,List.length_take];omega) ?_ 0 (Nat.zero_le _))
   rw[List.take_succ_eq_append_getElem hw,List.map_append]at ih
   exact ih
 exact l0 0 (Nat.zero_le _)
theorem xp (a:Int):qp.f a=some (decide (1≤a∧a≤3)):=by
 unfold qp.f
 by_cases h:a≥1
 ·rw[if_pos h]
  congr 1
  exact decide_eq_decide.2 ⟨fun k=>⟨h,k⟩,fun k=>k.2⟩
 ·rw[if_neg h]
  congr 1
  symm
  exact decide_eq_false (fun k=>h k.1)
theorem AW {l:List Int} {y:Int}:y∈l↔∃p,p<l.length∧l.getD p 0=y:=by
 rw[List.mem_iff_getElem]
 constructor
 ·rintro⟨p,hp,rfl⟩
  exact⟨p,hp,by simp[hp]⟩
 ·rintro⟨p,hp,rfl⟩
  exact⟨p,hp,by simp[hp]⟩
def Ik (l:List Int) (i:Nat):Prop:=∀p q,p<q→q<i→l.getD p 0≤l.getD q 0
theorem Gd {l:List Int} (h:0<l.length) (hn:l.length≤9223372036854775807):∃r,Ev (fun k=>kM.f k l) r∧r∈l∧∀y∈l,r≤y:=by
 unfold kM.f
 have key:∀i,i≤l.length→∀m:Int,∃r,Ev (fun k=>kM.l0 k l m (i:Int)) r∧(r=m∨r∈l.drop i)∧r≤m∧∀y∈l.drop i,r≤y:=by
  apply down
  ·intro m
   exact⟨m,Ev.step (fun k=>rfl) (jO (by omega) (Ev.now _)),Or.inl rfl,Int.le_refl _,fun y hy=>by rw[List.drop_length]at hy;simp at hy⟩
  ·intro i hi ih m
   obtain⟨r,h1,h2,h3,h4⟩:=ih (mn m l[i])
   obtain⟨m1,m2,m3⟩:=yd m l[i]
   refine⟨r,Ev.step (fun k=>rfl) (jM (by omega) (jM (by omega) (by rw[ss hi,w1 hi hn];exact h1))),?_,by omega,?_⟩
   ·rw[List.drop_eq_getElem_cons hi,List.mem_cons]
    rcases h2 with h2|h2
    ·rcases m1 with m1|m1
     ·exact Or.inl (by omega)
     ·exact Or.inr (Or.inl (by omega))
    ·exact Or.inr (Or.inr h2)
   ·rw[List.drop_eq_getElem_cons hi]
    intro y hy
    rcases List.mem_cons.1 hy with rfl|hy
    ·omega
    ·exact h4 y hy
 obtain⟨r,h1,h2,h3,h4⟩:=key 1 h (l[0])
 have e:rd l 0=l[0]:=ss (i:=0) h
 have hd:l=l[0]::l.drop 1:=by have:=List.drop_eq_getElem_cons h;rw[List.drop_zero]at this;exact this
 refine⟨r,jO (by omega) (jM (by omega) (by rw[e];exact h1)),?_,fun y hy=>?_⟩
 ·rcases h2 with h2|h2
  ·rw[h2];exact List.getElem_mem h
  ·exact List.mem_of_mem_drop h2
 ·rw[hd]at hy
  rcases List.mem_cons.1 hy with rfl|hy
  ·exact h3
  ·exact h4 y hy
theorem Ge {l:List Int} (h:0<l.length) (hn:l.length≤9223372036854775807):∃r,Ev (fun k=>kU.f k l) r∧r∈l∧∀y∈l,y≤r:=by
 unfold kU.f
 have key:∀i,i≤l.length→∀m:Int,∃r,Ev (fun k=>kU.l0 k l m (i:Int)) r∧(r=m∨r∈l.drop i)∧m≤r∧∀y∈l.drop i,y≤r:=by
  apply down
  ·intro m
   exact⟨m,Ev.step (fun k=>rfl) (jO (by omega) (Ev.now _)),Or.inl rfl,Int.le_refl _,fun y hy=>by rw[List.drop_length]at hy;simp at hy⟩
  ·intro i hi ih m
   obtain⟨r,h1,h2,h3,h4⟩:=ih (mx m l[i])
   obtain⟨m1,m2,m3⟩:=DV m l[i]
   refine⟨r,Ev.step (fun k=>rfl) (jM (by omega) (jM (by omega) (by rw[ss hi,w1 hi hn];exact h1))),?_,by omega,?_⟩
   ·rw[List.drop_eq_getElem_cons hi,List.mem_cons]
    rcases h2 with h2|h2
    ·rcases m1 with m1|m1
     ·exact Or.inl (by omega)
     ·exact Or.inr (Or.inl (by omega))
    ·exact Or.inr (Or.inr h2)
   ·rw[List.drop_eq_getElem_cons hi]
    intro y hy
    rcases List.mem_cons.1 hy with rfl|hy
    ·omega
    ·exact h4 y hy
 obtain⟨r,h1,h2,h3,h4⟩:=key 1 h (l[0])
 have e:rd l 0=l[0]:=ss (i:=0) h
 have hd:l=l[0]::l.drop 1:=by have:=List.drop_eq_getElem_cons h;rw[List.drop_zero]at this;exact this
 refine⟨r,jO (by omega) (jM (by omega) (by rw[e];exact h1)),?_,fun y hy=>?_⟩
 ·rcases h2 with h2|h2
  ·rw[h2];exact List.getElem_mem h
  ·exact List.mem_of_mem_drop h2
 ·rw[hd]at hy
  rcases List.mem_cons.1 hy with rfl|hy
  ·exact h3
  ·exact h4 y hy
theorem CR (t:Int) {l:List Int} (hn:l.length≤9223372036854775807):Ev (fun k=>pW.f k t l) (rB t l):=by
 unfold pW.f
 refine kg (xp t) ?_
 by_cases ht:1≤t∧t≤3
 ·refine jM (decide_eq_true ht) (jM (by omega) ?_)
  rw[xW ht]
  refine Ev.step (fun k=>rfl) ?_
  simp only[pW.j0]
  by_cases hl:l.length=wn t
  ·refine jO (by rw[hl];simp) ?_
   have h2:=(wu t).2
   obtain⟨m,hm,hm1,hm2⟩:=Gd (l:=l) (by omega) hn
   obtain⟨M,hM,hM1,hM2⟩:=Ge (l:=l) (by omega) hn
   refine Ev.bind hm ?_
   by_cases h0:m=0
   ·refine jM h0 (Ev.bind hM (qq (Ev.now _) (decide_eq_decide.2 ?_)))
    subst h0
    constructor
    ·intro h9
     exact⟨ht,hl,fun x hx=>⟨hm2 x hx,Int.le_trans (hM2 x hx) h9⟩,hm1⟩
    ·intro h
     exact(h.2.2.1 M hM1).2
   ·refine jO h0 (qq (Ev.now _) ?_)
    unfold rB
    rw[decide_eq_false]
    rintro⟨_,_,h1,h2⟩
    have:=hm2 0 h2
    have:=(h1 m hm1).1
    omega
  ·refine jM (by rw[bne_iff_ne];omega) (qq (Ev.now _) ?_)
   unfold rB
   rw[decide_eq_false (fun k=>hl k.2.1)]
 ·refine jO (by rw[decide_eq_false ht];decide) (Ev.step (fun k=>rfl) ?_)
  simp only[pW.j0]
  refine jM trivial (qq (Ev.now _) ?_)
  unfold rB
  rw[decide_eq_false (fun k=>ht k.1)]

/-! ### tidy: the program -/
theorem ES {l:List Int} (hn:l.length≤8):∃r,Ev (fun _=>rC.f l) r∧Ik r r.length∧r.length=l.length∧∀y,y∈r↔y∈l:=by
 have hs:(l.mergeSort fun x y=>decide (x≤y)).Pairwise (fun a b=>decide (a≤b)=true):=List.pairwise_mergeSort (fun a b c h1 h2=>by simp only[decide_eq_true_eq]at*;omega) (fun a b=>by simp only[Bool.or_eq_true,decide_eq_true_eq];omega) l
 have hp:=List.mergeSort_perm l fun x y=>decide (x≤y)
 refine⟨_,Fz (if_pos (by omega)),fun p q h1 h2=>?_,hp.length_eq,fun y=>hp.mem_iff⟩
 have:=List.pairwise_iff_getElem.1 hs p q (by omega) h2 h1
 rw[List.getD_eq_getElem?_getD,List.getD_eq_getElem?_getD,List.getElem?_eq_getElem h2,List.getElem?_eq_getElem (show p<(l.mergeSort fun x y=>decide (x≤y)).length by omega)]
 exact of_decide_eq_true this
theorem Ai {l:List Int} (hs:Ik l l.length):(Lib.compact l).Pairwise (·<·)∧∀y,y∈Lib.compact l↔y∈l:=by
 have hd:∀m,m<l.length→l.toArray[m]! =l.getD m 0:=fun m hm=>by simp[hm]
 have key:∀m,m≤l.length→(Lib.compactUpTo l.toArray m).Pairwise (·<·)∧(∀y∈Lib.compactUpTo l.toArray m,∃p,p<m∧l.getD p 0=y)∧∀p,p<m→l.getD p 0∈Lib.compactUpTo l.toArray m:=by
  intro m
  induction m with
  |zero=>intro _;exact⟨List.Pairwise.nil,fun y hy=>by simp[Lib.compactUpTo]at hy,fun p hp=>by omega⟩
  |succ m ih=>
   intro hm
   obtain⟨h1,h2,h3⟩:=ih (by omega)
   rw[Lib.compactUpTo_succ]
   by_cases hk:Lib.keeps l.toArray m=true
   ·rw[if_pos hk,hd m (by omega)]
    refine⟨List.pairwise_append.2 ⟨h1,List.pairwise_singleton _ _,fun y hy z hz=>?_⟩,fun y hy=>?_,fun p hp=>?_⟩
    ·rw[List.mem_singleton.1 hz]
     obtain⟨p,hp,rfl⟩:=h2 y hy
     unfold Lib.keeps at hk
     rw[decide_eq_true_iff]at hk
     rcases hk with hk|hk
     ·omega
     ·rw[hd m (by omega),hd (m - 1) (by omega)]at hk
      have a:=hs (m - 1) m (by omega) (by omega)
      by_cases e:p=m - 1
      ·rw[e];omega
      ·have:=hs p (m - 1) (by omega) (by omega);omega
    ·rcases List.mem_append.1 hy with hy|hy
     ·obtain⟨p,hp,e⟩:=h2 y hy
      exact⟨p,by omega,e⟩
     ·exact⟨m,by omega,(List.mem_singleton.1 hy).symm⟩
    ·rw[List.mem_append]
     by_cases e:p=m
     ·rw[e];exact Or.inr (List.mem_singleton.2 rfl)
     ·exact Or.inl (h3 p (by omega))
   ·rw[if_neg hk,List.append_nil]
    refine⟨h1,fun y hy=>by obtain⟨p,hp,e⟩:=h2 y hy;exact⟨p,by omega,e⟩,fun p hp=>?_⟩
    by_cases e:p=m
    ·unfold Lib.keeps at hk
     rw[decide_eq_true_iff]at hk
     have hk2:l.toArray[m]! =l.toArray[m - 1]! :=by
      by_cases q:l.toArray[m]! =l.toArray[m - 1]!
      ·exact q
      ·exact absurd (Or.inr q) hk
     have hm0:m≠0:=fun q=>hk (Or.inl q)
     rw[hd m (by omega),hd (m - 1) (by omega)]at hk2
     rw[e,hk2]
     exact h3 (m - 1) (by omega)
    ·exact h3 p (by omega)
 obtain⟨h1,h2,h3⟩:=key l.length (Nat.le_refl _)
 refine⟨h1,fun y=>?_⟩
 rw[AW (l:=l)]
 show y∈Lib.compactUpTo l.toArray l.length↔_
 constructor
 ·intro hy
  obtain⟨p,hp,e⟩:=h2 y hy
  exact⟨p,hp,e⟩
 ·rintro⟨p,hp,rfl⟩
  exact h3 p hp
theorem DW {c:List Int} (hc:c.Pairwise (·<·)) (h0:∀x∈c,0≤x) (hn:c.length≤100) {x:Int} (hx:x∈c):Ev (fun k=>kH.f k c x) (yB c x:Int):=by
 unfold kH.f
 obtain⟨p,hp,rfl⟩:=List.mem_iff_getElem.1 hx
 rw[ER hc h0 hp]
 have hget:=List.pairwise_iff_getElem.1 hc
 have key:∀i,i≤p→Ev (fun k=>kH.l0 k c c[p] (c.length:Int) (i:Int)) (p:Int):=by
  apply down
  ·exact Ev.step (fun k=>rfl) (jM (by omega) (jM (by omega) (jM (by omega) (jM (ss hp).symm (Ev.now _)))))
  ·intro i hi ih
   have hne:¬c[p]=rd c (i:Int):=by rw[ss (by omega)];have:=hget i p (by omega) hp hi;omega
   refine Ev.step (fun k=>rfl) (jM (by omega) (jM (by omega) (jM (by omega) (jO hne ?_))))
   rw[w1 (n:=c.length) (by omega) (by omega)]
   exact ih
 exact key 0 (Nat.zero_le _)
theorem Co {l:List Int} (hn:l.length≤8) (h0:∀x∈l,0≤x):Ev (fun k=>qj.f k l) (si l):=by
 unfold qj.f
 obtain⟨r,h1,h2,h3,h4⟩:=ES hn
 obtain⟨c1,c2⟩:=Ai h2
 have hcl:=qy.len r
 refine kg rfl (jM (by show 0+l.length<_;omega) ?_)
 rw[List.nil_append]
 refine Ev.bind h1 (kg rfl ?_)
 obtain⟨c,ec⟩:∃c,c=Lib.compact r:=⟨_,rfl⟩
 rw[←ec]at c1 c2 hcl⊢
 have hcm:∀y,y∈c↔y∈l:=fun y=>(c2 y).trans (h4 y)
 have key:∀i,i≤l.length→Ev (fun k=>qj.l0 k c ((l.take i).map fun x=>(yB l x:Int)) l (l.length:Int) (i:Int)) (si l):=by
  apply down
  ·refine Ev.step (fun k=>rfl) (jO (by omega) (qq (Ev.now _) ?_))
   rw[List.take_length]
   rfl
  ·intro i hi ih
   have hx:=DW c1 (fun x hx=>h0 x ((hcm x).1 hx)) (by omega) ((hcm l[i]).2 (List.getElem_mem hi))
   rw[CQ hcm]at hx
   refine Ev.step (fun k=>rfl) (jM (by omega) (jM (by omega) (jM (by omega) ?_)))
   rw[ss hi]
   refine Ev.bind hx (jM (by rw[List.length_map,List.length_take];omega) ?_)
   rw[w1 hi (by omega)]
   rw[List.take_succ_eq_append_getElem hi,List.map_append]at ih
   exact ih
 exact key 0 (Nat.zero_le _)
theorem AX {l m:List Int} (hn:l.length≤9223372036854775807):Ev (fun k=>kf.f k l m) (decide (l=m)):=by
 unfold kf.f
 by_cases hl:l.length=m.length
 ·refine jM (by omega) ?_
  have key:∀i,i≤l.length→Ev (fun k=>kf.l0 k l m (l.length:Int) (i:Int)) (decide (l.drop i=m.drop i)):=by
   apply down
   ·refine Ev.step (fun k=>rfl) (jO (by omega) (qq (Ev.now _) ?_))
    rw[List.drop_length,List.drop_of_length_le (by omega)]
    exact(decide_eq_true rfl).symm
   ·intro i hi ih
    refine Ev.step (fun k=>rfl) (jM (by omega) (jM (by omega) (jM (by omega) (jM (by omega) ?_))))
    rw[ss hi,ss (by omega),List.drop_eq_getElem_cons hi,List.drop_eq_getElem_cons (l:=m) (by omega)]
    by_cases e:l[i]=m[i]
    ·refine jM e ?_
     rw[w1 hi hn]
     refine qq ih (decide_eq_decide.2 ?_)
     rw[List.cons.injEq]
     exact⟨fun h=>⟨e,h⟩,fun h=>h.2⟩
    ·refine jO e (qq (Ev.now _) ?_)
     rw[decide_eq_false (fun h=>e (List.cons.inj h).1)]
  have:=key 0 (Nat.zero_le _)
  rw[List.drop_zero,List.drop_zero]at this
  exact this
 ·refine jO (by omega) (qq (Ev.now _) ?_)
  rw[decide_eq_false (fun h=>hl (by rw[h]))]
def all (t:Int):Nat:=if t=1 then 3 else if t=2 then 15 else 255
theorem xv (t:Int):all t<256:=by unfold all;split<;>(try split)<;>omega
theorem xw {t:Int} (h:1≤t∧t≤3):qw.f t=some (all t:Int):=by
 rcases three h with rfl|rfl|rfl<;>decide+kernel
theorem wk {t:Int} (h:1≤t∧t≤3):qh.f t=some (all t:Int):=by
 rcases three h with rfl|rfl|rfl<;>decide+kernel
def DX (t s:Int):Bool:=decide ((1≤t∧t≤3)∧0≤s∧s≤all t)
theorem wX (s w:Nat) (h:w≤62):pV.f (s:Int) (w:Int)=some ((bi s w:Nat):Int):=by
 unfold pV.f
 rw[if_pos (by omega),EM s w h]
theorem Gf (a b i:Nat):bi a i*bi b i=bi (a&&& b) i:=by
 rw[yn,yn,yn,Nat.testBit_and]
 cases a.testBit i<;>cases b.testBit i<;>rfl
theorem FA (a i:Nat):bi a i≤1:=by
 have:bi a i<2:=Nat.mod_lt _ (by decide)
 omega
theorem xH {a b:Nat} (ha:a<256):Ev (fun k=>pC.f k (a:Int) (b:Int)) ((a&&& b:Nat):Int):=by
 unfold pC.f
 have key:∀(i:Nat),i≤8→Ev (fun k=>pC.l0 k (a:Int) (b:Int) (((a&&& b)%2^i:Nat):Int) (i:Int)) ((a&&& b:Nat):Int):=by
  apply down
  ·refine Ev.step (fun k=>rfl) (jO (by omega) (qq (Ev.now _) ?_))
   have:a&&& b<2^8:=Nat.lt_of_le_of_lt Nat.and_le_left ha
   rw[Nat.mod_eq_of_lt this]
  ·intro i hi ih
   refine Ev.step (fun k=>rfl) (jM (by omega) (kg (wX a i (by omega)) (kg (wX b i (by omega)) (jM (by omega) ?_))))
   have hp:(2:Nat)^i≤2^7:=Nat.pow_le_pow_right (by decide) (by omega)
   have hm:(a&&& b)%2^i<2^i:=Nat.mod_lt _ (Nat.two_pow_pos i)
   have hle:=FA (a&&& b) i
   have e1:wrap64 (((bi a i:Nat):Int)*((bi b i:Nat):Int))=((bi (a&&& b) i:Nat):Int):=by
    rw[←Int.natCast_mul,Gf]
    exact xn (by omega) (by omega)
   have hmul:2^i*bi (a&&& b) i≤2^7:=by
    have:=Nat.mul_le_mul hp hle
    omega
   have e2:wrap64 ((((a&&& b)%2^i:Nat):Int)+shl .i64 ((bi (a&&& b) i:Nat):Int) (i:Int))=(((a&&& b)%2^(i+1):Nat):Int):=by
    rw[JA _ i (by omega),←Int.natCast_mul,Nat.mul_comm,EP]
    generalize 2^i*bi (a&&& b) i=z at hmul
    generalize(a&&& b)%2^i=y at hm
    generalize 2^i=p at hp hm
    rw[xn (n:=((z:Nat):Int)) (by omega) (by omega),xn (by omega) (by omega)]
    omega
   rw[e1,e2,w1 hi (by omega)]
   exact ih
 have:=key 0 (Nat.zero_le _)
 simpa [Nat.mod_one] using this
theorem Cp {S i:Nat} (h:S<2^i):S+2^i=S|||2^i:=by
 have:=Nat.two_pow_add_eq_or_of_lt h 1
 rw[Nat.mul_one]at this
 rw[Nat.add_comm,this,Nat.or_comm]
theorem Cq {S i:Nat} (h:S<2^i) (j:Nat):(S+2^i).testBit j=(S.testBit j||decide (i=j)):=by
 rw[Cp h,Nat.testBit_or,Nat.testBit_two_pow]
theorem xI {p:Int→Option Bool} {q:Nat→Bool}:∀(n x s:Nat),x+n≤8→s<2^x→(∀y:Nat,y<x+n→p (y:Int)=some (q y))→
  ∃r:Nat,ow.l p n (x:Int) (s:Int)=some (r:Int)∧r<2^(x+n)∧∀w,r.testBit w=true↔s.testBit w=true∨(x≤w∧w<x+n∧q w=true)
 |0,x,s,_,hs,_=>⟨s,rfl,hs,fun w=>⟨Or.inl,fun h=>h.resolve_right fun k=>by omega⟩⟩
 |n+1,x,s,h8,hs,hp=>by
  have hx:2^x≤2^7:=Nat.pow_le_pow_right (by decide) (by omega)
  have hx2:2^(x+1)=2^x+2^x:=by rw[Nat.pow_succ];omega
  have hcast:(x:Int)+1=((x+1:Nat):Int):=by omega
  by_cases hq:q x=true
  ·obtain⟨r,h1,h2,h3⟩:=xI n (x+1) (s+2^x) (by omega) (by omega) (fun y hy=>hp y (by omega))
   refine⟨r,?_,by rw[show x+(n+1)=x+1+n from by omega];exact h2,fun w=>?_⟩
   ·show((p (x:Int)).bind fun b=>_)=_
    rw[hp x (by omega),Option.bind_some,hq,if_pos rfl,EL x (by omega),Ij _ _ (by omega) (by omega),←Cp hs,hcast]
    exact h1
   ·rw[h3,Cq hs,Bool.or_eq_true,decide_eq_true_iff]
    constructor
    ·rintro((k|rfl)|k)
     ·exact Or.inl k
     ·exact Or.inr ⟨by omega,by omega,hq⟩
     ·exact Or.inr ⟨by omega,by omega,k.2.2⟩
    ·rintro(k|⟨k1,k2,k3⟩)
     ·exact Or.inl (Or.inl k)
     ·by_cases e:x=w
      ·exact Or.inl (Or.inr e)
      ·exact Or.inr ⟨by omega,by omega,k3⟩
  ·obtain⟨r,h1,h2,h3⟩:=xI n (x+1) s (by omega) (by omega) (fun y hy=>hp y (by omega))
   refine⟨r,?_,by rw[show x+(n+1)=x+1+n from by omega];exact h2,fun w=>?_⟩
   ·show((p (x:Int)).bind fun b=>_)=_
    rw[hp x (by omega),Option.bind_some,if_neg hq,hcast]
    exact h1
   ·rw[h3]
    constructor
    ·rintro(k|k)
     ·exact Or.inl k
     ·exact Or.inr ⟨by omega,by omega,k.2.2⟩
    ·rintro(k|⟨k1,k2,k3⟩)
     ·exact Or.inl k
     ·by_cases e:x=w
      ·rw[←e]at k3;exact absurd k3 hq
      ·exact Or.inr ⟨by omega,by omega,k3⟩
/-! ### the least rank of a set's worlds -/
def sJ (l:List Int) (s:Nat):Nat→Nat→Int→Int
 |0,_,m=>m
 |d+1,i,m=>sJ l s d (i+1) (if s.testBit i=true then mn m (l.getD i 0)else m)
def leastOf (l:List Int) (s:Nat):Int:=sJ l s l.length 0 10
def Aj (q:Nat→Bool):Nat→Nat
 |0=>0
 |n+1=>Aj q n+(if q n=true then 2^n else 0)
theorem ye (q:Nat→Bool):∀n,Aj q n<2^n
 |0=>Nat.one_pos
 |n+1=>by
  have h:=ye q n
  unfold Aj
  rw[Nat.pow_succ]
  split<;>omega
theorem zh (q:Nat→Bool) (w:Nat):∀n,(Aj q n).testBit w=(decide (w<n)&&q w)
 |0=>by simp[Aj]
 |n+1=>by
  have h:=zh q w n
  unfold Aj
  by_cases hq:q n=true
  ·rw[if_pos hq,Cq (ye q n),h]
   by_cases e:n=w
   ·subst e;simp[hq]
   ·rw[decide_eq_false e,Bool.or_false]
    congr 1
    exact decide_eq_decide.2 (by omega)
  ·rw[if_neg hq,Nat.add_zero,h]
   by_cases e:n=w
   ·subst e
    have:q n=false:=by simpa using hq
    simp[this]
   ·congr 1
    exact decide_eq_decide.2 (by omega)
def qH (l:List Int) (s:Nat):Nat:=Aj (fun w=>s.testBit w&&decide (l.getD w 0=leastOf l s)) l.length
theorem xq (l:List Int) (s:Nat) (h:∀x∈l,0≤x):∀(d i:Nat) (m:Int),0≤m→m≤10→0≤sJ l s d i m∧sJ l s d i m≤10
 |0,_,m,h0,h1=>⟨h0,h1⟩
 |d+1,i,m,h0,h1=>by
  unfold sJ
  have hg:0≤l.getD i 0:=by
   by_cases hi:i<l.length
   ·rw[List.getD_eq_getElem?_getD,List.getElem?_eq_getElem hi];exact h _ (List.getElem_mem hi)
   ·rw[List.getD_eq_getElem?_getD,List.getElem?_eq_none (by omega)];exact Int.le_refl _
  obtain⟨a,b,c⟩:=yd m (l.getD i 0)
  split
  ·exact xq l s h d (i+1) _ (by omega) (by omega)
  ·exact xq l s h d (i+1) _ h0 h1
theorem yC {l:List Int} (hn:l.length≤60) {s:Nat} (hs:s<256):Ev (fun k=>kL.f k l (s:Int)) (leastOf l s):=by
 unfold kL.f leastOf
 have key:∀i,i≤l.length→∀m:Int,Ev (fun k=>kL.l0 k (s:Int) m l (l.length:Int) (i:Int)) (sJ l s (l.length - i) i m):=by
  apply down
  ·intro m
   rw[Nat.sub_self]
   exact Ev.step (fun k=>rfl) (jO (by omega) (Ev.now _))
  ·intro i hi ih m
   rw[show l.length - i=(l.length - (i+1))+1 from by omega]
   unfold sJ
   refine Ev.step (fun k=>rfl) (jM (by omega) (jM (by omega) (jM (by omega) ?_)))
   rw[Ah s i (by omega) (by omega),w1 hi (by omega),xG]
   by_cases hb:s.testBit i=true
   ·rw[if_pos hb]
    exact jM (wL.2 hb) (ih _)
   ·rw[if_neg hb]
    exact jO (fun k=>hb (wL.1 k)) (ih _)
 exact key 0 (Nat.zero_le _) 10
theorem wY {t:Int} (ht:1≤t∧t≤3) {l:List Int} (hl:l.length=wn t) {s:Nat} (hs:s<2^wn t):Ev (fun k=>kO.f k t l (s:Int)) ((qH l s:Nat):Int):=by
 have h8:=(wu t).1
 have hs8:s<256:=Nat.lt_of_lt_of_le hs (Nat.pow_le_pow_right (n:=2) (by decide) h8)
 unfold kO.f
 refine Ev.bind (yC (by omega) hs8) ?_
 have hp:∀y:Nat,y<0+wn t→kO.p l (leastOf l s) (y:Int)=some (decide (l.getD y 0=leastOf l s)):=by
  intro y hy
  unfold kO.p
  rw[if_pos (by omega),if_pos (by omega),xG]
 obtain⟨r,h1,h2,h3⟩:=xI (p:=kO.p l (leastOf l s)) (q:=fun y=>decide (l.getD y 0=leastOf l s)) (wn t) 0 0 (by omega) Nat.one_pos hp
 have hf:ow.f (kO.p l (leastOf l s)) t=some (r:Int):=by
  unfold ow.f
  rw[if_pos (by omega),if_pos (by omega),show 2^t.toNat=wn t from by rcases three ht with rfl|rfl|rfl<;>rfl]
  exact h1
 refine kg hf (qq (Ev.now _) ?_)
 rw[Nat.zero_add]at h2
 have KE:r<256:=Nat.lt_of_lt_of_le h2 (Nat.pow_le_pow_right (n:=2) (by decide) (by omega))
 rw[band s r (Nat.lt_trans hs8 (by decide)) (Nat.lt_trans KE (by decide))]
 congr 1
 apply Nat.eq_of_testBit_eq
 intro w
 unfold qH
 rw[Nat.testBit_and,zh,hl]
 have hb:=h3 w
 rw[Nat.zero_testBit]at hb
 by_cases hw:w<wn t
 ·rw[decide_eq_true hw,Bool.true_and]
  congr 1
  rw[Bool.eq_iff_iff,hb]
  constructor
  ·rintro(k|k)
   ·cases k
   ·exact k.2.2
  ·intro k
   exact Or.inr ⟨Nat.zero_le _,by omega,k⟩
 ·have hf:r.testBit w=false:=by
   rw[Bool.eq_false_iff]
   intro k
   rcases hb.1 k with k|k
   ·cases k
   ·omega
  rw[decide_eq_false hw,hf,Bool.and_false,Bool.false_and]
theorem wy {l:List Int} (hn:l.length≤8) (s:Nat):Ev (fun k=>kv.f k l (s:Int)) ((qH l s:Nat):Int):=by
 unfold kv.f
 have two:∀i,i≤l.length→Ev (fun k=>kv.l1 k l (s:Int) (leastOf l s) ((Aj (fun w=>s.testBit w&&decide (l.getD w 0=leastOf l s)) i:Nat):Int) (i:Int)) ((qH l s:Nat):Int):=by
  apply down
  ·exact Ev.step (fun k=>rfl) (jO (by omega) (Ev.now _))
  ·intro i hi ih
   have hb:=ye (fun w=>s.testBit w&&decide (l.getD w 0=leastOf l s)) i
   have hp:2^i≤2^7:=Nat.pow_le_pow_right (by decide) (by omega)
   refine Ev.step (fun k=>rfl) (jM (by omega) (kg (wX s i (by omega)) ?_))
   rw[w1 hi (by omega)]
   unfold Aj at ih
   by_cases hbit:s.testBit i=true
   ·refine jM (wL.2 hbit) (jM (by omega) ?_)
    rw[xG]
    by_cases he:l.getD i 0=leastOf l s
    ·refine jM he ?_
     rw[EL i (by omega),xn (by omega) (by omega)]
     rw[if_pos (by rw[hbit,decide_eq_true he];rfl)]at ih
     exact ih
    ·refine jO he ?_
     rw[if_neg (by rw[decide_eq_false he,Bool.and_false];decide)]at ih
     exact ih
   ·refine jO (fun k=>hbit (wL.1 k)) ?_
    rw[if_neg (by simp[hbit])]at ih
    exact ih
 have one:∀i,i≤l.length→∀m:Int,sJ l s (l.length - i) i m=leastOf l s→Ev (fun k=>kv.l0 k l (s:Int) m (i:Int)) ((qH l s:Nat):Int):=by
  apply down
  ·intro m hm
   rw[Nat.sub_self]at hm
   have:m=leastOf l s:=hm
   rw[this]
   exact Ev.step (fun k=>rfl) (jO (by omega) (two 0 (Nat.zero_le _)))
  ·intro i hi ih m hm
   rw[show l.length - i=(l.length - (i+1))+1 from by omega]at hm
   unfold sJ at hm
   refine Ev.step (fun k=>rfl) (jM (by omega) (kg (wX s i (by omega)) ?_))
   rw[w1 hi (by omega)]
   by_cases hbit:s.testBit i=true
   ·refine jM (wL.2 hbit) (jM (by omega) ?_)
    rw[xG]
    rw[if_pos hbit]at hm
    exact ih _ hm
   ·refine jO (fun k=>hbit (wL.1 k)) ?_
    rw[if_neg hbit]at hm
    exact ih _ hm
 exact one 0 (Nat.zero_le _) 10 rfl
/-! ### raised ranks -/
def raise (l:List Int) (F:Nat):List Int:=l.mapIdx fun w r=>if F.testBit w=true then r else r+10
theorem sj (l:List Int) (F:Nat):(raise l F).length=l.length:=List.length_mapIdx
theorem raise_at (l:List Int) (F:Nat) {i:Nat} (h:i<l.length):(raise l F)[i]'(by rw[sj];exact h)=if F.testBit i=true then l[i]else l[i]+10:=by
 unfold raise
 rw[List.getElem_mapIdx]
theorem xJ {l:List Int} {F:Nat} {y:Int} (h:y∈raise l F):∃x∈l,y=x∨y=x+10:=by
 obtain⟨i,hi,rfl⟩:=List.mem_iff_getElem.1 h
 rw[sj]at hi
 rw[raise_at l F hi]
 refine⟨l[i],List.getElem_mem hi,?_⟩
 split
 ·exact Or.inl rfl
 ·exact Or.inr rfl
def zE (l:List Int) (way:Int) (s:Nat):List Int:=si (raise l (if way=0 then qH l s else s))
theorem AY {l:List Int} (hn:l.length≤8) (s:Nat):qH l s<256:=Nat.lt_of_lt_of_le (ye _ _) (Nat.pow_le_pow_right (n:=2) (by decide) hn)
theorem BB {t:Int} (ht:1≤t∧t≤3) {l:List Int} (hl:l.length=wn t) (hx:∀x∈l,0≤x∧x≤9) {s:Nat} (hs:s<2^wn t) (way:Int):Ev (fun k=>kt.f k t l way (s:Int)) (zE l way s):=by
 have h8:=(wu t).1
 have hs8:s<256:=Nat.lt_of_lt_of_le hs (Nat.pow_le_pow_right (n:=2) (by decide) h8)
 have go:∀F:Nat,F<256→Ev (fun k=>kt.j0 k l (F:Int)) (si (raise l F)):=by
  intro F hF
  have JB:=Co (l:=raise l F) (by rw[sj];omega) (fun y hy=>by obtain⟨x,h1,h2⟩:=xJ hy;have:=hx x h1;omega)
  have key:∀i,i≤l.length→Ev (fun k=>kt.l0 k (F:Int) ((raise l F).take i) l (l.length:Int) (i:Int)) (si (raise l F)):=by
   apply down
   ·refine Ev.step (fun k=>rfl) (jO (by omega) ?_)
    rw[List.take_of_length_le (by rw[sj];omega)]
    exact Ev.bind JB (Ev.now _)
   ·intro i hi ih
    have hi2:i<(raise l F).length:=by rw[sj];exact hi
    have hlen:((raise l F).take i).length<17592186044416:=by rw[List.length_take];omega
    have hxi:=hx _ (List.getElem_mem hi)
    rw[List.take_succ_eq_append_getElem hi2,raise_at l F hi]at ih
    refine Ev.step (fun k=>rfl) (jM (by omega) (jM (by omega) (jM (by omega) ?_)))
    rw[Ah F i (by omega) (by omega),w1 hi (by omega),ss hi]
    by_cases hb:F.testBit i=true
    ·rw[if_pos hb]at ih
     exact jO (fun k=>by rw[Cm.1 k]at hb;cases hb) (jM hlen ih)
    ·rw[if_neg hb]at ih
     refine jM (Cm.2 (by simpa using hb)) (jM hlen ?_)
     rw[xn (by omega) (by omega)]
     exact ih
  exact Ev.step (f:=fun k=>kt.l0 k (F:Int) (([]:List Int)) l (l.length:Int) 0) (fun k=>rfl) (key 0 (Nat.zero_le _))
 unfold kt.f zE
 by_cases hw:way=0
 ·rw[if_pos hw]
  exact jM hw (Ev.bind (wY ht hl hs) (go _ (AY (by omega) s)))
 ·rw[if_neg hw]
  exact jO hw (go s hs8)
/-! ### the reference's tidying -/
theorem CS {l:List Int} (hn:l.length≤8) (h0:∀x∈l,0≤x):Ev (fun k=>ky.f k l) (si l):=by
 unfold ky.f
 have three_:∀(out:List Int) (w:Nat) (seen:List Int) (v:Nat) (hv:v<l.length) (res:List Int),seen.length≤100→∀j,j≤seen.length→∀b:Bool,
   Ev (fun k=>ky.l1 k l out (w:Int) (if b=true∨l[v]∈seen.drop j then seen else seen++ [l[v]]) ((v+1:Nat):Int)) res→Ev (fun k=>ky.l2 k l out (w:Int) seen (v:Int) b (j:Int)) res:=by
  intro out w seen v hv res hs
  apply down (P:=fun j=>∀b:Bool,Ev (fun k=>ky.l1 k l out (w:Int) (if b=true∨l[v]∈seen.drop j then seen else seen++ [l[v]]) ((v+1:Nat):Int)) res→Ev (fun k=>ky.l2 k l out (w:Int) seen (v:Int) b (j:Int)) res)
  ·intro b hb
   refine Ev.step (fun k=>rfl) (jO (by omega) ?_)
   rw[List.drop_length]at hb
   cases b with
   |true=>
    refine jM rfl ?_
    rw[w1 hv (by omega)]
    rw[if_pos (Or.inl rfl)]at hb
    exact hb
   |false=>
    refine jO (by decide) (jM (by omega) (jM (by omega) (jM (by omega) ?_)))
    rw[w1 hv (by omega),ss hv]
    rw[if_neg (by simp)]at hb
    exact hb
  ·intro j hj ih b hb
   rw[List.drop_eq_getElem_cons hj]at hb
   refine Ev.step (fun k=>rfl) (jM (by omega) ?_)
   cases b with
   |true=>
    refine jM rfl ?_
    rw[w1 hj (by omega)]
    refine ih true ?_
    rw[if_pos (Or.inl rfl)]at hb⊢
    exact hb
   |false=>
    refine jO (by decide) (jM (by omega) (jM (by omega) (jM (by omega) ?_)))
    rw[w1 hj (by omega),ss hj,ss hv]
    refine ih _ ?_
    have:((seen[j]==l[v])=true∨l[v]∈seen.drop (j+1))↔(false=true∨l[v]∈seen[j]::seen.drop (j+1)):=by
     rw[List.mem_cons,beq_iff_eq]
     constructor
     ·rintro(h|h)
      ·exact Or.inr (Or.inl h.symm)
      ·exact Or.inr (Or.inr h)
     ·rintro(h|h|h)
      ·cases h
      ·exact Or.inl h.symm
      ·exact Or.inr h
    simp only[this]
    exact hb
 have two:∀(out:List Int) (w:Nat) (hw:w<l.length) (res:List Int),out.length≤100→Ev (fun k=>ky.l0 k l (out++ [(yB l l[w]:Int)]) ((w+1:Nat):Int)) res→
   ∀v,v≤l.length→∀seen:List Int,seen.Nodup→seen.length≤v→(∀y,y∈seen↔y∈l.take v∧y<l[w])→Ev (fun k=>ky.l1 k l out (w:Int) seen (v:Int)) res:=by
  intro out w hw res ho hres
  have hw0:=h0 _ (List.getElem_mem hw)
  apply down
  ·intro seen hd _ hm
   refine Ev.step (fun k=>rfl) (jO (by omega) (jM (by omega) ?_))
   rw[w1 hw (by omega)]
   have e:seen.length=yB l l[w]:=xF _ seen hd (fun y=>by
    rw[hm y,List.take_length]
    constructor
    ·rintro⟨a,b⟩;exact⟨a,h0 y a,by omega⟩
    ·rintro⟨a,b,c⟩;exact⟨a,by omega⟩)
   rw[e]
   exact hres
  ·intro v hv ih seen hd hsl hm
   have hv0:=h0 _ (List.getElem_mem hv)
   refine Ev.step (fun k=>rfl) (jM (by omega) (jM (by omega) (jM (by omega) (jM (by omega) ?_))))
   rw[ss hv,ss hw]
   refine three_ out w seen v hv res (by omega) 0 (Nat.zero_le _) _ ?_
   rw[List.drop_zero]
   have hmem:∀y,y∈l.take (v+1)↔y∈l.take v∨y=l[v]:=fun y=>by rw[List.take_succ_eq_append_getElem hv,List.mem_append,List.mem_singleton]
   by_cases hc:decide (l[v]≥l[w])=true∨l[v]∈seen
   ·rw[if_pos hc]
    refine ih seen hd (by omega) (fun y=>?_)
    rw[hm y,hmem y]
    constructor
    ·rintro⟨a,b⟩;exact⟨Or.inl a,b⟩
    ·rintro⟨a|a,b⟩
     ·exact⟨a,b⟩
     ·rcases hc with hc|hc
      ·have:=of_decide_eq_true hc;omega
      ·have:=(hm _).1 hc;rw[a];exact⟨this.1,by omega⟩
   ·rw[if_neg hc]
    have h1:¬l[v]≥l[w]:=fun k=>hc (Or.inl (decide_eq_true k))
    have h2:l[v]∉seen:=fun k=>hc (Or.inr k)
    refine ih (seen++ [l[v]]) ?_ (by rw[List.length_append,List.length_singleton];omega) (fun y=>?_)
    ·rw[List.nodup_append]
     refine⟨hd,by simp,fun a ha b hb=>?_⟩
     rw[List.mem_singleton.1 hb]
     intro e
     exact h2 (e▸ha)
    ·rw[List.mem_append,List.mem_singleton,hm y,hmem y]
     constructor
     ·rintro(⟨a,b⟩|a)
      ·exact⟨Or.inl a,b⟩
      ·exact⟨Or.inr a,by omega⟩
     ·rintro⟨a|a,b⟩
      ·exact Or.inl ⟨a,b⟩
      ·exact Or.inr a
 have one:∀w,w≤l.length→Ev (fun k=>ky.l0 k l ((l.take w).map fun x=>(yB l x:Int)) (w:Int)) (si l):=by
  apply down
  ·refine Ev.step (fun k=>rfl) (jO (by omega) (qq (Ev.now _) ?_))
   rw[List.take_length]
   rfl
  ·intro w hw ih
   rw[List.take_succ_eq_append_getElem hw,List.map_append]at ih
   exact Ev.step (fun k=>rfl) (jM (by omega) (two _ w hw _ (by rw[List.length_map,List.length_take];omega) ih 0 (Nat.zero_le _) [] List.nodup_nil (Nat.le_refl _) (fun y=>by simp)))
 exact one 0 (Nat.zero_le _)
theorem zN {l:List Int} (hn:l.length≤8) (hx:∀x∈l,0≤x∧x≤9) (F:Nat):Ev (fun k=>oz.f k l (F:Int)) (si (raise l F)):=by
 unfold oz.f
 have JB:=CS (l:=raise l F) (by rw[sj];omega) (fun y hy=>by obtain⟨x,h1,h2⟩:=xJ hy;have:=hx x h1;omega)
 have key:∀i,i≤l.length→Ev (fun k=>oz.l0 k l (F:Int) ((raise l F).take i) (i:Int)) (si (raise l F)):=by
  apply down
  ·refine Ev.step (fun k=>rfl) (jO (by omega) ?_)
   rw[List.take_of_length_le (by rw[sj];omega)]
   exact Ev.bind JB (Ev.now _)
  ·intro i hi ih
   have hi2:i<(raise l F).length:=by rw[sj];exact hi
   have hlen:((raise l F).take i).length<17592186044416:=by rw[List.length_take];omega
   have hxi:=hx _ (List.getElem_mem hi)
   rw[List.take_succ_eq_append_getElem hi2,raise_at l F hi]at ih
   refine Ev.step (fun k=>rfl) (jM (by omega) (jM (by omega) (kg (wX F i (by omega)) (jM hlen ?_))))
   rw[w1 hi (by omega),ss hi,yn]
   by_cases hb:F.testBit i=true
   ·rw[if_pos hb]at ih⊢
    rw[show wrap64 (l[i]+wrap64 (wrap64 (1 - ((1:Nat):Int))*10))=l[i] from by rw[xn (n:=1 - ((1:Nat):Int)) (by omega) (by omega),xn (n:=(1 - ((1:Nat):Int))*10) (by omega) (by omega),xn (by omega) (by omega)];omega]
    exact ih
   ·rw[if_neg hb]at ih⊢
    rw[show wrap64 (l[i]+wrap64 (wrap64 (1 - ((0:Nat):Int))*10))=l[i]+10 from by rw[xn (n:=1 - ((0:Nat):Int)) (by omega) (by omega),xn (n:=(1 - ((0:Nat):Int))*10) (by omega) (by omega),xn (by omega) (by omega)];omega]
    exact ih
 exact key 0 (Nat.zero_le _)
def zF (c:Nat):Nat→Nat
 |0=>0
 |w+1=>zF c w+2^w*bi w c
theorem Cr (c:Nat):∀w,zF c w<2^w
 |0=>Nat.one_pos
 |w+1=>by
  have h:=Cr c w
  have hb:bi w c≤1:=FA w c
  show zF c w+2^w*bi w c<_
  rw[Nat.pow_succ]
  have:2^w*bi w c≤2^w*1:=Nat.mul_le_mul_left _ hb
  omega
theorem xr {t:Int} (h:1≤t∧t≤3):all t+1=2^wn t:=by rcases three h with rfl|rfl|rfl<;>decide
theorem BC (t:Int):2^wn t≤256:=Nat.pow_le_pow_right (n:=2) (by decide) (wu t).1
def DY (t:Int) (b:Int) (x y:Nat):Option Nat:=if b=38 then some (x&&& y)else if b=124 then some (x|||y)else if b=62 then some ((all t^^^x)|||y)else none
def yY (t:Int) (s:ByteArray):Nat→Nat→Option (Nat×Nat)
 |0,_=>none
 |n+1,i=>if i<s.size then
   (if bt s i=49 then some (all t,i+1)else if bt s i=48 then some (0,i+1)
   else if 97≤bt s i∧bt s i - 97<t then some (zF (bt s i - 97).toNat (wn t),i+1)
   else if bt s i=33 then(yY t s n (i+1)).map fun x=>(all t^^^x.1,x.2)
   else if bt s i=40 then(yY t s n (i+1)).bind fun x=>if x.2<s.size then(yY t s n (x.2+1)).bind fun y=>if y.2<s.size∧bt s y.2=41 then(DY t (bt s x.2) x.1 y.1).map fun z=>(z,y.2+1)else none else none
   else none)else none
theorem zi {t:Int} (h:1≤t∧t≤3) {a:Nat} (ha:a<2^wn t):all t^^^a<2^wn t:=Nat.xor_lt_two_pow (by have:=xr h;omega) ha
theorem Gg {t:Int} (h:1≤t∧t≤3) {b:Int} {x y z:Nat} (hx:x<2^wn t) (hy:y<2^wn t) (hz:DY t b x y=some z):z<2^wn t:=by
 unfold DY at hz
 split at hz
 ·cases hz;exact Nat.lt_of_le_of_lt Nat.and_le_left hx
 split at hz
 ·cases hz;exact Nat.or_lt_two_pow hx hy
 split at hz
 ·cases hz;exact Nat.or_lt_two_pow (zi h hx) hy
 ·cases hz
theorem wA {t:Int} (ht:1≤t∧t≤3) (s:ByteArray):∀(n i:Nat) (x:Nat×Nat),yY t s n i=some x→x.1<2^wn t∧i<x.2∧x.2≤s.size:=by
 intro n
 induction n with
 |zero=>intro i x h;cases h
 |succ n ih=>
  intro i x h
  unfold yY at h
  by_cases hlt:i<s.size
  ·rw[if_pos hlt]at h
   split at h
   ·cases h;exact⟨by have:=xr ht;show all t<_;omega,by show i<i+1;omega,by show i+1≤_;omega⟩
   split at h
   ·cases h;exact⟨Nat.two_pow_pos _,by show i<i+1;omega,by show i+1≤_;omega⟩
   split at h
   ·cases h;exact⟨Cr _ _,by show i<i+1;omega,by show i+1≤_;omega⟩
   split at h
   ·obtain⟨y,hy,rfl⟩:=Option.map_eq_some_iff.1 h
    obtain⟨a,b,c⟩:=ih _ _ hy
    exact⟨zi ht a,by show i<y.2;omega,c⟩
   split at h
   ·obtain⟨y,hy,h⟩:=Option.bind_eq_some_iff.1 h
    obtain⟨a,b,c⟩:=ih _ _ hy
    split at h
    ·obtain⟨z,hz,h⟩:=Option.bind_eq_some_iff.1 h
     obtain⟨a',b',c'⟩:=ih _ _ hz
     split at h
     ·rename_i hc
      obtain⟨v,hv,rfl⟩:=Option.map_eq_some_iff.1 h
      exact⟨Gg ht a a' hv,by show i<z.2+1;omega,by show z.2+1≤_;omega⟩
     ·cases h
    ·cases h
   ·cases h
  ·rw[if_neg hlt]at h
   cases h
theorem Ak {t:Int} (ht:1≤t∧t≤3) {a:Nat} (ha:a<2^wn t):all t - a=all t^^^a:=by
 rcases three ht with rfl|rfl|rfl
 ·exact(by decide:∀a:Fin 4,3 - a.val=3^^^a.val) ⟨a,ha⟩
 ·exact(by decide:∀a:Fin 16,15 - a.val=15^^^a.val) ⟨a,ha⟩
 ·exact(by decide+kernel:∀a:Fin 256,255 - a.val=255^^^a.val) ⟨a,ha⟩
theorem BD {a b:Nat} (ha:a<256) (hb:b<256):a+b - (a&&& b)=a|||b:=
 (by decide+kernel:∀a b:Fin 256,a.val+b.val - (a.val&&& b.val)=a.val|||b.val) ⟨a,ha⟩ ⟨b,hb⟩
theorem xK {a b:Nat} (ha:a<256) (hb:b<256):Ev (fun k=>qo.f k (a:Int) (b:Int)) ((a|||b:Nat):Int):=by
 refine Ev.bind (xH (b:=b) ha) (qq (Ev.now _) ?_)
 have h1:a&&& b≤a:=Nat.and_le_left
 rw[←BD ha hb,xn (n:=(a:Int)+b) (by omega) (by omega),xn (by omega) (by omega)]
 omega
def Gh:Option (Nat×Nat)→Int×Int
 |some x=>((x.1:Int),(x.2:Int))
 |none=>(-1, -1)
theorem CT:∀c:Fin 3,∀w:Fin 8,wrap64 ((zF c.val w.val:Nat)+(shl .i64 (Int.tmod (shr .i64 (w.val:Int) (((97+(c.val:Int)) - 97)%256)) 2) (w.val:Int)))=((zF c.val (w.val+1):Nat):Int):=by decide+kernel
theorem Il {z i m n:Nat} (h:z - i≤n+1) (h1:i<m):z - (m+1)≤n:=by omega
theorem Kj {z:Nat} (h:z≤1000000000):z≤9223372036854775807:=by omega
set_option maxHeartbeats 2000000 in
theorem CU {t:Int} (ht:1≤t∧t≤3) (s:ByteArray) (hs:s.size≤1000000000):∀(n:Nat) (i:Nat),s.size - i≤n→Ev (fun k=>jR.f k t s (i:Int)) (Gh (yY t s n i)):=by
 intro n
 induction n with
 |zero=>
  intro i hi
  exact Ev.step (fun k=>rfl) (jM (by omega) (Ev.now _))
 |succ n ih=>
  intro i hi
  unfold yY
  by_cases hge:(i:Int)≥(s.size:Int)
  ·rw[if_neg (by omega)]
   exact Ev.step (fun k=>rfl) (jM hge (Ev.now _))
  have hlt:i<s.size:=by omega
  obtain⟨al,IP⟩:∃al:Int,al=((all t:Nat):Int):=⟨_,rfl⟩
  have hal:qw.f t=some al:=by rw[IP];exact xw ht
  have e1:wrap64 ((i:Int)+1)=((i+1:Nat):Int):=w1 hlt (by omega)
  rw[if_pos hlt]
  by_cases Cs:bt s i=49
  ·rw[if_pos Cs]
   refine Ev.step (fun k=>rfl) (jO hge (kg (hal) (jM (by omega) (jM (by omega) (jM Cs ?_)))))
   rw[e1,IP]
   exact Ev.now _
  rw[if_neg Cs]
  by_cases h48:bt s i=48
  ·rw[if_pos h48]
   refine Ev.step (fun k=>rfl) (jO hge (kg (hal) (jM (by omega) (jM (by omega) (jO Cs (jM h48 ?_))))))
   rw[e1]
   exact Ev.now _
  rw[if_neg h48]
  have hb:=bt_range s i
  by_cases hth:97≤bt s i∧bt s i - 97<t
  ·rw[if_pos hth]
   refine Ev.step (fun k=>rfl) (jO hge (kg (hal) (jM (by omega) (jM (by omega) (jO Cs (jO h48 (jM (by omega) ?_)))))))
   rw[decide_eq_true (by omega)]
   obtain⟨c,hc⟩:∃c:Nat,bt s i=97+(c:Int):=⟨(bt s i - 97).toNat,by omega⟩
   have hc3:c<3:=by omega
   rw[show(bt s i - 97).toNat=c from by omega]
   have loop:∀w,w≤wn t→Ev (fun k=>jR.l0 k t s (i:Int) ((zF c w:Nat):Int) (w:Int)) (((zF c (wn t):Nat):Int),((i+1:Nat):Int)):=by
    have hw:=wu t
    apply down
    ·refine Ev.step (fun k=>rfl) (jM (by omega) (jO (by rw[xW ht];omega) ?_))
     rw[e1]
     exact Ev.now _
    ·intro w hw' ih2
     refine Ev.step (fun k=>rfl) (jM (by omega) (jM (by rw[xW ht];omega) (jM (by omega) (jM (by omega) (jM (by omega) ?_)))))
     rw[w1 hw' (by omega),hc,CT ⟨c,hc3⟩ ⟨w,by omega⟩]
     exact ih2
   exact Ev.step (f:=fun k=>jR.l0 k t s (i:Int) 0 0) (fun k=>rfl) (loop 0 (Nat.zero_le _))
  rw[if_neg hth]
  have st:∀{g:Nat→Option (Int×Int)} {r} {al:Int},(∀k,g k=(if 0≤(i:Int)then(if(i:Int)<(s.size:Int)then(if(bt s i)=33 then((jR.f k t s (wrap64 ((i:Int)+1))).bind fun DZ=>(if DZ.2<0 then(some ((-1),(-1)))else(some (wrap64 (al - DZ.1),DZ.2))))else(if(bt s i)=40 then((jR.f k t s (wrap64 ((i:Int)+1))).bind fun zO=>(if zO.2<0 then(jR.j2 k t s al zO.1 zO.2 true)else(jR.j2 k t s al zO.1 zO.2 (decide (zO.2≥(s.size:Int))))))else(some ((-1),(-1)))))else(none))else(none)))→Ev g r→Ev (fun k=>jR.j0 k t s (i:Int) al false) r:=fun hg h=>Ev.step (fun k=>(hg k).symm) h
  have go:∀{r},Ev (fun k=>jR.j0 k t s (i:Int) al false) r→Ev (fun k=>jR.f k t s (i:Int)) r:=by
   intro r h
   refine Ev.step (fun k=>rfl) (jO hge (kg (hal) (jM (by omega) (jM (by omega) (jO Cs (jO h48 ?_))))))
   by_cases h97:bt s i≥97
   ·refine jM h97 ?_
    rw[decide_eq_false (by omega)]
    exact h
   ·exact jO h97 h
  refine go ?_
  have h1:=ih (i+1) (by omega)
  by_cases Ea:bt s i=33
  ·rw[if_pos Ea]
   refine st (fun k=>rfl) (jM (by omega) (jM (by omega) (jM Ea ?_)))
   rw[e1]
   refine Ev.bind h1 ?_
   cases hr:yY t s n (i+1)with
   |none=>exact jM (by show(-1:Int)<0;omega) (Ev.now _)
   |some x=>
    obtain⟨a,b,c⟩:=wA ht s _ _ _ hr
    refine jO (by show¬((x.2:Int)<0);clear a;omega) (qq (Ev.now _) ?_)
    show(wrap64 (al - (x.1:Int)),(x.2:Int))=(((all t^^^x.1:Nat):Int),(x.2:Int))
    have hle:x.1≤all t:=Nat.le_of_lt_succ (Nat.lt_of_lt_of_eq a (xr ht).symm)
    have Kk:=xv t
    rw[IP,←Ak ht a,xn (by clear a;omega) (by clear a;omega)]
    clear a
    congr 1
    omega
  rw[if_neg Ea]
  by_cases ET:bt s i=40
  ·rw[if_pos ET]
   refine st (fun k=>rfl) (jM (Int.natCast_nonneg i) (jM (Int.ofNat_lt.2 hlt) (jO Ea (jM ET ?_))))
   rw[e1]
   refine Ev.bind h1 ?_
   have Im:∀a e:Int,Ev (fun k=>jR.j2 k t s al a e true) (-1, -1):=fun a e=>Ev.step (f:=fun _=>some (-1, -1)) (fun k=>rfl) (Ev.now _)
   have Gi:∀a e a2 e2:Int,Ev (fun k=>jR.j3 k s al a e a2 e2 true) (-1, -1):=fun a e a2 e2=>Ev.step (f:=fun _=>some (-1, -1)) (fun k=>rfl) (Ev.now _)
   cases hr:yY t s n (i+1)with
   |none=>exact jM (by decide) (Im _ _)
   |some x=>
    obtain⟨ra,rb,rc⟩:=wA ht s _ _ _ hr
    obtain⟨a1,m⟩:=x
    simp only at ra rb rc
    have GX:a1<256:=Nat.lt_of_lt_of_le ra (BC t)
    replace ra:jX (a1<2^wn t):=⟨ra⟩
    refine jO (Int.not_lt.2 (Int.natCast_nonneg m)) ?_
    show Ev (fun k=>jR.j2 k t s al (a1:Int) (m:Int) (decide ((m:Int)≥(s.size:Int)))) (Gh (if m<s.size then(yY t s n (m+1)).bind fun y=>if y.2<s.size∧bt s y.2=41 then(DY t (bt s m) a1 y.1).map fun z=>(z,y.2+1)else none else none))
    by_cases hm:m<s.size
    ·have hm1:¬((m:Int)≥(s.size:Int)):=Int.not_le.2 (Int.ofNat_lt.2 hm)
     rw[if_pos hm,decide_eq_false hm1]
     have em:wrap64 ((m:Int)+1)=((m+1:Nat):Int):=w1 hm (Kj hs)
     have h2:=ih (m+1) (Il hi (Nat.lt_of_succ_lt rb))
     refine Ev.step (f:=fun k=>(jR.f k t s (wrap64 ((m:Int)+1))).bind fun wN=>(if wN.2<0 then(jR.j3 k s al (a1:Int) (m:Int) wN.1 wN.2 true)else(if wN.2≥(s.size:Int)then(jR.j3 k s al (a1:Int) (m:Int) wN.1 wN.2 true)else(if 0≤wN.2 then(if wN.2<(s.size:Int)then(jR.j3 k s al (a1:Int) (m:Int) wN.1 wN.2 ((bt s wN.2) !=41))else(none))else(none))))) (fun k=>rfl) ?_
     rw[em]
     refine Ev.bind h2 ?_
     cases hr2:yY t s n (m+1)with
     |none=>exact jM (by decide) (Gi _ _ _ _)
     |some y=>
      obtain⟨sa,sb,sc⟩:=wA ht s _ _ _ hr2
      obtain⟨a2,e⟩:=y
      simp only at sa sb sc
      have GY:a2<256:=Nat.lt_of_lt_of_le sa (BC t)
      clear sa
      refine jO (Int.not_lt.2 (Int.natCast_nonneg e)) ?_
      show Ev (fun k=>if(e:Int)≥(s.size:Int)then(jR.j3 k s al (a1:Int) (m:Int) (a2:Int) (e:Int) true)else(if 0≤(e:Int)then(if(e:Int)<(s.size:Int)then(jR.j3 k s al (a1:Int) (m:Int) (a2:Int) (e:Int) ((bt s e) !=41))else(none))else(none))) (Gh (if e<s.size∧bt s e=41 then(DY t (bt s m) a1 a2).map fun z=>(z,e+1)else none))
      by_cases he:e<s.size
      ·refine jO (Int.not_le.2 (Int.ofNat_lt.2 he)) (jM (Int.natCast_nonneg e) (jM (Int.ofNat_lt.2 he) ?_))
       by_cases Eb:bt s e=41
       ·rw[if_pos ⟨he,Eb⟩,show(bt s e !=41)=false from by rw[Eb];rfl]
        have ee:wrap64 ((e:Int)+1)=((e+1:Nat):Int):=w1 he (Kj hs)
        have KF:∀{g:Nat→Option (Int×Int)} {r},(∀k,g k=(if 0≤(m:Int)then(if(m:Int)<(s.size:Int)then(if(bt s m)=38 then((pC.f k (a1:Int) (a2:Int)).bind fun JC=>(some (JC,wrap64 ((e:Int)+1))))else(if(bt s m)=124 then((qo.f k (a1:Int) (a2:Int)).bind fun JD=>(some (JD,wrap64 ((e:Int)+1))))else(if(bt s m)=62 then((qo.f k (wrap64 (al - (a1:Int))) (a2:Int)).bind fun Gj=>(some (Gj,wrap64 ((e:Int)+1))))else(some ((-1),(-1))))))else(none))else(none)))→Ev g r→Ev (fun k=>jR.j3 k s al (a1:Int) (m:Int) (a2:Int) (e:Int) false) r:=fun hg h=>Ev.step (fun k=>(hg k).symm) h
        refine KF (fun k=>rfl) (jM (Int.natCast_nonneg m) (jM (Int.ofNat_lt.2 hm) ?_))
        rw[ee]
        unfold DY
        by_cases q1:bt s m=38
        ·rw[if_pos q1]
         exact jM q1 (Ev.bind (xH GX) (Ev.now _))
        rw[if_neg q1]
        refine jO q1 ?_
        by_cases q2:bt s m=124
        ·rw[if_pos q2]
         exact jM q2 (Ev.bind (xK GX GY) (Ev.now _))
        rw[if_neg q2]
        refine jO q2 ?_
        by_cases q3:bt s m=62
        ·rw[if_pos q3]
         refine jM q3 ?_
         have hx:=zi ht ra.out
         have hle:a1≤all t:=Nat.le_of_lt_succ (Nat.lt_of_lt_of_eq ra.out (xr ht).symm)
         have Kk:=xv t
         have ew:wrap64 (al - (a1:Int))=((all t^^^a1:Nat):Int):=by rw[IP,←Ak ht ra.out,xn (by clear hx;omega) (by clear hx;omega)];clear hx;omega
         rw[ew]
         exact Ev.bind (xK (Nat.lt_of_lt_of_le hx (BC t)) GY) (Ev.now _)
        rw[if_neg q3]
        exact jO q3 (Ev.now _)
       ·rw[if_neg (fun k=>Eb k.2),show(bt s e !=41)=true from bne_iff_ne.2 Eb]
        exact Gi _ _ _ _
      ·rw[if_neg (fun k=>he k.1)]
       exact jM (Int.ofNat_le.2 (Nat.le_of_not_lt he)) (Gi _ _ _ _)
    ·have hm2:(m:Int)≥(s.size:Int):=Int.ofNat_le.2 (Nat.le_of_not_lt hm)
     rw[if_neg hm,decide_eq_true hm2]
     exact Im _ _
  rw[if_neg ET]
  exact st (fun k=>rfl) (jM (Int.natCast_nonneg i) (jM (Int.ofNat_lt.2 hlt) (jO Ea (jO ET (Ev.now _)))))
def holds (t:Int) (s:ByteArray):Int×Bool:=if(1≤t∧t≤3)∧s.size≤120 then(match yY t s s.size 0 with|some x=>if x.2=s.size then((x.1:Int),true)else(-1,false)|none=>(-1,false))else(-1,false)
theorem wK {t:Int} {s:ByteArray} {a:Int} (h:holds t s=(a,true)):(1≤t∧t≤3)∧0≤a∧a≤all t:=by
 unfold holds at h
 split at h
 ·rename_i hc
  split at h
  ·rename_i x hx
   split at h
   ·obtain⟨ra,_,_⟩:=wA hc.1 s _ _ _ hx
    have:=xr hc.1
    have:(x.1:Int)=a:=congrArg Prod.fst h
    exact⟨hc.1,by omega,by omega⟩
   ·cases h
  ·cases h
 ·cases h
theorem vx (t:Int) (s:ByteArray):Ev (fun k=>kQ.f k t s) (holds t s):=by
 unfold kQ.f holds
 have bad:Ev (fun k=>kQ.j0 k t s true) (-1,false):=Ev.step (f:=fun _=>some (-1,false)) (fun k=>rfl) (Ev.now _)
 by_cases ht:1≤t∧t≤3
 ·by_cases hs:(s.size:Int)>120
  ·rw[if_neg (by omega)]
   refine kg (wE _ _ _) (jM (by simpa using ht) ?_)
   rw[decide_eq_true hs]
   exact bad
  ·rw[if_pos ⟨ht,by omega⟩]
   have h:=CU ht s (by omega) s.size 0 (by omega)
   refine kg (wE _ _ _) (jM (by simpa using ht) ?_)
   rw[decide_eq_false hs]
   refine Ev.step (f:=fun k=>(jR.f k t s 0).bind fun FB=>(if FB.2=(s.size:Int)then(some (FB.1,true))else(some ((-1),false)))) (fun k=>rfl) (Ev.bind h ?_)
   cases hr:yY t s s.size 0 with
   |none=>exact jO (by show¬((-1:Int)=_);omega) (Ev.now _)
   |some x=>
    show Ev (fun k=>if(x.2:Int)=(s.size:Int)then(some ((x.1:Int),true))else(some ((-1),false))) (if x.2=s.size then((x.1:Int),true)else(-1,false))
    by_cases he:x.2=s.size
    ·rw[if_pos he]
     exact jM (by omega) (Ev.now _)
    ·rw[if_neg he]
     exact jO (by omega) (Ev.now _)
 ·rw[if_neg (fun k=>ht k.1)]
  exact kg (wE _ _ _) (jO (by simpa using ht) bad)
theorem yZ {t:Int} {s:ByteArray} {i:Nat} (hs:s.size≤1000000000) (h:i<s.size):kR.f t s (i:Int)=some (bt s i,t,s,((i+1:Nat):Int)):=by
 unfold kR.f
 have e1:wrap64 ((i:Int)+1)=((i+1:Nat):Int):=w1 h (by omega)
 have e2:wrap64 (((i+1:Nat):Int) - 1)=(i:Int):=by rw[xn (by omega) (by omega)];omega
 rw[if_neg (by omega),e1,e2,if_pos (by omega),if_pos (by omega)]
theorem zj {t:Int} {s:ByteArray}:kR.f t s (s.size:Int)=some (0,t,s,(s.size:Int)):=by
 unfold kR.f
 rw[if_pos rfl]
theorem CV:∀t:Fin 3,∀c:Fin 3,ow.f (jN.p (c.val:Int)) ((t.val:Int)+1)=some ((zF c.val (wn ((t.val:Int)+1)):Nat):Int):=by decide+kernel
theorem zk {t:Int} (ht:1≤t∧t≤3) (c:Nat) (hc:c<3):ow.f (jN.p (c:Int)) t=some ((zF c (wn t):Nat):Int):=by
 have:=CV ⟨(t - 1).toNat,by omega⟩ ⟨c,hc⟩
 rw[show(((t - 1).toNat:Nat):Int)+1=t from by omega]at this
 exact this
theorem JE {z i n:Nat} (h:z - i≤n+1):z - (i+1)≤n:=by omega
theorem small {a:Nat} (h:a<256):a<2^62:=Nat.lt_trans h (by decide)
/-- What the program's reader gives at a place: the set and the place behind, or no sentence. -/
def IQ (o:Option (Nat×Nat)) (_s:ByteArray) (x:Int) (b:Bool) (p:Int):Prop:=match o with
 |some y=>x=(y.1:Int)∧b=true∧p=(y.2:Int)
 |none=>b=false
set_option maxHeartbeats 2000000 in
theorem Ec {t:Int} (ht:1≤t∧t≤3) (s:ByteArray) (hs:s.size≤1000000000):∀(n:Nat) (i:Nat),i≤s.size→s.size - i≤n→∃x b p,Ev (fun k=>jN.f k t s (i:Int)) (x,b,t,s,p)∧IQ (yY t s n i) s x b p:=by
 have last:∀(i:Nat),i=s.size→Ev (fun k=>jN.f k t s (i:Int)) (0,false,t,s,(i:Int)):=by
  rintro i rfl
  exact Ev.step (fun k=>rfl) (kg (wk ht) (kg zj (jO (show¬((0:Int)=48) by decide) (jO (show¬((0:Int)=49) by decide) (jO (show¬((0:Int)=97) by decide) (jO (show¬((0:Int)=98) by decide) (jO (show¬((0:Int)=99) by decide) (jO (show¬((0:Int)=33) by decide) (jO (show¬((0:Int)=40) by decide) (Ev.now _))))))))))
 intro n
 induction n with
 |zero=>intro i hi hn;exact⟨0,false,_,last i (by omega),rfl⟩
 |succ n ih=>
  intro i hi hn
  by_cases hge:i=s.size
  ·refine⟨0,false,_,last i hge,?_⟩
   unfold yY
   rw[if_neg (by omega)]
   rfl
  have hlt:i<s.size:=by omega
  unfold yY
  rw[if_pos hlt]
  have st:∀{r},Ev (fun k=>(fun(al:Int) (b:Int×Int×ByteArray×Int)=>
   if b.1=48 then some (0,true,b.2.1,b.2.2.1,b.2.2.2)
   else if b.1=49 then some (al,true,b.2.1,b.2.2.1,b.2.2.2)
   else if b.1=97 then(ow.f (jN.p 0) b.2.1).bind fun x=>some (x,decide (0<b.2.1),b.2.1,b.2.2.1,b.2.2.2)
   else if b.1=98 then(ow.f (jN.p 1) b.2.1).bind fun x=>some (x,decide (1<b.2.1),b.2.1,b.2.2.1,b.2.2.2)
   else if b.1=99 then(ow.f (jN.p 2) b.2.1).bind fun x=>some (x,decide (2<b.2.1),b.2.1,b.2.2.1,b.2.2.2)
   else if b.1=33 then(jN.f k b.2.1 b.2.2.1 b.2.2.2).bind fun c=>some (Go.bits .xor .i64 al c.1,c.2.1,c.2.2.1,c.2.2.2.1,c.2.2.2.2)
   else if b.1=40 then(jN.f k b.2.1 b.2.2.1 b.2.2.2).bind fun c=>
    if c.2.1=true then(kR.f c.2.2.1 c.2.2.2.1 c.2.2.2.2).bind fun sg=>(jN.f k sg.2.1 sg.2.2.1 sg.2.2.2).bind fun d=>
     if d.2.1=true then(kR.f d.2.2.1 d.2.2.2.1 d.2.2.2.2).bind fun e=>
      if e.1=41 then
       (if sg.1=38 then some (Go.bits .and .i64 c.1 d.1,true,e.2.1,e.2.2.1,e.2.2.2)
       else if sg.1=124 then some (Go.bits .or .i64 c.1 d.1,true,e.2.1,e.2.2.1,e.2.2.2)
       else if sg.1=62 then some (Go.bits .or .i64 (Go.bits .xor .i64 al c.1) d.1,true,e.2.1,e.2.2.1,e.2.2.2)
       else some (0,false,e.2.1,e.2.2.1,e.2.2.2))
      else some (0,false,e.2.1,e.2.2.1,e.2.2.2)
     else some (0,false,d.2.2.1,d.2.2.2.1,d.2.2.2.2)
    else some (0,false,c.2.2.1,c.2.2.2.1,c.2.2.2.2)
   else some (0,false,b.2.1,b.2.2.1,b.2.2.2)) ((all t:Nat):Int) (bt s i,t,s,((i+1:Nat):Int))) r→Ev (fun k=>jN.f k t s (i:Int)) r:=by
   intro r h
   exact Ev.step (fun k=>rfl) (kg (wk ht) (kg (yZ hs hlt) h))
  by_cases Cs:bt s i=49
  ·rw[if_pos Cs]
   exact⟨_,true,_,st (jO (by show¬bt s i=48;omega) (jM Cs (Ev.now _))),rfl,rfl,rfl⟩
  rw[if_neg Cs]
  by_cases h48:bt s i=48
  ·rw[if_pos h48]
   exact⟨_,true,_,st (jM h48 (Ev.now _)),rfl,rfl,rfl⟩
  rw[if_neg h48]
  by_cases h97:bt s i=97
  ·refine⟨_,decide ((0:Int)<t),_,st (jO h48 (jO Cs (jM h97 (kg (zk ht 0 (by decide)) (Ev.now _))))),?_⟩
   rw[if_pos (by omega),decide_eq_true (by omega),h97]
   exact⟨rfl,rfl,rfl⟩
  by_cases IU:bt s i=98
  ·refine⟨_,decide ((1:Int)<t),_,st (jO h48 (jO Cs (jO h97 (jM IU (kg (zk ht 1 (by decide)) (Ev.now _)))))),?_⟩
   by_cases h:1<t
   ·rw[if_pos (by omega),decide_eq_true h,IU]
    exact⟨rfl,rfl,rfl⟩
   ·rw[if_neg (by omega),decide_eq_false h,if_neg (by omega),if_neg (by omega)]
    rfl
  by_cases JF:bt s i=99
  ·refine⟨_,decide ((2:Int)<t),_,st (jO h48 (jO Cs (jO h97 (jO IU (jM JF (kg (zk ht 2 (by decide)) (Ev.now _))))))),?_⟩
   by_cases h:2<t
   ·rw[if_pos (by omega),decide_eq_true h,JF]
    exact⟨rfl,rfl,rfl⟩
   ·rw[if_neg (by omega),decide_eq_false h,if_neg (by omega),if_neg (by omega)]
    rfl
  rw[if_neg (show¬(97≤bt s i∧bt s i - 97<t) by omega)]
  obtain⟨x1,b1,p1,hx1,hg1⟩:=ih (i+1) hlt (JE hn)
  have pre:∀{g:Nat→Option (Int×Bool×Int×ByteArray×Int)} {r},Ev g r→Ev (fun k=>if bt s i=48 then some (0,true,t,s,((i+1:Nat):Int))else if bt s i=49 then some (((all t:Nat):Int),true,t,s,((i+1:Nat):Int))else if bt s i=97 then(ow.f (jN.p 0) t).bind fun x=>some (x,decide (0<t),t,s,((i+1:Nat):Int))else if bt s i=98 then(ow.f (jN.p 1) t).bind fun x=>some (x,decide (1<t),t,s,((i+1:Nat):Int))else if bt s i=99 then(ow.f (jN.p 2) t).bind fun x=>some (x,decide (2<t),t,s,((i+1:Nat):Int))else g k) r:=fun h=>jO h48 (jO Cs (jO h97 (jO IU (jO JF h))))
  by_cases Ea:bt s i=33
  ·rw[if_pos Ea]
   refine⟨_,b1,p1,st (pre (jM Ea (Ev.bind hx1 (Ev.now _)))),?_⟩
   cases hr:yY t s n (i+1)with
   |none=>rw[hr]at hg1;exact hg1
   |some y=>
    rw[hr]at hg1
    obtain⟨rfl,rfl,rfl⟩:=hg1
    obtain⟨ra,_,_⟩:=wA ht s _ _ _ hr
    exact⟨Gc _ _ (small (xv t)) (small (Nat.lt_of_lt_of_le ra (BC t))),rfl,rfl⟩
  rw[if_neg Ea]
  by_cases ET:bt s i=40
  ·rw[if_pos ET]
   have go:∀{x b p},Ev (fun k=>if b1=true then(kR.f t s p1).bind fun sg=>(jN.f k sg.2.1 sg.2.2.1 sg.2.2.2).bind fun d=>
     if d.2.1=true then(kR.f d.2.2.1 d.2.2.2.1 d.2.2.2.2).bind fun e=>
      if e.1=41 then
       (if sg.1=38 then some (Go.bits .and .i64 x1 d.1,true,e.2.1,e.2.2.1,e.2.2.2)
       else if sg.1=124 then some (Go.bits .or .i64 x1 d.1,true,e.2.1,e.2.2.1,e.2.2.2)
       else if sg.1=62 then some (Go.bits .or .i64 (Go.bits .xor .i64 ((all t:Nat):Int) x1) d.1,true,e.2.1,e.2.2.1,e.2.2.2)
       else some (0,false,e.2.1,e.2.2.1,e.2.2.2))
      else some (0,false,e.2.1,e.2.2.1,e.2.2.2)
     else some (0,false,d.2.2.1,d.2.2.2.1,d.2.2.2.2)
    else some (0,false,t,s,p1)) (x,b,t,s,p)→Ev (fun k=>jN.f k t s (i:Int)) (x,b,t,s,p):=by
    intro x b p h
    exact st (pre (jO Ea (jM ET (Ev.bind hx1 h))))
   cases hr:yY t s n (i+1)with
   |none=>
    rw[hr]at hg1
    have:b1=false:=hg1
    subst this
    exact⟨0,false,p1,go (wW (Ev.now _)),rfl⟩
   |some y=>
    rw[hr]at hg1
    obtain⟨a1,m⟩:=y
    obtain⟨rfl,rfl,rfl⟩:=hg1
    obtain⟨ra,rb,rc⟩:=wA ht s _ _ _ hr
    simp only at ra rb rc
    have GX:=small (Nat.lt_of_lt_of_le ra (BC t))
    have KG:=small (Nat.lt_of_lt_of_le (zi ht ra) (BC t))
    clear ra
    by_cases hm:m<s.size
    ·obtain⟨x2,b2,p2,hx2,hg2⟩:=ih (m+1) hm (Il hn (Nat.lt_of_succ_lt rb))
     show∃x b p,Ev _ _∧IQ (if m<s.size then(yY t s n (m+1)).bind fun y=>if y.2<s.size∧bt s y.2=41 then(DY t (bt s m) a1 y.1).map fun z=>(z,y.2+1)else none else none) s x b p
     rw[if_pos hm]
     have go2:∀{x b p},Ev (fun k=>if b2=true then(kR.f t s p2).bind fun e=>
       if e.1=41 then
        (if bt s m=38 then some (Go.bits .and .i64 ((a1:Nat):Int) x2,true,e.2.1,e.2.2.1,e.2.2.2)
        else if bt s m=124 then some (Go.bits .or .i64 ((a1:Nat):Int) x2,true,e.2.1,e.2.2.1,e.2.2.2)
        else if bt s m=62 then some (Go.bits .or .i64 (Go.bits .xor .i64 ((all t:Nat):Int) ((a1:Nat):Int)) x2,true,e.2.1,e.2.2.1,e.2.2.2)
        else some (0,false,e.2.1,e.2.2.1,e.2.2.2))
       else some (0,false,e.2.1,e.2.2.1,e.2.2.2)
      else some (0,false,t,s,p2)) (x,b,t,s,p)→Ev (fun k=>jN.f k t s (i:Int)) (x,b,t,s,p):=by
      intro x b p h
      exact go (rE (kg (yZ hs hm) (Ev.bind hx2 h)))
     cases hr2:yY t s n (m+1)with
     |none=>
      rw[hr2]at hg2
      have:b2=false:=hg2
      subst this
      exact⟨0,false,p2,go2 (wW (Ev.now _)),rfl⟩
     |some z=>
      rw[hr2]at hg2
      obtain⟨a2,e⟩:=z
      obtain⟨rfl,rfl,rfl⟩:=hg2
      obtain⟨sa,sb,sc⟩:=wA ht s _ _ _ hr2
      simp only at sa sb sc
      have GY:=small (Nat.lt_of_lt_of_le sa (BC t))
      clear sa
      show∃x b p,Ev _ _∧IQ (if e<s.size∧bt s e=41 then(DY t (bt s m) a1 a2).map fun z=>(z,e+1)else none) s x b p
      by_cases he:e<s.size
      ·by_cases Eb:bt s e=41
       ·rw[if_pos ⟨he,Eb⟩]
        have IV:∀{x b p},Ev (fun _=>if bt s m=38 then some (Go.bits .and .i64 ((a1:Nat):Int) ((a2:Nat):Int),true,t,s,((e+1:Nat):Int))
          else if bt s m=124 then some (Go.bits .or .i64 ((a1:Nat):Int) ((a2:Nat):Int),true,t,s,((e+1:Nat):Int))
          else if bt s m=62 then some (Go.bits .or .i64 (Go.bits .xor .i64 ((all t:Nat):Int) ((a1:Nat):Int)) ((a2:Nat):Int),true,t,s,((e+1:Nat):Int))
          else some (0,false,t,s,((e+1:Nat):Int))) (x,b,t,s,p)→Ev (fun k=>jN.f k t s (i:Int)) (x,b,t,s,p):=by
         intro x b p h
         exact go2 (rE (kg (yZ hs he) (jM Eb h)))
        unfold DY
        by_cases q1:bt s m=38
        ·rw[if_pos q1]
         exact⟨_,true,_,IV (jM q1 (Ev.now _)),band _ _ GX GY,rfl,rfl⟩
        rw[if_neg q1]
        by_cases q2:bt s m=124
        ·rw[if_pos q2]
         exact⟨_,true,_,IV (jO q1 (jM q2 (Ev.now _))),Ij _ _ GX GY,rfl,rfl⟩
        rw[if_neg q2]
        by_cases q3:bt s m=62
        ·rw[if_pos q3]
         refine⟨_,true,_,IV (jO q1 (jO q2 (jM q3 (Ev.now _)))),?_,rfl,rfl⟩
         rw[Gc _ _ (small (xv t)) GX]
         exact Ij _ _ KG GY
        rw[if_neg q3]
        exact⟨0,false,_,IV (jO q1 (jO q2 (jO q3 (Ev.now _)))),rfl⟩
       ·rw[if_neg (fun k=>Eb k.2)]
        exact⟨0,false,_,go2 (rE (kg (yZ hs he) (jO Eb (Ev.now _)))),rfl⟩
      ·rw[if_neg (fun k=>he k.1)]
       have ez:e=s.size:=Nat.le_antisymm sc (Nat.le_of_not_lt he)
       subst ez
       exact⟨0,false,_,go2 (rE (kg zj (jO (show¬((0:Int)=41) by decide) (Ev.now _)))),rfl⟩
    ·show∃x b p,Ev _ _∧IQ (if m<s.size then(yY t s n (m+1)).bind fun y=>if y.2<s.size∧bt s y.2=41 then(DY t (bt s m) a1 y.1).map fun z=>(z,y.2+1)else none else none) s x b p
     rw[if_neg hm]
     have ez:m=s.size:=Nat.le_antisymm rc (Nat.le_of_not_lt hm)
     subst ez
     exact⟨0,false,_,go (rE (kg zj (Ev.bind (last _ rfl) (wW (Ev.now _))))),rfl⟩
  rw[if_neg ET]
  exact⟨0,false,_,st (pre (jO Ea (jO ET (Ev.now _)))),rfl⟩
theorem BE {t:Int} (ht:1≤t∧t≤3) (s:ByteArray) (hs:s.size≤120):Ev (fun k=>qO.f k t s) (holds t s):=by
 obtain⟨x,b,p,hx,hg⟩:=Ec ht s (by omega) s.size 0 (Nat.zero_le _) (by omega)
 unfold holds qO.f
 rw[if_pos ⟨ht,hs⟩]
 refine Ev.bind hx ?_
 cases hr:yY t s s.size 0 with
 |none=>
  rw[hr]at hg
  have:b=false:=hg
  subst this
  exact wW (Ev.now _)
 |some y=>
  rw[hr]at hg
  obtain⟨rfl,rfl,rfl⟩:=hg
  refine rE ?_
  show Ev (fun _=>if(y.2:Int)=(s.size:Int)then some ((y.1:Int),true)else some (-1,false)) (if y.2=s.size then((y.1:Int),true)else(-1,false))
  by_cases he:y.2=s.size
  ·rw[if_pos he]
   exact jM (by omega) (Ev.now _)
  ·rw[if_neg he]
   exact jO (by omega) (Ev.now _)
theorem sx (t:Int) (s:ByteArray):Ev (fun k=>oF.f k t s) (holds t s):=by
 unfold oF.f
 refine kg (xp t) ?_
 by_cases ht:1≤t∧t≤3
 ·refine jM (decide_eq_true ht) ?_
  by_cases hs:(s.size:Int)>120
  ·unfold holds
   rw[if_neg (by omega)]
   exact jM hs (Ev.now _)
  ·exact jO hs (Ev.bind (BE ht s (by omega)) (Ev.now _))
 ·unfold holds
  rw[if_neg (fun k=>ht k.1)]
  exact jO (by simpa using ht) (Ev.now _)
theorem AZ (t s:Int):oD.f t s=some (DX t s):=by
 unfold oD.f DX
 rw[wE,Option.bind_some]
 by_cases h:1≤t∧t≤3
 ·rw[decide_eq_true h,if_pos rfl,xw h,Option.bind_some,wE,Option.bind_some]
  congr 1
  exact decide_eq_decide.2 ⟨fun k=>⟨h,k⟩,fun k=>k.2⟩
 ·rw[decide_eq_false h,if_neg (by decide)]
  congr 1
  symm
  exact decide_eq_false (fun k=>h k.1)
def Ba (t:Int) (s:Nat):List Int:=(kA.f 120 t (s:Int)).getD []
def Bb (t s:Nat):Bool:=match kA.f 120 (t:Int) (s:Int)with
 |some l=>decide (kp.f 120 (t:Int) (s:Int)=some l)&&decide (l.length=2^t)
 |none=>false
theorem JG:(List.range 3).all (fun s=>Bb 1 (s+1))=true:=by decide+kernel
theorem JH:(List.range 15).all (fun s=>Bb 2 (s+1))=true:=by decide+kernel
theorem JI:(List.range 255).all (fun s=>Bb 3 (s+1))=true:=by decide+kernel
theorem wT {p:Nat→Bool} {n:Nat} (h:(List.range n).all p=true) {i:Nat} (hi:i<n):p i=true:=List.all_eq_true.1 h i (List.mem_range.2 hi)
theorem Gk {t:Int} (ht:1≤t∧t≤3) {s:Nat} (h0:s≠0) (hs:s≤all t):Bb t.toNat s=true:=by
 obtain⟨s,rfl⟩:∃r,s=r+1:=⟨s - 1,by omega⟩
 rcases three ht with rfl|rfl|rfl
 ·exact wT JG (by have:all 1=3:=rfl;omega)
 ·exact wT JH (by have:all 2=15:=rfl;omega)
 ·exact wT JI (by have:all 3=255:=rfl;omega)
theorem wU {t:Int} (ht:1≤t∧t≤3) {s:Nat} (h0:s≠0) (hs:s≤all t):
  kA.f 120 t (s:Int)=some (Ba t s)∧kp.f 120 t (s:Int)=some (Ba t s)∧(Ba t s).length=wn t:=by
 have h:=Gk ht h0 hs
 obtain⟨n,rfl⟩:=Int.eq_ofNat_of_zero_le (show 0≤t by omega)
 unfold Bb at h
 unfold Ba
 rw[Int.toNat_natCast]at h
 cases e:kA.f 120 (n:Int) (s:Int)with
 |none=>rw[e]at h;cases h
 |some l=>
  rw[e]at h
  simp only[Bool.and_eq_true,decide_eq_true_eq]at h
  exact⟨rfl,h.1,h.2.trans (by rcases three ht with h|h|h<;>(rw[h];have:n=n:=rfl;obtain rfl:=Int.ofNat.inj h;rfl))⟩
theorem zl {t:Int} (ht:1≤t∧t≤3) {s:Nat} (h0:s≠0) (hs:s≤all t):Ev (fun k=>kA.f k t (s:Int)) (Ba t s):=Ev.of (fun k=>kA.mono _ _ k) (wU ht h0 hs).1
theorem BF {t:Int} (ht:1≤t∧t≤3) {s:Nat} (h0:s≠0) (hs:s≤all t):Ev (fun k=>kp.f k t (s:Int)) (Ba t s):=Ev.of (fun k=>kp.mono _ _ k) (wU ht h0 hs).2.1
theorem yD {t:Int} (ht:1≤t∧t≤3) {s:Nat} (hs:s≤all t):s<2^wn t:=by have:=xr ht;omega
theorem Al {t:Int} (ht:1≤t∧t≤3) {s:Nat} (hs:s<2^wn t):s≤all t:=by have:=xr ht;omega
theorem vz {t:Int} {s:Nat} (hs:s≤all t):s<256:=by have:=xv t;omega
theorem big {s:Nat} (hs:s<256):s<2^62:=Nat.lt_trans hs (by decide)
theorem rZ {t:Int} (ht:1≤t∧t≤3) {l:List Int} (hl:l.length=wn t) (s:Nat):qH l s≤all t:=Al ht (hl▸ye _ _)
theorem Ct {t:Int} (ht:1≤t∧t≤3) {a b:Nat} (ha:a≤all t) (hb:b≤all t):a|||b≤all t:=Al ht (Nat.or_lt_two_pow (yD ht ha) (yD ht hb))
theorem vr {t:Int} (ht:1≤t∧t≤3) {s:Nat} (hs:s≤all t):oD.f t (s:Int)=some true:=by
 rw[AZ]
 exact congrArg some (decide_eq_true ⟨ht,by omega,by omega⟩)
theorem xL {t:Int} (ht:1≤t∧t≤3) {s:Nat} (hs:s≤all t):rH.f t (s:Int)=some true:=by
 unfold rH.f
 rw[xp,Option.bind_some,if_pos (decide_eq_true ht),if_pos (by omega),wk ht,Option.bind_some,decide_eq_true (by omega)]
theorem zm (l:List Int) (s:Nat):∀(d i:Nat) (m:Int),sJ l s d i m≤m∧∀j,i≤j→j<i+d→s.testBit j=true→sJ l s d i m≤l.getD j 0
 |0,_,m=>⟨Int.le_refl _,fun j h1 h2=>by omega⟩
 |d+1,i,m=>by
  unfold sJ
  obtain⟨_,b,c⟩:=yd m (l.getD i 0)
  obtain⟨h1,h2⟩:=zm l s d (i+1) (if s.testBit i=true then mn m (l.getD i 0)else m)
  by_cases hb:s.testBit i=true
  ·rw[if_pos hb]at h1 h2⊢
   refine⟨by omega,fun j k1 k2 k3=>?_⟩
   by_cases e:j=i
   ·subst e;omega
   ·exact h2 j (by omega) (by omega) k3
  ·rw[if_neg hb]at h1 h2⊢
   refine⟨h1,fun j k1 k2 k3=>?_⟩
   by_cases e:j=i
   ·subst e;exact absurd k3 hb
   ·exact h2 j (by omega) (by omega) k3
theorem Cu {t:Int} (ht:1≤t∧t≤3) {j:Nat} (hj:j<wn t):(all t).testBit j=true:=by
 rw[show all t=2^wn t - 1 from by have:=xr ht;omega,Nat.testBit_two_pow_sub_one,decide_eq_true hj]
theorem BG {t:Int} {l:List Int} (h:rB t l=true):leastOf l (all t)=0:=by
 obtain⟨ht,hl,hx,h0⟩:=qc.1 h
 obtain⟨p,hp,he⟩:=AW.1 h0
 have a:=(xq l (all t) (fun x k=>(hx x k).1) l.length 0 10 (by decide) (by decide)).1
 have b:=(zm l (all t) l.length 0 10).2 p (Nat.zero_le _) (by omega) (Cu ht (hl▸hp))
 unfold leastOf
 omega
theorem Ed {t:Int} {l:List Int} (h:rB t l=true) (s:Nat):∃n:Nat,leastOf l s=n∧n≤10:=by
 obtain⟨_,_,hx,_⟩:=qc.1 h
 obtain⟨a,b⟩:=xq l s (fun x k=>(hx x k).1) l.length 0 10 (by decide) (by decide)
 exact⟨(leastOf l s).toNat,(Int.toNat_of_nonneg a).symm,by unfold leastOf;omega⟩
theorem zP {t:Int} {l:List Int} (h:rB t l=true):pz.f t l=some ((qH l (all t):Nat):Int):=by
 obtain⟨ht,hl,_,_⟩:=qc.1 h
 have hp:∀y:Nat,y<0+wn t→pz.p l (y:Int)=some (decide (l.getD y 0=0)):=by
  intro y hy
  unfold pz.p
  rw[if_pos (by omega),if_pos (by omega),xG]
 obtain⟨r,h1,h2,h3⟩:=xI (p:=pz.p l) (q:=fun y=>decide (l.getD y 0=0)) (wn t) 0 0 (by have:=(wu t).1;omega) Nat.one_pos hp
 have hf:ow.f (pz.p l) t=some (r:Int):=by
  unfold ow.f
  rw[if_pos (by omega),if_pos (by omega),show 2^t.toNat=wn t from by rcases three ht with rfl|rfl|rfl<;>rfl]
  exact h1
 unfold pz.f
 rw[hf]
 congr 2
 rw[Nat.zero_add]at h2 h3
 apply Nat.eq_of_testBit_eq
 intro w
 unfold qH
 rw[zh,hl,BG h,Bool.eq_iff_iff,h3,Nat.zero_testBit,Bool.and_eq_true,Bool.and_eq_true,decide_eq_true_eq,decide_eq_true_eq]
 constructor
 ·rintro(k|⟨_,k2,k3⟩)
  ·cases k
  ·exact⟨by omega,Cu ht (by omega),k3⟩
 ·rintro⟨k1,_,k3⟩
  exact Or.inr ⟨Nat.zero_le _,by omega,k3⟩
theorem yf {t:Int} {l:List Int} (h:rB t l=true):Ev (fun k=>kc.f k t l) true:=by
 obtain⟨_,hl,_,_⟩:=qc.1 h
 exact qq (wS t (by have:=(wu t).1;omega)) h
theorem len8 {t:Int} {l:List Int} (h:rB t l=true):l.length≤8:=by
 obtain⟨_,hl,_,_⟩:=qc.1 h
 have:=(wu t).1
 omega
theorem CW {t:Int} {l:List Int} (h:rB t l=true):Ev (fun k=>rD.f k t l) ((qH l (all t):Nat):Int):=
 Ev.bind (yf h) (rE (kg (xw (qc.1 h).1) (Ev.bind (wy (len8 h) _) (Ev.now _))))
/-! ### acceptance -/
theorem Bc {a b:Nat} (ha:a<2^62):(Go.bits .andNot .i64 (a:Int) (b:Int)==0)=decide (a&&& b=a):=by
 rw[EO a b ha,Bool.eq_iff_iff,beq_iff_eq,decide_eq_true_eq,←CO]
 omega
theorem Cv {a b:Nat}:(((a&&& b:Nat):Int)==(a:Int))=decide (a&&& b=a):=by
 rw[Bool.eq_iff_iff,beq_iff_eq,decide_eq_true_eq]
 omega
theorem BH {t:Int} {l:List Int} (h:rB t l=true) {a b:Nat} (ha:a≤all t):Ev (fun k=>qk.f k t l (a:Int) (b:Int)) (decide (qH l a&&& b=qH l a)):=by
 obtain⟨ht,hl,_,_⟩:=qc.1 h
 exact Ev.bind (wY ht hl (yD ht ha)) (qq (Ev.now _) (Bc (big (vz (rZ ht hl a)))))
theorem BI {t:Int} {l:List Int} (h:rB t l=true) {a b:Nat} (h0:a≠0) (ha:a≤all t) (hb:b≤all t):Ev (fun k=>qa.f k t l (a:Int) (b:Int)) (decide (qH l a&&& b=qH l a)):=by
 obtain⟨ht,hl,_,_⟩:=qc.1 h
 have hr:uY.f t (a:Int) (b:Int)=some true:=by
  unfold uY.f
  rw[vr ht ha,Option.bind_some,if_pos rfl,vr ht hb,Option.bind_some,if_pos rfl]
  exact congrArg some (bne_iff_ne.2 (by omega))
 refine Ev.bind (yf h) (rE (kg hr (show Ev (fun k=>qa.j0 k l false (a:Int) (b:Int)) _ from Ev.step (fun k=>rfl) (Ev.bind (wy (len8 h) a) (Ev.bind (xH (vz (rZ ht hl a))) (qq (Ev.now _) Cv))))))
/-! ### firmness, what is given up -/
theorem zG {t:Int} {l:List Int} (h:rB t l=true) {s:Nat} (hs:s≤all t):Ev (fun k=>kz.f k t l (s:Int)) (leastOf l s):=by
 obtain⟨ht,hl,_,_⟩:=qc.1 h
 have h8:=len8 h
 refine Ev.bind (yf h) (rE (kg (vr ht hs) (show Ev (fun k=>kz.j0 k l (s:Int) false) _ from Ev.step (fun k=>rfl) ?_)))
 have key:∀i,i≤l.length→∀m:Int,Ev (fun k=>kz.l0 k l (s:Int) m (i:Int)) (sJ l s (l.length - i) i m):=by
  apply down
  ·intro m
   rw[Nat.sub_self]
   exact Ev.step (fun k=>rfl) (jO (by omega) (Ev.now _))
  ·intro i hi ih m
   rw[show l.length - i=(l.length - (i+1))+1 from by omega]
   unfold sJ
   refine Ev.step (fun k=>rfl) (jM (by omega) (kg (wX s i (by omega)) ?_))
   rw[w1 hi (by omega),xG]
   by_cases hb:s.testBit i=true
   ·rw[if_pos hb]
    exact jM (wL.2 hb) (jM (by omega) (ih _))
   ·rw[if_neg hb]
    exact jO (fun k=>hb (wL.1 k)) (ih _)
 exact key 0 (Nat.zero_le _) 10
theorem Cw {t:Int} (ht:1≤t∧t≤3) {s:Nat} (hs:s≤all t):wrap64 ((all t:Int) - (s:Int))=((all t^^^s:Nat):Int):=by
 have:=xv t
 rw[←Ak ht (yD ht hs),xn (by omega) (by omega)]
 omega
theorem Am {t:Int} (ht:1≤t∧t≤3) {s:Nat} (hs:s≤all t):all t^^^s≤all t:=Al ht (zi ht (yD ht hs))
theorem FC {t:Int} {s:Nat} (hs:s≤all t):Go.bits .xor .i64 (all t:Int) (s:Int)=((all t^^^s:Nat):Int):=Gc _ _ (big (xv t)) (big (vz hs))
theorem Bd {t:Int} {l:List Int} (h:rB t l=true) {s:Nat} (hs:s≤all t):Ev (fun k=>rF.f k t l (s:Int)) (leastOf l (all t^^^s)):=by
 obtain⟨ht,hl,_,_⟩:=qc.1 h
 have h8:=len8 h
 refine kg (wk ht) ?_
 rw[FC hs]
 exact Ev.bind (yC (by omega) (vz (Am ht hs))) (Ev.now _)
theorem zH {t:Int} {l:List Int} (h:rB t l=true) {s:Nat} (hs:s≤all t):Ev (fun k=>oI.f k t l (s:Int)) (leastOf l (all t^^^s)):=by
 obtain⟨ht,hl,_,_⟩:=qc.1 h
 refine Ev.bind (yf h) (rE (kg (vr ht hs) (show Ev (fun k=>oI.j0 k t l (s:Int) false) _ from Ev.step (fun k=>rfl) (kg (xw ht) ?_))))
 rw[Cw ht hs]
 exact Ev.bind (zG h (Am ht hs)) (Ev.now _)
def given (t:Int) (l:List Int) (s:Nat):Nat:=qH l (all t)|||qH l (all t^^^s)
theorem Ee {t:Int} {l:List Int} (h:rB t l=true) (s:Nat):given t l s≤all t:=by
 obtain⟨ht,hl,_,_⟩:=qc.1 h
 exact Ct ht (rZ ht hl _) (rZ ht hl _)
theorem BJ {t:Int} {l:List Int} (h:rB t l=true) {s:Nat} (hs:s≤all t):Ev (fun k=>rQ.f k t l (s:Int)) (given t l s:Int):=by
 obtain⟨ht,hl,_,_⟩:=qc.1 h
 refine kg (zP h) (kg (wk ht) ?_)
 rw[FC hs]
 exact Ev.bind (wY ht hl (yD ht (Am ht hs))) (qq (Ev.now _) (Ij _ _ (big (vz (rZ ht hl _))) (big (vz (rZ ht hl _)))))
theorem BL {t:Int} {l:List Int} (h:rB t l=true) {s:Nat} (hs:s≤all t):Ev (fun k=>pZ.f k t l (s:Int)) (given t l s:Int):=by
 obtain⟨ht,hl,_,_⟩:=qc.1 h
 refine Ev.bind (yf h) (rE (kg (vr ht hs) (show Ev (fun k=>pZ.j0 k t l (s:Int) false) _ from Ev.step (fun k=>rfl) (kg (xw ht) (Ev.bind (wy (len8 h) _) ?_)))))
 rw[Cw ht hs]
 exact Ev.bind (wy (len8 h) _) (Ev.bind (xK (vz (rZ ht hl _)) (vz (rZ ht hl _))) (Ev.now _))
/-! ### the nearest worlds -/
def near (t:Int) (a b:Nat):Nat:=if a=0 then b else qH (Ba t a) b
theorem za {t:Int} (ht:1≤t∧t≤3) {a b:Nat} (ha:a≤all t) (hb:b≤all t):near t a b≤all t:=by
 unfold near
 by_cases h0:a=0
 ·rw[if_pos h0];exact hb
 ·rw[if_neg h0];exact rZ ht (wU ht h0 ha).2.2 b
theorem Ao {t:Int} (ht:1≤t∧t≤3) {a b:Nat} (ha:a≤all t) (hb:b≤all t):Ev (fun k=>oM.f k t (a:Int) (b:Int)) (near t a b:Int):=by
 refine kg (xL ht ha) (rE (kg (xL ht hb) (show Ev (fun k=>oM.j0 k t (a:Int) (b:Int) false) _ from Ev.step (fun k=>rfl) ?_)))
 unfold near
 by_cases h0:a=0
 ·rw[if_pos h0];exact jM (by omega) (Ev.now _)
 ·rw[if_neg h0]
  exact jO (by omega) (Ev.bind (zl ht h0 ha) (Ev.bind (wY ht (wU ht h0 ha).2.2 (yD ht hb)) (Ev.now _)))
theorem yg {t:Int} (ht:1≤t∧t≤3) {a b:Nat} (ha:a≤all t) (hb:b≤all t):Ev (fun k=>oJ.f k t (a:Int) (b:Int)) (near t a b:Int):=by
 refine kg (vr ht ha) (rE (kg (vr ht hb) (show Ev (fun k=>oJ.j0 k t (a:Int) (b:Int) false) _ from Ev.step (fun k=>rfl) ?_)))
 unfold near
 by_cases h0:a=0
 ·rw[if_pos h0];exact jM (by omega) (Ev.now _)
 ·rw[if_neg h0]
  exact jO (by omega) (Ev.bind (BF ht h0 ha) (Ev.bind (wy (by have:=(wu t).1;rw[(wU ht h0 ha).2.2];omega) b) (Ev.now _)))
def Be (t:Int) (a b:Nat):Nat→Nat→Nat→Nat
 |0,_,c=>c
 |d+1,i,c=>Be t a b d (i+1) (if a.testBit i=true then c|||near t (2^i) b else c)
theorem BM {t:Int} (ht:1≤t∧t≤3) {i:Nat} (hi:i<wn t):2^i≤all t:=Al ht (Nat.pow_lt_pow_right (by decide) hi)
theorem Cx {t:Int} (ht:1≤t∧t≤3) {a b:Nat} (hb:b≤all t):∀(d i c:Nat),i+d≤wn t→c≤all t→Be t a b d i c≤all t
 |0,_,_,_,hc=>hc
 |d+1,i,c,h,hc=>by
  unfold Be
  refine Cx ht hb d (i+1) _ (by omega) ?_
  split
  ·exact Ct ht hc (za ht (BM ht (by omega)) hb)
  ·exact hc
def Gl (t:Int) (a b:Nat):Nat:=Be t a b (wn t) 0 0
theorem EU {t:Int} (ht:1≤t∧t≤3) {a b:Nat} (hb:b≤all t):Gl t a b≤all t:=Cx ht hb _ _ _ (by omega) (Nat.zero_le _)
theorem Ef {t:Int} {i b:Nat}:near t (2^i) b=qH (Ba t (2^i)) b:=if_neg (Nat.ne_of_gt (Nat.two_pow_pos i))
theorem Ap {t:Int} (ht:1≤t∧t≤3) {a b:Nat} (ha:a≤all t) (hb:b≤all t):Ev (fun k=>kI.f k t (a:Int) (b:Int)) (Gl t a b:Int):=by
 have h8:=(wu t).1
 refine kg (xL ht ha) (rE (kg (xL ht hb) (show Ev (fun k=>kI.j0 k t (a:Int) (b:Int) false) _ from Ev.step (fun k=>rfl) (jM (by omega) ?_))))
 rw[xW ht]
 have key:∀i,i≤wn t→∀c:Nat,c≤all t→Ev (fun k=>kI.l0 k t (a:Int) (b:Int) (c:Int) (wn t:Int) (i:Int)) (Be t a b (wn t - i) i c:Int):=by
  apply down
  ·intro c _
   rw[Nat.sub_self]
   exact Ev.step (fun k=>rfl) (jO (by omega) (Ev.now _))
  ·intro i hi ih c hc
   rw[show wn t - i=(wn t - (i+1))+1 from by omega]
   unfold Be
   refine Ev.step (fun k=>rfl) (jM (by omega) (jM (by omega) ?_))
   rw[Ah a i (by omega) (big (vz ha)),w1 hi (by omega),EL i (by omega)]
   have hp:=BM ht hi
   have h0:2^i≠0:=Nat.ne_of_gt (Nat.two_pow_pos i)
   have hn:=za ht hp hb
   by_cases hbit:a.testBit i=true
   ·rw[if_pos hbit]
    refine jM (wL.2 hbit) (Ev.bind (zl ht h0 hp) (Ev.bind (wY ht (wU ht h0 hp).2.2 (yD ht hb)) ?_))
    rw[←Ef,Ij _ _ (big (vz hc)) (big (vz hn))]
    exact ih _ (Ct ht hc hn)
   ·rw[if_neg hbit]
    exact jO (fun k=>hbit (wL.1 k)) (ih _ hc)
 exact key 0 (Nat.zero_le _) 0 (Nat.zero_le _)
theorem Aq {t:Int} (ht:1≤t∧t≤3) {a b:Nat} (ha:a≤all t) (hb:b≤all t):Ev (fun k=>kK.f k t (a:Int) (b:Int)) (Gl t a b:Int):=by
 have h8:=(wu t).1
 refine kg (vr ht ha) (rE (kg (vr ht hb) (show Ev (fun k=>kK.j0 k t (a:Int) (b:Int) false) _ from Ev.step (fun k=>rfl) ?_)))
 have key:∀i,i≤wn t→∀c:Nat,c≤all t→Ev (fun k=>kK.l0 k t (a:Int) (b:Int) (c:Int) (i:Int)) (Be t a b (wn t - i) i c:Int):=by
  apply down
  ·intro c _
   rw[Nat.sub_self]
   refine Ev.step (fun k=>rfl) (jM (by omega) ?_)
   rw[xW ht]
   exact jO (by omega) (Ev.now _)
  ·intro i hi ih c hc
   rw[show wn t - i=(wn t - (i+1))+1 from by omega]
   unfold Be
   refine Ev.step (fun k=>rfl) (jM (by omega) ?_)
   rw[xW ht,w1 hi (by omega),EL i (by omega)]
   refine jM (by omega) (kg (wX a i (by omega)) ?_)
   have hp:=BM ht hi
   have hn:=za ht hp hb
   by_cases hbit:a.testBit i=true
   ·rw[if_pos hbit]
    exact jM (wL.2 hbit) (jM (by omega) (Ev.bind (yg ht hp hb) (Ev.bind (xK (vz hc) (vz hn)) (ih _ (Ct ht hc hn)))))
   ·rw[if_neg hbit]
    exact jO (fun k=>hbit (wL.1 k)) (ih _ hc)
 exact key 0 (Nat.zero_le _) 0 (Nat.zero_le _)
def sent (t:Int) (s:Nat):ByteArray:=(kd.f 40 t (s:Int)).getD ⟨#[]⟩
def zn (t:Int) (s:Nat):Bool:=match kd.f 40 t (s:Int),ks.f 40 t (s:Int)with
 |some a,some b=>a.data.toList==b.data.toList
 | _,_=>false
theorem Io:(List.range 4).all (fun s=>zn 1 s)=true:=by decide+kernel
theorem Ip:(List.range 16).all (fun s=>zn 2 s)=true:=by decide+kernel
theorem Iq:(List.range 256).all (fun s=>zn 3 s)=true:=by decide+kernel
theorem EV {t:Int} (ht:1≤t∧t≤3) {s:Nat} (hs:s≤all t):zn t s=true:=by
 rcases three ht with rfl|rfl|rfl
 ·exact wT Io (by have:all 1=3:=rfl;omega)
 ·exact wT Ip (by have:all 2=15:=rfl;omega)
 ·exact wT Iq (by have:all 3=255:=rfl;omega)
theorem zo {t:Int} (ht:1≤t∧t≤3) {s:Nat} (hs:s≤all t):kd.f 40 t (s:Int)=some (sent t s)∧ks.f 40 t (s:Int)=some (sent t s):=by
 have h:=EV ht hs
 unfold zn at h
 unfold sent
 cases e:kd.f 40 t (s:Int)with
 |none=>rw[e]at h;cases h
 |some a=>
  rw[e]at h
  cases e2:ks.f 40 t (s:Int)with
  |none=>rw[e2]at h;cases h
  |some b=>
   rw[e2]at h
   refine⟨rfl,?_⟩
   congr 1
   exact(ByteArray.ext (Array.toList_inj.1 (beq_iff_eq.1 h))).symm
theorem wF {t:Int} (ht:1≤t∧t≤3) {s:Nat} (hs:s≤all t):Ev (fun k=>kd.f k t (s:Int)) (sent t s):=Ev.of (fun k=>kd.mono _ _ k) (zo ht hs).1
theorem wH {t:Int} (ht:1≤t∧t≤3) {s:Nat} (hs:s≤all t):Ev (fun k=>ks.f k t (s:Int)) (sent t s):=Ev.of (fun k=>ks.mono _ _ k) (zo ht hs).2
/-! ### numbers -/
def num (n:Nat):ByteArray:=(kr.f 5 (n:Int)).getD ⟨#[]⟩
theorem zQ {n:Nat} (h:n<10):Lib.decDigits n= [(48+n).toUInt8]:=by
 unfold Lib.decDigits
 rw[dif_pos h]
theorem EW:Lib.decDigits 10= [49,48]:=by
 unfold Lib.decDigits
 rw[dif_neg (by decide),show 10/10=1 from rfl,zQ (by decide)]
 rfl
theorem xM {n:Nat} (h:n≤10):strconv_Itoa.f (n:Int)=some (num n)∧kr.f 5 (n:Int)=some (num n):=by
 have hi:strconv_Itoa.f (n:Int)=some ⟨(Lib.decDigits n).toArray⟩:=by
  unfold strconv_Itoa.f
  rw[if_pos (by omega),if_pos (by omega),Int.toNat_natCast]
 rw[hi]
 by_cases h10:n<10
 ·rw[zQ h10]
  have:∀m:Nat,m<10→(kr.f 5 (m:Int)).map (·.data.toList)=some [(48+m).toUInt8]:=by decide+kernel
  have hm:=this n h10
  unfold num
  cases e:kr.f 5 (n:Int)with
  |none=>rw[e]at hm;cases hm
  |some a=>
   rw[e]at hm
   have hd:a.data.toList=_:=Option.some.inj hm
   exact⟨congrArg some (show(⟨_⟩:ByteArray)=a from ByteArray.ext (Array.toList_inj.1 hd.symm)),rfl⟩
 ·obtain rfl:n=10:=by omega
  rw[EW]
  have hm:(kr.f 5 ((10:Nat):Int)).map (·.data.toList)=some [49,48]:=by decide+kernel
  unfold num
  cases e:kr.f 5 ((10:Nat):Int)with
  |none=>rw[e]at hm;cases hm
  |some a=>
   rw[e]at hm
   have hd:a.data.toList=_:=Option.some.inj hm
   exact⟨congrArg some (show(⟨_⟩:ByteArray)=a from ByteArray.ext (Array.toList_inj.1 hd.symm)),rfl⟩
theorem xx {n:Nat} (h:n≤10):Ev (fun k=>kr.f k (n:Int)) (num n):=Ev.of (fun k=>kr.mono _ k) (xM h).2
theorem pY (s:ByteArray):s.toList.length=s.size:=by rw[toList_data,Array.length_toList];rfl
theorem xc (a b:ByteArray):(a++b).toList=a.toList++b.toList:=by
 rw[toList_data,toList_data,toList_data,ByteArray.data_append,Array.toList_append]
theorem wm (s:ByteArray) (i j:Nat):(s.extract i j).toList=(s.toList.drop i).take (j - i):=by
 rw[toList_data,toList_data,ByteArray.data_extract,Array.toList_extract,List.extract_eq_take_drop]
theorem vt (s:ByteArray) (i:Nat):(s.extract i s.size).toList=s.toList.drop i:=by
 rw[wm]
 apply List.take_of_length_le
 rw[List.length_drop,pY]
 omega
theorem yp (s:ByteArray) {i:Nat} (h:i<s.size):bt s (i:Int)=((s.toList[i]'(by rw[pY];exact h)).toNat:Int):=by
 unfold bt
 rw[dif_pos (by rw[Int.toNat_natCast];exact h)]
 congr 2
 simp only[toList_data,Int.toNat_natCast]
 rfl
/-- No sentence has a hyphen. -/
theorem Gm {t:Int} (s:ByteArray):∀(n i:Nat) (x:Nat×Nat),1≤t∧t≤3→yY t s n i=some x→∀j:Nat,i≤j→j<x.2→bt s j≠45:=by
 intro n
 induction n with
 |zero=>intro i x _ h;cases h
 |succ n ih=>
  intro i x ht h j hj hx
  unfold yY at h
  by_cases hlt:i<s.size
  ·rw[if_pos hlt]at h
   have one:∀{v:Nat},x=(v,i+1)→bt s i≠45→bt s j≠45:=by
    rintro v rfl h
    have:j=i:=by have:j<i+1:=hx;omega
    rw[this]
    exact h
   split at h
   ·rename_i hc
    exact one (Option.some.inj h).symm (by rw[hc];decide)
   split at h
   ·rename_i hc
    exact one (Option.some.inj h).symm (by rw[hc];decide)
   split at h
   ·rename_i hc
    exact one (Option.some.inj h).symm (by omega)
   split at h
   ·rename_i hc
    obtain⟨y,hy,rfl⟩:=Option.map_eq_some_iff.1 h
    by_cases e:j=i
    ·rw[e,hc];decide
    ·exact ih _ _ ht hy j (by omega) hx
   split at h
   ·rename_i hc
    obtain⟨y,hy,h⟩:=Option.bind_eq_some_iff.1 h
    split at h
    ·obtain⟨z,hz,h⟩:=Option.bind_eq_some_iff.1 h
     split at h
     ·rename_i Eb
      obtain⟨v,hv,rfl⟩:=Option.map_eq_some_iff.1 h
      by_cases e:j=i
      ·rw[e,hc];decide
      by_cases e1:j<y.2
      ·exact ih _ _ ht hy j (by omega) e1
      by_cases e2:j=y.2
      ·rw[e2]
       intro e3
       unfold DY at hv
       rw[e3,if_neg (by decide),if_neg (by decide),if_neg (by decide)]at hv
       cases hv
      by_cases e3:j<z.2
      ·exact ih _ _ ht hz j (by omega) e3
      ·have:j=z.2:=by have:j<z.2+1:=hx;omega
       rw[this,Eb.2]
       decide
     ·cases h
    ·cases h
   ·cases h
  ·rw[if_neg hlt]at h
   cases h
theorem Eg {t:Int} {s:ByteArray} {a:Int} (h:holds t s=(a,true)) {j:Nat} (hj:j<s.size):bt s j≠45:=by
 unfold holds at h
 split at h
 ·rename_i hc
  split at h
  ·rename_i x hx
   split at h
   ·rename_i he
    exact Gm s _ _ _ hc.1 hx j (Nat.zero_le _) (by rw[he];exact hj)
   ·cases h
  ·cases h
 ·cases h
def at2 (s:ByteArray) (k:Nat):Prop:=k+1<s.size∧bt s k=45∧bt s ((k+1:Nat):Int)=62
instance (s:ByteArray) (k:Nat):Decidable (at2 s k):=by unfold at2;infer_instance
theorem BN (s:ByteArray) (k:Nat):Lib.occAt s.data.toList [45,62] k=true↔at2 s k:=by
 unfold Lib.occAt at2
 rw[←toList_data]
 by_cases h:k+1<s.size
 ·have l0:k<s.toList.length:=by rw[pY];omega
  have l1:k+1<s.toList.length:=by rw[pY];omega
  rw[List.drop_eq_getElem_cons l0,List.drop_eq_getElem_cons l1,yp s (by omega),yp s h]
  simp only[List.isPrefixOf,Bool.and_true,Bool.and_eq_true,beq_iff_eq]
  constructor
  ·rintro⟨e1,e2⟩
   exact⟨h,by rw[←e1];rfl,by rw[←e2];rfl⟩
  ·rintro⟨_,e1,e2⟩
   exact⟨(UInt8.toNat_inj.1 (by have h9:(45:UInt8).toNat=45:=rfl;omega)).symm,(UInt8.toNat_inj.1 (by have h9:(62:UInt8).toNat=62:=rfl;omega)).symm⟩
 ·constructor
  ·intro hp
   have:=(List.isPrefixOf_iff_prefix.1 hp).length_le
   rw[List.length_drop,pY]at this
   simp at this
   omega
  ·rintro⟨k1,_,_⟩
   exact absurd k1 h
/-- The parts of a rule's text at a place. -/
def xf (t:Int) (s:ByteArray) (k:Nat):Option (Int×Int×Bool):=
 let a:=holds t (s.extract 0 k);let b:=holds t (s.extract (k+2) s.size)
 if a.2=true then(if b.2=true then(if a.1=0 then none else some (a.1,b.1,true))else none)else none
def wM (t:Int) (s:ByteArray) (k:Nat):Int×Int×Bool:=(xf t s k).getD (0,0,false)
theorem EX {s:ByteArray} (hs:s.size<4294967281):(∃k,at2 s k∧(∀j,j<k→¬at2 s j)∧yM.f s=some (s.extract 0 k,s.extract (k+2) s.size,true))∨((∀j,¬at2 s j)∧yM.f s=some (s,(⟨#[]⟩:ByteArray),false)):=by
 unfold yM.f
 rw[if_pos hs]
 rcases Lib.index_spec s.data.toList [45,62]with⟨h1,h2⟩|⟨i,h1,h2,h3,h4⟩
 ·right
  refine⟨fun j hj=>?_,?_⟩
  ·have hl:j≤s.data.toList.length:=by rw[←toList_data,pY];have:=hj.1;omega
   have:=h2 j hl
   rw[(BN s j).2 hj]at this
   cases this
  ·obtain⟨e1,e2,e3⟩:=Lib.cutB_miss s ⟨#[45,62]⟩ h1
   have e1':(⟨(Lib.cut s.data.toList [45,62]).1.toArray⟩:ByteArray)=s:=e1
   have e2':(⟨(Lib.cut s.data.toList [45,62]).2.1.toArray⟩:ByteArray)=ByteArray.empty:=e2
   have e3':(Lib.cut s.data.toList [45,62]).2.2=false:=e3
   rw[e1',e2',e3']
   rfl
 ·left
  refine⟨i,(BN s i).1 h3,fun j hj hj2=>?_,?_⟩
  ·have:=h4 j hj
   rw[(BN s j).2 hj2]at this
   cases this
  ·obtain⟨e1,e2,e3⟩:=Lib.cutB_hit s ⟨#[45,62]⟩ i h1
   have e1':(⟨(Lib.cut s.data.toList [45,62]).1.toArray⟩:ByteArray)=s.extract 0 i:=e1
   have e2':(⟨(Lib.cut s.data.toList [45,62]).2.1.toArray⟩:ByteArray)=s.extract (i+2) s.size:=e2
   have e3':(Lib.cut s.data.toList [45,62]).2.2=true:=e3
   rw[e1',e2',e3']
theorem yq (t:Int) {s:ByteArray} (hs:s.size<4294967281):(∃k,at2 s k∧(∀j,j<k→¬at2 s j)∧Ev (fun n=>qD.f n t s) (wM t s k))∨((∀j,¬at2 s j)∧Ev (fun n=>qD.f n t s) (0,0,false)):=by
 unfold qD.f
 rcases EX hs with⟨k,h1,h2,h3⟩|⟨h1,h3⟩
 ·refine Or.inl ⟨k,h1,h2,kg h3 (Ev.bind (sx t _) (Ev.bind (sx t _) (rE ?_)))⟩
  unfold wM xf
  by_cases a:(holds t (s.extract 0 k)).2=true
  ·refine jM a ?_
   by_cases b:(holds t (s.extract (k+2) s.size)).2=true
   ·refine jM b ?_
    by_cases c:(holds t (s.extract 0 k)).1=0
    ·exact jM c (qq (Ev.now _) (by simp only[a,b,c,if_true];rfl))
    ·exact jO c (qq (Ev.now _) (by simp only[a,b,c,if_true,if_false];rfl))
   ·exact jO b (qq (Ev.now _) (by simp only[a,b,if_true];rfl))
  ·exact jO a (qq (Ev.now _) (by simp only[a];rfl))
 ·exact Or.inr ⟨h1,kg h3 (Ev.bind (sx t _) (Ev.bind (sx t _) (wW (Ev.now _))))⟩
theorem EY (s:ByteArray) {j k:Nat} (h:k<j) (hj:j≤s.size):bt (s.extract 0 j) (k:Int)=bt s (k:Int):=by
 have h1:k<(s.extract 0 j).size:=by rw[ByteArray.size_extract];omega
 rw[yp _ h1,yp s (by omega)]
 congr 2
 simp only[wm,List.drop_zero,List.getElem_take]
theorem Eh (t:Int) {s:ByteArray} {i:Nat} (hs:s.size≤1000000000) (hi:i≤s.size) (h:¬i+1<s.size):Ev (fun n=>jZ.l0 n t s (i:Int)) (0,0,false):=by
 have e1:wrap64 ((i:Int)+1)=((i+1:Nat):Int):=by rw[xn (by omega) (by omega)];omega
 refine Ev.step (fun k=>rfl) (jO ?_ (Ev.now _))
 rw[e1]
 omega
theorem Cy (t:Int) {s:ByteArray} {i:Nat} {r:Int×Int×Bool} (hs:s.size≤1000000000) (h:i+1<s.size)
  (h1:¬at2 s i→Ev (fun n=>jZ.l0 n t s ((i+1:Nat):Int)) r) (h2:at2 s i→xf t s i=none→Ev (fun n=>jZ.l0 n t s ((i+1:Nat):Int)) r) (h3:∀v,at2 s i→xf t s i=some v→v=r):
  Ev (fun n=>jZ.l0 n t s (i:Int)) r:=by
 have e1:wrap64 ((i:Int)+1)=((i+1:Nat):Int):=by rw[xn (by omega) (by omega)];omega
 have e2:wrap64 ((i:Int)+2)=((i+2:Nat):Int):=by rw[xn (by omega) (by omega)];omega
 refine Ev.step (fun k=>rfl) (jM (by rw[e1];omega) (jM (by omega) (jM (by omega) ?_)))
 rw[e1]
 have skip:Ev (fun n=>jZ.l0 n t s ((i+1:Nat):Int)) r→Ev (fun n=>jZ.j1 n t s (i:Int) true) r:=by
  intro hr
  refine Ev.step (f:=fun n=>jZ.l0 n t s (wrap64 ((i:Int)+1))) (fun k=>rfl) ?_
  rw[e1]
  exact hr
 by_cases a:bt s i=45
 ·refine jM a (jM (by omega) ?_)
  by_cases b:bt s ((i+1:Nat):Int)=62
  ·have ha:at2 s i:=⟨h,a,b⟩
   rw[show(bt s ((i+1:Nat):Int) !=62)=false from by rw[b];rfl]
   have st:∀{g:Nat→Option (Int×Int×Bool)} {r},(∀k,g k=(if 0≤(i:Int)then(if(i:Int)≤(s.size:Int)then((kQ.f k t (s.extract 0 ((i:Int):Int).toNat)).bind fun Ei=>(if 0≤(wrap64 ((i:Int)+2))then(if(wrap64 ((i:Int)+2))≤(s.size:Int)then((kQ.f k t (s.extract ((wrap64 ((i:Int)+2)):Int).toNat s.size)).bind fun FD=>(if Ei.2=true then(if FD.2=true then(if Ei.1=0 then(jZ.l0 k t s (wrap64 ((i:Int)+1)))else(some (Ei.1,FD.1,true)))else(jZ.l0 k t s (wrap64 ((i:Int)+1))))else(jZ.l0 k t s (wrap64 ((i:Int)+1)))))else(none))else(none)))else(none))else(none)))→Ev g r→Ev (fun k=>jZ.j1 k t s (i:Int) false) r:=fun hg h=>Ev.step (fun k=>(hg k).symm) h
   refine st (fun k=>rfl) (jM (by omega) (jM (by omega) ?_))
   rw[e1,e2,Int.toNat_natCast,Int.toNat_natCast]
   refine Ev.bind (vx t _) (jM (by omega) (jM (by omega) (Ev.bind (vx t _) ?_)))
   by_cases x:(holds t (s.extract 0 i)).2=true
   ·refine jM x ?_
    by_cases y:(holds t (s.extract (i+2) s.size)).2=true
    ·refine jM y ?_
     by_cases c:(holds t (s.extract 0 i)).1=0
     ·exact jM c (h2 ha (by unfold xf;simp only[x,y,c,if_true]))
     ·exact jO c (qq (Ev.now _) (h3 _ ha (by unfold xf;simp only[x,y,c,if_true,if_false])))
    ·exact jO y (h2 ha (by unfold xf;simp only[x,y,if_true];rfl))
   ·exact jO x (h2 ha (by unfold xf;simp only[x];rfl))
  ·rw[show(bt s ((i+1:Nat):Int) !=62)=true from bne_iff_ne.2 b]
   exact skip (h1 (fun k=>b k.2.2))
 ·exact jO a (skip (h1 (fun k=>a k.2.1)))
theorem zR (t:Int) {s:ByteArray} (hs:s.size≤1000000000):∀(d i:Nat),s.size - i≤d→i≤s.size→(∀j,i≤j→at2 s j→xf t s j=none)→Ev (fun n=>jZ.l0 n t s (i:Int)) (0,0,false):=by
 intro d
 induction d with
 |zero=>intro i hd hi _;exact Eh t hs hi (by omega)
 |succ d ih=>
  intro i hd hi h
  by_cases h1:i+1<s.size
  ·have nx:=ih (i+1) (by omega) (by omega) (fun j hj=>h j (by omega))
   refine Cy t hs h1 (fun _=>nx) (fun _ _=>nx) (fun v ha hv=>?_)
   rw[h i (Nat.le_refl _) ha]at hv
   cases hv
  ·exact Eh t hs hi h1
theorem xX (t:Int) {s:ByteArray} (hs:s.size≤1000000000) (h:∀j,¬at2 s j):Ev (fun n=>jZ.f n t s) (0,0,false):=
 zR t hs s.size 0 (by omega) (Nat.zero_le _) (fun j _ hj=>absurd hj (h j))
theorem BO (t:Int) {s:ByteArray} {k j:Nat} (hk:at2 s k) (hj:k<j) (h:j≤s.size):xf t s j=none:=by
 unfold xf
 simp only
 rw[if_neg]
 intro hb
 have e:holds t (s.extract 0 j)=((holds t (s.extract 0 j)).1,true):=by rw[←hb]
 have:=Eg e (j:=k) (by rw[ByteArray.size_extract];omega)
 rw[EY s hj h]at this
 exact this hk.2.1
theorem yr (t:Int) {s:ByteArray} (hs:s.size≤1000000000) {k:Nat} (hk:at2 s k) (hn:∀j,j<k→¬at2 s j):Ev (fun n=>jZ.f n t s) (wM t s k):=by
 have k1:=hk.1
 have after:Ev (fun n=>jZ.l0 n t s ((k+1:Nat):Int)) (0,0,false):=zR t hs s.size (k+1) (by omega) (by omega) (fun j hj ha=>BO t hk (by omega) (by have:=ha.1;omega))
 have at_k:Ev (fun n=>jZ.l0 n t s (k:Int)) (wM t s k):=by
  cases hv:xf t s k with
  |none=>
   have e:wM t s k=(0,0,false):=by unfold wM;rw[hv];rfl
   rw[e]
   refine Cy t hs k1 (fun h=>absurd hk h) (fun _ _=>after) (fun v _ h=>?_)
   rw[hv]at h
   cases h
  |some v=>
   have e:wM t s k=v:=by unfold wM;rw[hv];rfl
   rw[e]
   refine Cy t hs k1 (fun h=>absurd hk h) (fun _ h=>?_) (fun v' _ h=>?_)
   ·rw[hv]at h
    cases h
   ·rw[hv]at h
    exact(Option.some.inj h).symm
 have key:∀i,i≤k→Ev (fun n=>jZ.l0 n t s (i:Int)) (wM t s k):=by
  apply down
  ·exact at_k
  ·intro i hi ih
   exact Cy t hs (by omega) (fun _=>ih) (fun h=>absurd h (hn i hi)) (fun v h=>absurd h (hn i hi))
 exact key 0 (Nat.zero_le _)
theorem Ar (t:Int) (s:ByteArray) (k:Nat):wM t s k=(0,0,false)∨∃a b:Nat,wM t s k=((a:Int),(b:Int),true)∧(1≤t∧t≤3)∧a≠0∧a≤all t∧b≤all t:=by
 unfold wM xf
 simp only
 by_cases a:(holds t (s.extract 0 k)).2=true
 ·by_cases b:(holds t (s.extract (k+2) s.size)).2=true
  ·by_cases c:(holds t (s.extract 0 k)).1=0
   ·left
    rw[if_pos a,if_pos b,if_pos c]
    rfl
   ·right
    have ea:holds t (s.extract 0 k)=((holds t (s.extract 0 k)).1,true):=by rw[←a]
    have eb:holds t (s.extract (k+2) s.size)=((holds t (s.extract (k+2) s.size)).1,true):=by rw[←b]
    obtain⟨h1,h2,h3⟩:=wK ea
    obtain⟨_,g2,g3⟩:=wK eb
    refine⟨(holds t (s.extract 0 k)).1.toNat,(holds t (s.extract (k+2) s.size)).1.toNat,?_,h1,by omega,by omega,by omega⟩
    rw[if_pos a,if_pos b,if_neg c,Int.toNat_of_nonneg h2,Int.toNat_of_nonneg g2]
    rfl
  ·left
   rw[if_pos a,if_neg b]
   rfl
 ·left
  rw[if_neg a]
  rfl
def sF (t:Int) (l:List Int):Bool:=rB t l&&decide (si l=l)
theorem zp (t:Int) {l:List Int} (hn:l.length≤9223372036854775807):Ev (fun k=>oN.f k t l) (sF t l):=by
 unfold oN.f sF
 refine Ev.bind (wS t hn) ?_
 cases h:rB t l with
 |false=>exact wW (Ev.now _)
 |true=>
  have hlen:=vq l
  refine rE (Ev.bind (xu h) ?_)
  have key:∀i,i≤l.length→Ev (fun k=>oN.l0 k l (si l) (i:Int)) (decide ((si l).drop i=l.drop i)):=by
   apply down
   ·refine Ev.step (fun k=>rfl) (jO (by omega) (qq (Ev.now _) ?_))
    rw[List.drop_length,List.drop_of_length_le (by omega)]
    exact(decide_eq_true rfl).symm
   ·intro i hi ih
    refine Ev.step (fun k=>rfl) (jM (by omega) (jM (by omega) (jM (by omega) ?_)))
    rw[ss hi,ss (l:=si l) (by omega),List.drop_eq_getElem_cons hi,List.drop_eq_getElem_cons (l:=si l) (by omega)]
    by_cases e:(si l)[i]=l[i]
    ·refine jM e ?_
     rw[w1 hi hn]
     refine qq ih (decide_eq_decide.2 ?_)
     rw[List.cons.injEq]
     exact⟨fun h=>⟨e,h⟩,fun h=>h.2⟩
    ·refine jO e (qq (Ev.now _) ?_)
     rw[decide_eq_false (fun h=>e (List.cons.inj h).1)]
  have:=key 0 (Nat.zero_le _)
  rw[List.drop_zero,List.drop_zero]at this
  rw[Bool.true_and]
  exact this
def vv (t:Int) (l:List Int) (ls:List (List Int)):Bool:=sF t l&&(decide (ls.length≤10)&&ls.all (sF t))
theorem vy {l:List (List Int)} {i:Nat} (h:i<l.length):qi l (i:Int)=l[i]:=by
 unfold qi
 rw[Int.toNat_natCast,List.getD_eq_getElem?_getD,List.getElem?_eq_getElem h]
 rfl
theorem wo (t:Int) {l:List Int} {ls:List (List Int)} (hn:l.length≤9223372036854775807) (hs:ls.length≤9223372036854775807) (hl:∀y∈ls,y.length≤9223372036854775807):Ev (fun k=>ka.f k t l ls) (vv t l ls):=by
 unfold ka.f
 have key:∀i,i≤ls.length→Ev (fun k=>ka.l0 k (i:Int) t l ls) (sF t l&&(decide (ls.length≤10)&&(ls.drop i).all (sF t))):=by
  apply down
  ·refine Ev.step (fun k=>rfl) (jO (by omega) (Ev.bind (zp t hn) ?_))
   rw[List.drop_length,List.all_nil,Bool.and_true]
   cases sF t l with
   |false=>exact wW (Ev.now _)
   |true=>
    refine rE (qq (Ev.now _) ?_)
    rw[Bool.true_and]
    exact decide_eq_decide.2 (by omega)
  ·intro i hi ih
   refine Ev.step (fun k=>rfl) (jM (by omega) (jM (by omega) ?_))
   rw[vy hi,w1 hi hs]
   refine Ev.bind (zp t (hl _ (List.getElem_mem hi))) ?_
   rw[List.drop_eq_getElem_cons hi,List.all_cons]
   cases sF t ls[i]with
   |false=>exact wW (qq (Ev.now _) (by simp))
   |true=>
    refine rE (qq ih ?_)
    rw[Bool.true_and]
 have:=key 0 (Nat.zero_le _)
 rw[List.drop_zero]at this
 exact this
theorem zS (t:Int) {l:List Int} (hn:l.length≤9223372036854775807):Ev (fun k=>qz.f k t l) (sF t l):=by
 unfold qz.f sF
 refine Ev.bind (CR t hn) ?_
 cases h:rB t l with
 |false=>exact wW (Ev.now _)
 |true=>
  obtain⟨_,hl,hx,_⟩:=qc.1 h
  have:=(wu t).1
  refine rE (Ev.bind (Co (by omega) fun x hx'=>(hx x hx').1) (Ev.bind (AX (l:=si l) (m:=l) (by rw[vq];omega)) (qq (Ev.now _) ?_)))
  rw[Bool.true_and]
theorem Ej (t:Int):∀(ls:List (List Int)),(∀y∈ls,y.length≤9223372036854775807)→∀i:Int,0≤i→∃r,Ev (fun k=>Hof.yL (qf.no k t) ls i) r∧decide (0≤r)= !ls.all (sF t):=by
 intro ls
 induction ls with
 |nil=>exact fun _ i _=>⟨-1,Ev.now _,rfl⟩
 |cons y ys ih=>
  intro hl i hi
  have hy:=zS t (hl y List.mem_cons_self)
  have hno:Ev (fun k=>qf.no k t y) (!sF t y):=Ev.bind hy (Ev.now _)
  cases e:sF t y with
  |true=>
   rw[e]at hno
   obtain⟨r,h1,h2⟩:=ih (fun z hz=>hl z (List.mem_cons_of_mem _ hz)) (i+1) (by omega)
   refine⟨r,Ev.bind hno (wW h1),?_⟩
   rw[h2,List.all_cons,e,Bool.true_and]
  |false=>
   rw[e]at hno
   refine⟨i,Ev.bind hno (rE (Ev.now _)),?_⟩
   rw[List.all_cons,e,decide_eq_true hi]
   rfl
theorem CX (t:Int) {l:List Int} {ls:List (List Int)} (hn:l.length≤9223372036854775807) (hl:∀y∈ls,y.length≤9223372036854775807):Ev (fun k=>qf.f k t l ls) (vv t l ls):=by
 unfold qf.f vv
 refine Ev.bind (zS t hn) ?_
 cases sF t l with
 |false=>exact wW (Ev.now _)
 |true=>
  refine rE ?_
  by_cases h:ls.length≤10
  ·obtain⟨r,h1,h2⟩:=Ej t ls hl 0 (by omega)
   refine jM (by omega) (Ev.bind (Ev.bind h1 (Ev.now _)) (qq (Ev.now _) ?_))
   rw[h2,decide_eq_true h,Bool.true_and,Bool.true_and,Bool.not_not]
  ·refine jO (by omega) (qq (Ev.now _) ?_)
   rw[decide_eq_false h]
   rfl
theorem xY (t:Int) {l:List Int} {ls:List (List Int)} (hn:l.length≤100) (hs:ls.length≤100) (hl:∀y∈ls,y.length≤100):Ev (fun k=>ko.f k t l ls) (t,l,ls):=by
 unfold ko.f
 have key:∀i:Nat,i≤ls.length→Ev (fun k=>ko.l0 k (i:Int) t l ls t l (ls.take i)) (t,l,ls):=by
  apply down
  ·refine Ev.step (fun k=>rfl) (jO (by omega) (qq (Ev.now _) ?_))
   rw[List.take_length]
  ·intro i hi ih
   have hy:=hl _ (List.getElem_mem hi)
   refine Ev.step (fun k=>rfl) (jM (by omega) (kg rfl (jM (by omega) (jM (by rw[vy hi];simp only[List.length_nil];omega) (jM (by rw[List.length_take];omega) ?_)))))
   rw[vy hi,w1 hi (by omega),List.nil_append]
   rw[List.take_succ_eq_append_getElem hi]at ih
   exact ih
 refine kg rfl (jM (by simp only[List.length_nil];omega) ?_)
 rw[List.nil_append]
 exact key 0 (Nat.zero_le _)
theorem zq:∀{l:List Int},l≠ []→∃x∈l,∀y∈l,x≤y
 | [],h=>absurd rfl h
 | [x],_=>⟨x,List.mem_singleton.2 rfl,fun y hy=>by rw[List.mem_singleton.1 hy];exact Int.le_refl _⟩
 |x::z::l,_=>by
  obtain⟨m,hm,h⟩:=zq (l:=z::l) (by simp)
  by_cases hx:x≤m
  ·refine⟨x,List.mem_cons_self,fun y hy=>?_⟩
   rcases List.mem_cons.1 hy with rfl|hy
   ·exact Int.le_refl _
   ·exact Int.le_trans hx (h y hy)
  ·refine⟨m,List.mem_cons_of_mem _ hm,fun y hy=>?_⟩
   rcases List.mem_cons.1 hy with rfl|hy
   ·omega
   ·exact h y hy
theorem As {t:Int} {l:List Int} (h:rB t l=true) (F:Nat):rB t (si (raise l F))=true:=by
 obtain⟨ht,hl,hx,h0⟩:=qc.1 h
 have h8:=wu t
 have hn:∀y∈raise l F,0≤y:=fun y hy=>by obtain⟨x,h1,h2⟩:=xJ hy;have:=hx x h1;omega
 have hlen:(raise l F).length=wn t:=by rw[sj];exact hl
 refine qc.2 ⟨ht,by rw[vq];exact hlen,fun y hy=>?_,?_⟩
 ·obtain⟨x,hx1,rfl⟩:=yo.1 hy
  have:=zD hx1 (hn x hx1)
  omega
 ·obtain⟨x,hx1,hx2⟩:=zq (l:=raise l F) (by intro e;rw[e]at hlen;simp at hlen;omega)
  refine yo.2 ⟨x,hx1,?_⟩
  rw[DU (fun y hy _=>hx2 y hy)]
  rfl
theorem zr {t:Int} {l:List Int} (h:rB t l=true) (a:Int) (s:Nat):sF t (zE l a s)=true:=by
 unfold sF zE
 have hx:=(qc.1 h).2.2.1
 rw[As h,AV (fun y hy=>by obtain⟨x,h1,h2⟩:=xJ hy;have:=hx x h1;omega),decide_eq_true rfl]
 rfl
theorem rR {t:Int} {l:List Int}:sF t l=true↔rB t l=true∧si l=l:=by
 unfold sF
 rw[Bool.and_eq_true,decide_eq_true_iff]
theorem EZ {x y:List Int} (hl:x.length=y.length) (hn:x.length≤100):∀i,i≤x.length→Ev (fun k=>kJ.l0 k x y (i:Int)) (decide (x.drop i=y.drop i)):=by
 apply down
 ·refine Ev.step (fun k=>rfl) (jO (by omega) (qq (Ev.now _) ?_))
  rw[List.drop_length,List.drop_of_length_le (by omega)]
  exact(decide_eq_true rfl).symm
 ·intro i hi ih
  refine Ev.step (fun k=>rfl) (jM (by omega) (jM (by omega) (jM (by omega) ?_)))
  rw[ss hi,ss (by omega),List.drop_eq_getElem_cons hi,List.drop_eq_getElem_cons (l:=y) (by omega)]
  by_cases e:x[i]=y[i]
  ·refine jM e ?_
   rw[w1 hi (by omega)]
   refine qq ih (decide_eq_decide.2 ?_)
   rw[List.cons.injEq]
   exact⟨fun h=>⟨e,h⟩,fun h=>h.2⟩
  ·refine jO e (qq (Ev.now _) ?_)
   rw[decide_eq_false (fun h=>e (List.cons.inj h).1)]
theorem Au {t:Int} {x y:List Int} (hx:rB t x=true) (hy:rB t y=true):Ev (fun k=>kJ.f k t x y) (decide (si x=si y)):=by
 have lx:=(qc.1 hx).2.1
 have ly:=(qc.1 hy).2.1
 have h8:=wu t
 have rx:=wS t (l:=x) (by omega)
 have ry:=wS t (l:=y) (by omega)
 rw[hx]at rx
 rw[hy]at ry
 unfold kJ.f
 refine Ev.bind rx (rE (Ev.bind ry ?_))
 refine Ev.step (f:=fun k=>if(!true)=true then(some false)else((jP.f k t x).bind fun JJ=>((jP.f k t y).bind fun JK=>(kJ.l0 k JJ JK 0)))) (fun k=>rfl) (jO (by decide) (Ev.bind (xu hx) (Ev.bind (xu hy) ?_)))
 exact EZ (by rw[vq,vq,lx,ly]) (by rw[vq];omega) 0 (Nat.zero_le _)
theorem Av {t:Int} {l:List Int} (h:rB t l=true) {v:Int} (h0:0≤v) (h1:v≤all t) {a:Int} (ha:a=0∨a=1):Ev (fun k=>oG.f k t l a v) (if v=0 then([],false)else(zE l a v.toNat,true)):=by
 obtain⟨ht,hl,hx,_⟩:=qc.1 h
 have h8:=wu t
 have r:=wS t (l:=l) (by omega)
 rw[h]at r
 have hs:DX t v=true:=decide_eq_true ⟨ht,h0,h1⟩
 have Kk:=xv t
 unfold oG.f
 refine Ev.bind r (rE (kg (AZ t v) ?_))
 rw[hs]
 refine rE ?_
 by_cases e:v=0
 ·rw[if_pos e]
  exact jM e (Ev.step (f:=fun _=>some ((([]:List Int)),false)) (fun k=>rfl) (Ev.now _))
 ·rw[if_neg e]
  refine jO e (kg (wE _ _ _) ?_)
  rw[decide_eq_true (by omega)]
  obtain⟨n,rfl⟩:=Int.eq_ofNat_of_zero_le h0
  rw[Int.toNat_natCast]
  refine Ev.step (f:=fun k=>if(!true)=true then(some ((([]:List Int)),false))else(if a=0 then((kv.f k l (n:Int)).bind fun JL=>((oz.f k l JL).bind fun JM=>(some (JM,true))))else((oz.f k l (n:Int)).bind fun JN=>(some (JN,true))))) (fun k=>rfl) (jO (by decide) ?_)
  unfold zE
  by_cases a0:a=0
  ·rw[if_pos a0]
   exact jM a0 (Ev.bind (wy (by omega) n) (Ev.bind (zN (by omega) hx _) (Ev.now _)))
  ·rw[if_neg a0]
   exact jO a0 (Ev.bind (zN (by omega) hx n) (Ev.now _))
/-! ### copies -/
theorem vO (t:Int) {l:List Int} {ls:List (List Int)} (hn:l.length≤100) (hs:ls.length≤100) (hl:∀y∈ls,y.length≤100):Ev (fun k=>jU.f k t l ls) (t,l,ls):=by
 unfold jU.f
 refine kg rfl (jM (by show 0+l.length<_;omega) ?_)
 rw[List.nil_append]
 have key:∀i,i≤ls.length→Ev (fun k=>jU.l0 k ls (ls.length:Int) (i:Int) t l (ls.take i)) (t,l,ls):=by
  apply down
  ·refine Ev.step (fun k=>rfl) (jO (by omega) (qq (Ev.now _) ?_))
   rw[List.take_length]
  ·intro i hi ih
   have:=hl _ (List.getElem_mem hi)
   refine Ev.step (fun k=>rfl) (jM (by omega) (jM (by omega) (jM (by omega) (kg rfl (jM (by rw[vy hi];show 0+ls[i].length<_;omega) (jM (by rw[List.length_take];omega) ?_))))))
   rw[vy hi,w1 hi (by omega),List.nil_append]
   rw[List.take_succ_eq_append_getElem hi]at ih
   exact ih
 exact key 0 (Nat.zero_le _)
theorem yh {α:Type} {l:List α} {y:α} (h:y∈l.dropLast):y∈l:=by rw[List.dropLast_eq_take]at h;exact List.mem_of_mem_take h
/-! ### deeds -/
def xg (t:Int) (l:List Int) (ls:List (List Int)):Int×List Int×List (List Int)×Bool:=(t,l,ls,false)
/-- A row more of before; the first one is gone if there are too many. -/
def push (l:List Int) (ls:List (List Int)):List (List Int):=if ls.length+1>10 then(ls++ [l]).drop 1 else ls++ [l]
def Fa (t:Int) (l:List Int) (ls:List (List Int)) (a:Int) (s:ByteArray):Int×List Int×List (List Int)×Bool:=
 if a=2∧s.size=0 then(if ls= []then xg t l ls else(t,ls.getLastD [],ls.dropLast,true))
 else if a=0∨a=1 then
  (if(holds t s).2=true then(if(holds t s).1=0 then xg t l ls else(if zE l a (holds t s).1.toNat=l then xg t l ls else(t,zE l a (holds t s).1.toNat,push l ls,true)))else xg t l ls)
 else xg t l ls
theorem vm {t:Int} {l:List Int} {ls:List (List Int)}:vv t l ls=true↔sF t l=true∧ls.length≤10∧∀y∈ls,sF t y=true:=by
 unfold vv
 rw[Bool.and_eq_true,Bool.and_eq_true,decide_eq_true_iff,List.all_eq_true]
theorem Cz {ls:List (List Int)} (h:ls≠ []):qi ls (wrap64 ((ls.length:Int) - 1))=ls.getLastD []∧wrap64 ((ls.length:Int) - 1)=((ls.length - 1:Nat):Int)∧ls.take (wrap64 ((ls.length:Int) - 1)).toNat=ls.dropLast∨¬ls.length≤100:=by
 by_cases hn:ls.length≤100
 ·left
  have hp:0<ls.length:=List.length_pos_iff.2 h
  have e:wrap64 ((ls.length:Int) - 1)=((ls.length - 1:Nat):Int):=by rw[xn (by omega) (by omega)];omega
  refine⟨?_,e,?_⟩
  ·rw[e,vy (by omega),List.getLastD_eq_getLast?,List.getLast?_eq_getElem?,List.getElem?_eq_getElem (by omega)]
   rfl
  ·rw[e,Int.toNat_natCast,List.dropLast_eq_take]
 ·exact Or.inr hn
theorem isNil (a:Int) (s:ByteArray):(a==2&&(s.toList==([]:List UInt8)))=true↔a=2∧s.size=0:=by
 rw[Bool.and_eq_true,beq_iff_eq,beq_iff_eq,xo]
set_option maxHeartbeats 1000000 in
theorem zt {t:Int} {l:List Int} {ls:List (List Int)} (hm:vv t l ls=true) (a:Int) (s:ByteArray):Ev (fun k=>ke.f k t l ls a s) (Fa t l ls a s):=by
 obtain⟨htl,h9,hls⟩:=vm.1 hm
 obtain⟨hr,_⟩:=rR.1 htl
 obtain⟨ht,hl,hx,_⟩:=qc.1 hr
 have h8:=(wu t).1
 have hlen:∀y∈ls,y.length≤100:=fun y hy=>by
  have:=(qc.1 (rR.1 (hls y hy)).1).2.1
  omega
 have hc:=vO t (l:=l) (ls:=ls) (by omega) (by omega) hlen
 unfold ke.f Fa
 refine Ev.bind hc ?_
 by_cases hb:a=2∧s.size=0
 ·rw[if_pos hb]
  refine jM ((isNil a s).2 hb) ?_
  by_cases he:ls= []
  ·rw[if_pos he]
   subst he
   exact jM (show wrap64 (((([]:List (List Int)).length:Nat):Int) - 1)<0 by decide+kernel) (Ev.now _)
  ·rw[if_neg he]
   have hp:0<ls.length:=List.length_pos_iff.2 he
   obtain⟨r1,r2,r3⟩:=(Cz he).resolve_right (fun k=>k (by omega))
   have hlast:ls.getLastD []∈ls:=by rw[List.getLastD_eq_getLast?,List.getLast?_eq_some_getLast he];exact List.getLast_mem he
   have hc2:=vO t (l:=ls.getLastD []) (ls:=ls.dropLast) (hlen _ hlast) (by rw[List.length_dropLast];omega) (fun y hy=>hlen y (yh hy))
   refine jO (by dsimp only;rw[r2];omega) (jM (by dsimp only;rw[r2];omega) (jM (by dsimp only;rw[r2];omega) (jM (by dsimp only;rw[r2];omega) ?_)))
   dsimp only
   rw[r1,r3]
   exact Ev.bind hc2 (Ev.now _)
 ·rw[if_neg hb]
  refine jO (fun k=>hb ((isNil a s).1 k)) ?_
  have no:Ev (fun k=>ke.j0 k true t l ls a s t l ls) (xg t l ls):=Ev.step (f:=fun _=>some (t,l,ls,false)) (fun k=>rfl) (Ev.now _)
  have GZ:∀v:Int,Ev (fun k=>ke.j1 k v true t l ls a s t l ls) (xg t l ls):=fun v=>Ev.step (f:=fun _=>some (t,l,ls,false)) (fun k=>rfl) (Ev.now _)
  have go:a=0∨a=1→Ev (fun k=>ke.j0 k false t l ls a s t l ls) (if(holds t s).2=true then(if(holds t s).1=0 then xg t l ls else(if zE l a (holds t s).1.toNat=l then xg t l ls else(t,zE l a (holds t s).1.toNat,push l ls,true)))else xg t l ls):=by
   intro ha
   refine Ev.step (f:=fun k=>(oF.f k t s).bind fun CA=>(if CA.2=true then(ke.j1 k CA.1 (CA.1==0) t l ls a s t l ls)else(ke.j1 k CA.1 true t l ls a s t l ls))) (fun k=>rfl) (Ev.bind (sx t s) ?_)
   by_cases h2:(holds t s).2=true
   ·rw[if_pos h2]
    refine jM h2 ?_
    have eh:holds t s=((holds t s).1,true):=by rw[←h2]
    obtain⟨_,v0,v1⟩:=wK eh
    obtain⟨v,ev⟩:=Int.eq_ofNat_of_zero_le v0
    have hv2:v<2^wn t:=by have:=xr ht;omega
    rw[ev,Int.toNat_natCast]
    by_cases e0:(v:Int)=0
    ·rw[if_pos e0,show((v:Int)==0)=true from by rw[e0];rfl]
     exact GZ _
    ·rw[if_neg e0,show((v:Int)==0)=false from beq_eq_false_iff_ne.2 e0]
     have hq:=zr hr a v
     have hql:(zE l a v).length≤100:=by have:=(qc.1 (rR.1 hq).1).2.1;omega
     have two:Ev (fun k=>ke.j2 k (v:Int) a t l ls t l ls) (if zE l a v=l then xg t l ls else(t,zE l a v,push l ls,true)):=by
      refine Ev.step (f:=fun k=>(kt.f k t l a (v:Int)).bind fun Gn=>((kf.f k Gn l).bind fun JO=>(if JO=true then(some (t,l,ls,false))else(if ls.length<5864062014805 then((some (ls++ [l]:List (List Int))).bind fun Fb=>(if(Fb.length:Int)>10 then(if 1≤(Fb.length:Int)then((jU.f k t Gn (Fb.drop (1:Int).toNat)).bind fun zu=>(some (zu.1,zu.2.1,zu.2.2,true)))else(none))else((jU.f k t Gn Fb).bind fun zu=>(some (zu.1,zu.2.1,zu.2.2,true)))))else(none))))) (fun k=>rfl) (Ev.bind (BB ht hl hx hv2 a) (Ev.bind (AX (by omega)) ?_))
      by_cases e:zE l a v=l
      ·rw[if_pos e]
       exact jM (decide_eq_true e) (Ev.now _)
      ·rw[if_neg e]
       have hall:∀y∈ls++ [l],y.length≤100:=fun y hy=>by
        rcases List.mem_append.1 hy with hy|hy
        ·exact hlen y hy
        ·rw[List.mem_singleton.1 hy];omega
       have hln:(ls++ [l]).length=ls.length+1:=by rw[List.length_append,List.length_singleton]
       refine jO (by rw[decide_eq_false e];decide) (jM (by omega) (kg rfl ?_))
       unfold push
       by_cases h10:ls.length+1>10
       ·rw[if_pos h10]
        have hc3:=vO t (l:=zE l a v) (ls:=(ls++ [l]).drop 1) hql (by rw[List.length_drop];omega) (fun y hy=>hall y (List.mem_of_mem_drop hy))
        exact jM (by rw[hln];omega) (jM (by rw[hln];omega) (Ev.bind hc3 (Ev.now _)))
       ·rw[if_neg h10]
        have hc3:=vO t (l:=zE l a v) (ls:=ls++ [l]) hql (by omega) hall
        exact jO (by rw[hln];omega) (Ev.bind hc3 (Ev.now _))
     refine Ev.step (f:=fun k=>if a=1 then(ke.j2 k (v:Int) 1 t l ls t l ls)else(ke.j2 k (v:Int) 0 t l ls t l ls)) (fun k=>rfl) ?_
     rcases ha with rfl|rfl
     ·exact jO (by decide) two
     ·exact jM rfl two
   ·rw[if_neg h2]
    exact jO h2 (GZ _)
  by_cases a0:a=0
  ·rw[if_pos (Or.inl a0)]
   exact jM a0 (go (Or.inl a0))
  ·refine jO a0 ?_
   by_cases a1:a=1
   ·rw[if_pos (Or.inr a1),show(a !=1)=false from by rw[a1];rfl]
    exact go (Or.inr a1)
   ·rw[if_neg (by omega),show(a !=1)=true from bne_iff_ne.2 a1]
    exact no
theorem Ek {l:List Int} {ls:List (List Int)} (h:ls.length≤10):(push l ls).length≤10:=by
 unfold push
 split
 ·rw[List.length_drop,List.length_append,List.length_singleton];omega
 ·rw[List.length_append,List.length_singleton];omega
theorem El {l y:List Int} {ls:List (List Int)} (h:y∈push l ls):y∈ls∨y=l:=by
 have:y∈ls++ [l]:=by
  unfold push at h
  split at h
  ·exact List.mem_of_mem_drop h
  ·exact h
 rcases List.mem_append.1 this with k|k
 ·exact Or.inl k
 ·exact Or.inr (List.mem_singleton.1 k)
theorem Gp {t:Int} {l:List Int} {ls:List (List Int)} (hm:vv t l ls=true) (a:Int) (s:ByteArray):vv (Fa t l ls a s).1 (Fa t l ls a s).2.1 (Fa t l ls a s).2.2.1=true:=by
 obtain⟨htl,h10,hls⟩:=vm.1 hm
 unfold Fa
 have no:vv (xg t l ls).1 (xg t l ls).2.1 (xg t l ls).2.2.1=true:=hm
 split
 ·split
  ·exact no
  ·rename_i he
   have hlast:ls.getLastD []∈ls:=by rw[List.getLastD_eq_getLast?,List.getLast?_eq_some_getLast he];exact List.getLast_mem he
   exact vm.2 ⟨hls _ hlast,by rw[List.length_dropLast];omega,fun y hy=>hls y (yh hy)⟩
 ·split
  ·split
   ·split
    ·exact no
    ·split
     ·exact no
     ·exact vm.2 ⟨zr (rR.1 htl).1 _ _,Ek h10,fun y hy=>(El hy).elim (hls y) (fun e=>e▸htl)⟩
   ·exact no
  ·exact no
theorem yi {n:Nat} (h:n≤10):(num n).size≤5:=by
 have:∀m:Nat,m<11→(num m).size≤5:=by decide+kernel
 exact this n (by omega)
/-! ### the ranks' text -/
def texts (l:List Int):List ByteArray:=l.map fun x=>num x.toNat
def jn:ByteArray→List Int→ByteArray
 |c,[]=>c
 |c,x::r=>jn ((c++(⟨#[44]⟩:ByteArray))++num x.toNat) r
theorem CB:∀(r:List Int) (c:ByteArray),(jn c r).toList=c.toList++Lib.joinTail [44] ((texts r).map (·.data.toList))
 | [],c=>by simp[jn,texts,Lib.joinTail]
 |x::r,c=>by
  unfold jn
  rw[CB r,xc,xc,toList_data (num x.toNat),show(⟨#[44]⟩:ByteArray).toList= [44] from by decide+kernel]
  simp[texts,Lib.joinTail]
theorem CC:∀(r:List Int) (c:ByteArray),(∀x∈r,x.toNat≤10)→(jn c r).size≤c.size+6*r.length
 | [],c,_=>by simp[jn]
 |x::r,c,h=>by
  unfold jn
  have h1:=CC r ((c++(⟨#[44]⟩:ByteArray))++num x.toNat) (fun y hy=>h y (List.mem_cons_of_mem _ hy))
  have h2:=yi (h x List.mem_cons_self)
  rw[ByteArray.size_append,ByteArray.size_append,show(⟨#[44]⟩:ByteArray).size=1 from rfl]at h1
  rw[List.length_cons]
  omega
theorem BP {x:Int} {r:List Int} (h:∀y∈x::r,y.toNat≤10) (hr:r.length≤8):strings_Join.f (texts (x::r)) (⟨#[44]⟩:ByteArray)=some (jn (num x.toNat) r):=by
 have e:Lib.join ((texts (x::r)).map (·.data.toList)) (⟨#[44]⟩:ByteArray).data.toList=(jn (num x.toNat) r).toList:=by
  rw[CB]
  show Lib.join ((num x.toNat).data.toList::(texts r).map (·.data.toList)) [44]=_
  rw[Lib.join_cons,toList_data]
 have hs:=CC r (num x.toNat) (fun y hy=>h y (List.mem_cons_of_mem _ hy))
 have hn:=yi (h x List.mem_cons_self)
 unfold strings_Join.f
 rw[e,pY,if_pos (by simp[texts];omega),if_pos (by omega)]
 refine congrArg some (ext_list ?_)
 rw[toList_data]
theorem Bf {l:List Int} (hl:l.length≤8) (hx:∀x∈l,0≤x∧x≤9) {r:ByteArray} (hj:strings_Join.f (texts l) (⟨#[44]⟩:ByteArray)=some r):Ev (fun k=>kN.l0 k ([]:List ByteArray) l (l.length:Int) 0) r:=by
 have key:∀i,i≤l.length→Ev (fun k=>kN.l0 k ((texts l).take i) l (l.length:Int) (i:Int)) r:=by
  apply down
  ·rw[List.take_of_length_le (by simp[texts])]
   exact Ev.step (fun k=>rfl) (jO (by omega) (kg hj (Ev.now _)))
  ·intro i hi ih
   have hm:=hx _ (DT hi)
   have e:texts l=texts l:=rfl
   have ht:(texts l).take (i+1)=(texts l).take i++ [num (rd l (i:Int)).toNat]:=by
    have hi':i<(texts l).length:=by simp[texts];exact hi
    rw[List.take_succ_eq_append_getElem hi',ss hi]
    simp[texts]
   rw[ht]at ih
   have hn:strconv_Itoa.f (rd l (i:Int))=some (num (rd l (i:Int)).toNat):=by
    have:=(xM (n:=(rd l (i:Int)).toNat) (by omega)).1
    rw[Int.toNat_of_nonneg hm.1]at this
    exact this
   refine Ev.step (fun k=>rfl) (jM (by omega) (jM (by omega) (jM (by omega) (kg hn (jM ?_ ?_)))))
   ·rw[List.length_take]
    omega
   ·rw[w1 hi (by omega)]
    exact ih
 exact key 0 (Nat.zero_le _)
theorem yE {x:Int} (h0:0≤x) (h:x.toNat≤10):Ev (fun k=>kr.f k x) (num x.toNat):=by
 have:=xx h
 rw[Int.toNat_of_nonneg h0]at this
 exact this
theorem BQ {t:Int} {l:List Int} {ls:List (List Int)} {q:Int} {m:List Int} {ms:List (List Int)} (hl:l.length≤8) (hx:∀x∈l,0≤x∧x≤9):∀i,i≤l.length→∀c:ByteArray,c.size≤6*i→
  Ev (fun k=>jL.l0 k c (i:Int) t l ls q m ms) (q,m,ms,jn c (l.drop i)):=by
 apply down
 ·intro c _
  rw[List.drop_length]
  exact Ev.step (fun k=>rfl) (jO (by omega) (Ev.now _))
 ·intro i hi ih c hc
  have hm:=hx _ (DT hi)
  have hs:=yi (n:=(rd l (i:Int)).toNat) (by omega)
  have hc1:(c++(⟨#[44]⟩:ByteArray)).size=c.size+1:=by rw[ByteArray.size_append];rfl
  rw[List.drop_eq_getElem_cons hi,←ss hi]
  refine Ev.step (fun k=>rfl) (jM (by omega) (jM (by omega) (jM (by omega) (Ev.bind (yE hm.1 (by omega)) (jM (by omega) ?_)))))
  rw[w1 hi (by omega)]
  exact ih _ (by rw[ByteArray.size_append];omega)
/-! ### rules, yes and no -/
theorem Bg (b:Bool):∃r,sA.f b=some r∧sH.f b=some r:=by cases b<;>exact⟨_,rfl,rfl⟩
theorem CY (t:Int) {s:ByteArray} (hs:s.size≤1000000000):∃v:Int×Int×Bool,Ev (fun k=>qD.f k t s) v∧Ev (fun k=>jZ.f k t s) v∧(v=(0,0,false)∨∃a b:Nat,v=((a:Int),(b:Int),true)∧a≠0∧a≤all t∧b≤all t):=by
 rcases yq t (s:=s) (by omega)with⟨k,h1,h2,h3⟩|⟨h1,h2⟩
 ·refine⟨_,h3,yr t hs h1 h2,?_⟩
  rcases Ar t s k with e|⟨a,b,e,_,g1,g2,g3⟩
  ·exact Or.inl e
  ·exact Or.inr ⟨a,b,e,g1,g2,g3⟩
 ·exact⟨_,h2,xX t hs h1,Or.inl rfl⟩
/-! ### printable texts -/
def plain (s:ByteArray):Bool:=(List.range s.size).all fun(j:Nat)=>decide (32≤bt s (j:Int)∧bt s (j:Int)≤126)
def plainFrom (s:ByteArray) (i:Nat):Bool:=(List.range' i (s.size - i)).all fun(j:Nat)=>decide (32≤bt s (j:Int)∧bt s (j:Int)≤126)
theorem xS (s:ByteArray):plainFrom s s.size=true:=by unfold plainFrom;rw[Nat.sub_self];rfl
theorem xy (s:ByteArray) {i:Nat} (h:i<s.size):plainFrom s i=(decide (32≤bt s (i:Int)∧bt s (i:Int)≤126)&&plainFrom s (i+1)):=by
 unfold plainFrom
 rw[show s.size - i=(s.size - (i+1))+1 from by omega,List.range'_succ,List.all_cons]
theorem xT (s:ByteArray):plainFrom s 0=plain s:=by
 unfold plainFrom plain
 rw[Nat.sub_zero,List.range_eq_range']
theorem Bh {s:ByteArray} (hs:s.size≤9223372036854775807):Ev (fun k=>pF.f k s) (plain s&&decide (s.size≠0)):=by
 unfold pF.f
 rw[←xT]
 have key:∀i,i≤s.size→Ev (fun k=>pF.l0 k s (i:Int)) (plainFrom s i&&decide (s.size≠0)):=by
  apply down
  ·refine Ev.step (fun k=>rfl) (jO (by omega) (qq (Ev.now _) ?_))
   rw[xS,Bool.true_and]
   exact decide_eq_decide.2 (by omega)
  ·intro i hi ih
   refine Ev.step (fun k=>rfl) (jM (by omega) (jM (by omega) ?_))
   rw[xy s hi]
   by_cases h1:bt s (i:Int)<32
   ·rw[decide_eq_false (by omega)]
    exact jM h1 (Ev.now _)
   ·by_cases h2:bt s (i:Int)>126
    ·rw[decide_eq_false (by omega)]
     exact jO h1 (jM h2 (Ev.now _))
    ·rw[decide_eq_true (by omega),w1 hi hs]
     exact jO h1 (jO h2 ih)
 exact key 0 (Nat.zero_le _)
theorem zv {s:ByteArray} (hs:s.size≤9223372036854775807):Ev (fun k=>oy.f k s) (plain s):=by
 unfold oy.f
 rw[←xT]
 have key:∀i,i≤s.size→Ev (fun k=>oy.l0 k s (s.size:Int) (i:Int)) (plainFrom s i):=by
  apply down
  ·refine Ev.step (fun k=>rfl) (jO (by omega) (qq (Ev.now _) ?_))
   rw[xS]
  ·intro i hi ih
   refine Ev.step (fun k=>rfl) (jM (by omega) (jM (by omega) (jM (by omega) ?_)))
   rw[xy s hi]
   by_cases h1:bt s (i:Int)<32
   ·rw[decide_eq_false (by omega)]
    exact jM h1 (Ev.now _)
   ·by_cases h2:bt s (i:Int)>126
    ·rw[decide_eq_false (by omega)]
     exact jO h1 (jM h2 (Ev.now _))
    ·rw[decide_eq_true (by omega),w1 hi hs]
     exact jO h1 (jO h2 ih)
 exact key 0 (Nat.zero_le _)

/-! ### the text of a deed -/
def Aw:ByteArray:=⟨#[102,105,114,115,116,32]⟩
def Fc:ByteArray:=⟨#[97,108,108,32]⟩
def Em:ByteArray:=⟨#[98,97,99,107]⟩
def wq (kind:Int) (s:ByteArray):ByteArray:=
 if kind=2∧s.size=0 then Em else if plain s=true∧s.size≠0 then(if kind=0 then Aw++s else if kind=1 then Fc++s else⟨#[]⟩)else⟨#[]⟩
theorem zb (kind:Int) (s:ByteArray):(kind==2&&(s.toList==([]:List UInt8)))=true↔kind=2∧s.size=0:=by
 rw[Bool.and_eq_true,beq_iff_eq,beq_iff_eq,xo]
theorem CZ (s:ByteArray):((⟨#[102,105,114,115,116]⟩:ByteArray)++(⟨#[32]⟩:ByteArray))++s=Aw++s:=by congr 1
theorem Fe (s:ByteArray):((⟨#[97,108,108]⟩:ByteArray)++(⟨#[32]⟩:ByteArray))++s=Fc++s:=by congr 1
theorem yt (kind:Int) {s:ByteArray} (hs:s.size≤9223372036854775000):Ev (fun k=>kT.f k kind s) (wq kind s):=by
 unfold kT.f wq
 refine kg (wE _ _ _) ?_
 have off:(¬(plain s=true∧s.size≠0)∨(kind≠0∧kind≠1))→Ev (fun k=>kT.j0 k false kind s) (if kind=2∧s.size=0 then Em else if plain s=true∧s.size≠0 then(if kind=0 then Aw++s else if kind=1 then Fc++s else⟨#[]⟩)else⟨#[]⟩):=by
  intro h
  refine Ev.step (fun k=>rfl) ?_
  simp only[kT.j0]
  refine jO Bool.false_ne_true ?_
  by_cases h2:kind=2∧s.size=0
  ·rw[if_pos h2]
   exact jM ((zb kind s).2 h2) (Ev.now _)
  ·rw[if_neg h2]
   refine jO (fun x=>h2 ((zb kind s).1 x)) (qq (Ev.now _) ?_)
   rcases h with h|h
   ·rw[if_neg h]
   ·rw[if_neg h.1,if_neg h.2,ite_self]
 by_cases h:0≤kind∧kind≤1
 ·refine jM (decide_eq_true h) (Ev.bind (Bh (by omega)) ?_)
  by_cases hp:plain s=true∧s.size≠0
  ·rw[hp.1,decide_eq_true hp.2,if_neg (by omega),if_pos ⟨rfl,hp.2⟩]
   refine Ev.step (fun k=>rfl) ?_
   simp only[kT.j0]
   have hk:kind=0∨kind=1:=by omega
   rcases hk with rfl|rfl
   ·exact jM rfl (kg rfl (jM (by omega) (jM (by decide) (jM (by decide) (jM (by rw[ByteArray.size_append];show 6+s.size≤_;omega) (qq (Ev.now _) (CZ s)))))))
   ·exact jM rfl (kg rfl (jM (by omega) (jM (by decide) (jM (by decide) (jM (by rw[ByteArray.size_append];show 4+s.size≤_;omega) (qq (Ev.now _) (Fe s)))))))
  ·have e:(plain s&&decide (s.size≠0))=false:=by
    rw[Bool.eq_false_iff]
    intro x
    rw[Bool.and_eq_true,decide_eq_true_iff]at x
    exact hp x
   rw[e]
   exact off (Or.inl hp)
 ·exact jO (by rw[decide_eq_false h];decide) (off (Or.inr (by omega)))
theorem sl (kind:Int) {s:ByteArray} (hs:s.size≤9223372036854775000):Ev (fun k=>lh.f k kind s) (wq kind s):=by
 unfold lh.f wq
 by_cases h2:kind=2∧s.size=0
 ·rw[if_pos h2]
  exact jM ((zb kind s).2 h2) (Ev.now _)
 rw[if_neg h2]
 refine jO (fun x=>h2 ((zb kind s).1 x)) ?_
 by_cases h0:s.size=0
 ·rw[if_neg (fun x=>x.2 h0)]
  refine jM ((xo s).2 h0) (Ev.step (fun k=>rfl) ?_)
  simp only[lh.j0]
  exact jM trivial (Ev.now _)
 ·refine jO (fun x=>h0 ((xo s).1 x)) (Ev.bind (zv (by omega)) ?_)
  cases hp:plain s with
  |false=>
   rw[if_neg (fun x=>Bool.false_ne_true x.1)]
   refine Ev.step (fun k=>rfl) ?_
   simp only[lh.j0,Bool.not_false]
   exact jM trivial (Ev.now _)
  |true=>
   rw[if_pos ⟨rfl,h0⟩]
   refine Ev.step (fun k=>rfl) ?_
   simp only[lh.j0,Bool.not_true]
   refine jO Bool.false_ne_true ?_
   by_cases k0:kind=0
   ·exact jM k0 (jM (by omega) (qq (Ev.now _) (if_pos k0).symm))
   ·refine jO k0 ?_
    by_cases k1:kind=1
    ·exact jM k1 (jM (by omega) (qq (Ev.now _) ((if_neg k0).trans (if_pos k1)).symm))
    ·exact jO k1 (qq (Ev.now _) ((if_neg k0).trans (if_neg k1)).symm)
/-! ### bytes as lists -/
theorem Ff (l:List UInt8):(⟨l.toArray⟩:ByteArray).toList=l:=by rw[toList_data]
/-- The place of a byte: the first one, or nowhere. -/
theorem yN (l:List UInt8) (c:UInt8):(Lib.indexByte l c= -1∧c∉l)∨∃(a b:List UInt8),l=a++c::b∧c∉a∧Lib.indexByte l c=(a.length:Int):=by
 induction l with
 |nil=>exact Or.inl ⟨rfl,by simp⟩
 |cons x l ih=>
  unfold Lib.indexByte
  by_cases hx:(x==c)=true
  ·rw[if_pos hx]
   exact Or.inr ⟨[],l,by rw[beq_iff_eq.1 hx];rfl,by simp,rfl⟩
  ·rw[if_neg hx]
   have Kl:c≠x:=fun e=>hx (by rw[e];exact beq_self_eq_true x)
   rcases ih with⟨h1,h2⟩|⟨a,b,h1,h2,h3⟩
   ·rw[h1,if_pos (by decide)]
    exact Or.inl ⟨rfl,by rw[List.mem_cons];rintro(h|h);exact Kl h;exact h2 h⟩
   ·rw[h3,if_neg (by rw[beq_iff_eq];omega)]
    exact Or.inr ⟨x::a,b,by rw[h1];rfl,by rw[List.mem_cons];rintro(h|h);exact Kl h;exact h2 h,by rw[List.length_cons];omega⟩
/-- A text cut at the first byte c. -/
theorem zT (s:ByteArray) (c:UInt8) (hs:s.size<9223372036854775807):
  (strings_Cut.f s ⟨#[c]⟩=some (s,(⟨#[]⟩:ByteArray),false)∧c∉s.toList)∨
  ∃a b:ByteArray,strings_Cut.f s ⟨#[c]⟩=some (a,b,true)∧s.toList=a.toList++c::b.toList∧c∉a.toList:=by
 have hbt:bt (⟨#[c]⟩:ByteArray) 0=(c.toNat:Int):=rfl
 have key:∀i:Int,stringslite_Index.f s ⟨#[c]⟩=some i→i=Lib.indexByte s.toList c→((strings_Cut.f s ⟨#[c]⟩=some (s,(⟨#[]⟩:ByteArray),false)∧c∉s.toList)∨
  ∃a b:ByteArray,strings_Cut.f s ⟨#[c]⟩=some (a,b,true)∧s.toList=a.toList++c::b.toList∧c∉a.toList):=by
  intro i hi hv
  unfold strings_Cut.f stringslite_Cut.f
  rw[hi,Option.bind_some]
  rcases yN s.toList c with⟨h1,h2⟩|⟨a,b,h1,h2,h3⟩
  ·rw[hv,h1,if_pos (by decide)]
   exact Or.inl ⟨rfl,h2⟩
  ·have hl:a.length+(b.length+1)=s.size:=by rw[←pY,h1,List.length_append,List.length_cons]
   rw[hv,h3,if_neg (by omega),Int.toNat_natCast,if_pos (by show a.length+1≤s.size;omega)]
   refine Or.inr ⟨_,_,rfl,?_,?_⟩
   ·rw[wm,List.drop_zero,Nat.sub_zero,vt,h1,List.take_left]
    congr 1
    show c::b=c::(a++c::b).drop (a.length+1)
    rw[List.drop_append,List.drop_of_length_le (by omega),show a.length+1 - a.length=1 from by omega]
    rfl
   ·rw[wm,List.drop_zero,Nat.sub_zero,h1,List.take_left]
    exact h2
 unfold stringslite_Index.f at key
 rw[if_pos (show(⟨#[c]⟩:ByteArray).size=1 from rfl),if_pos hs]at key
 by_cases he:((⟨#[c]⟩:ByteArray).toList==s.toList)=true
 ·rw[if_pos he]at key
  refine key 0 rfl ?_
  have:s.toList= [c]:=by rw[←beq_iff_eq.1 he];exact Ff [c]
  rw[this]
  show(0:Int)=if c==c then 0 else _
  rw[if_pos (beq_self_eq_true c)]
 ·rw[if_neg he]at key
  refine key _ rfl ?_
  show Lib.indexByte s.data.toList ((bt (⟨#[c]⟩:ByteArray) 0).toNat.toUInt8)=_
  rw[hbt,Int.toNat_natCast,toList_data]
  congr 1
  simp

/-! ### the deed of a text -/
def wO (s:ByteArray):Int×ByteArray×Bool:=
 if s.toList= [98,97,99,107]then(2,(⟨#[]⟩:ByteArray),true)
 else if[102,105,114,115,116,32]<+:s.toList∧plain (s.extract 6 s.size)=true∧6<s.size then(0,s.extract 6 s.size,true)
 else if[97,108,108,32]<+:s.toList∧plain (s.extract 4 s.size)=true∧4<s.size then(1,s.extract 4 s.size,true)
 else(0,(⟨#[]⟩:ByteArray),false)
theorem Da:Em.toList= [98,97,99,107]:=by decide+kernel
theorem BR:Aw.toList= [102,105,114,115,116,32]:=by decide+kernel
theorem En:Fc.toList= [97,108,108,32]:=by decide+kernel
theorem yj:(⟨#[]⟩:ByteArray).toList= []:=by decide+kernel
theorem zw {p:List UInt8} {s:ByteArray} (h:p<+:s.toList):s.toList=p++(s.extract p.length s.size).toList:=by
 obtain⟨t,ht⟩:=h
 rw[vt,←ht,List.drop_left]
theorem extract_size (s:ByteArray) {i:Nat} (_:i≤s.size):(s.extract i s.size).size=s.size - i:=by rw[←pY,vt,List.length_drop,pY]
/-- When the text of a deed with a sentence is a text. -/
theorem yu (s t:ByteArray):(wq 0 t).toList=s.toList↔(s.toList= [102,105,114,115,116,32]++t.toList∧plain t=true∧t.size≠0)∨(¬(plain t=true∧t.size≠0)∧s.toList= []):=by
 unfold wq
 rw[if_neg (by omega)]
 by_cases h:plain t=true∧t.size≠0
 ·rw[if_pos h,if_pos rfl,xc,BR]
  exact⟨fun k=>Or.inl ⟨k.symm,h⟩,fun k=>k.elim (fun k=>k.1.symm) (fun k=>absurd h k.1)⟩
 ·rw[if_neg h,yj]
  exact⟨fun k=>Or.inr ⟨h,k.symm⟩,fun k=>k.elim (fun k=>absurd k.2 h) (fun k=>k.2.symm)⟩
theorem zx (s t:ByteArray):(wq 1 t).toList=s.toList↔(s.toList= [97,108,108,32]++t.toList∧plain t=true∧t.size≠0)∨(¬(plain t=true∧t.size≠0)∧s.toList= []):=by
 unfold wq
 rw[if_neg (by omega)]
 by_cases h:plain t=true∧t.size≠0
 ·rw[if_pos h,if_neg (by omega),if_pos rfl,xc,En]
  exact⟨fun k=>Or.inl ⟨k.symm,h⟩,fun k=>k.elim (fun k=>k.1.symm) (fun k=>absurd h k.1)⟩
 ·rw[if_neg h,yj]
  exact⟨fun k=>Or.inr ⟨h,k.symm⟩,fun k=>k.elim (fun k=>absurd k.2 h) (fun k=>k.2.symm)⟩
theorem yF {s t:ByteArray} (h:s.toList= [102,105,114,115,116,32]++t.toList) (hp:plain t=true) (h0:t.size≠0):wO s=(0,t,true):=by
 have e:s.extract 6 s.size=t:=ext_list (by rw[vt,h];rfl)
 have hl:s.size=6+t.size:=by rw[←pY,h,List.length_append,pY];rfl
 unfold wO
 rw[if_neg (by rw[h];intro k;injection k with k _;exact absurd k (by decide)),if_pos ⟨⟨t.toList,h.symm⟩,by rw[e];exact hp,by omega⟩,e]
theorem zU {s t:ByteArray} (h:s.toList= [97,108,108,32]++t.toList) (hp:plain t=true) (h0:t.size≠0):wO s=(1,t,true):=by
 have e:s.extract 4 s.size=t:=ext_list (by rw[vt,h];rfl)
 have hl:s.size=4+t.size:=by rw[←pY,h,List.length_append,pY];rfl
 unfold wO
 rw[if_neg (by rw[h];intro k;injection k with k _;exact absurd k (by decide)),
  if_neg (fun k=>by obtain⟨⟨u,hu⟩,_⟩:=k;rw[h]at hu;injection hu with hu _;exact absurd hu (by decide)),
  if_pos ⟨⟨t.toList,h.symm⟩,by rw[e];exact hp,by omega⟩,e]
theorem zy {s:ByteArray} (h:s.toList= [98,97,99,107]):wO s=(2,(⟨#[]⟩:ByteArray),true):=by unfold wO;rw[if_pos h]
theorem vn {s:ByteArray} (h1:s.toList≠ [98,97,99,107]) (h2:∀t:ByteArray,s.toList= [102,105,114,115,116,32]++t.toList→¬(plain t=true∧t.size≠0))
  (h3:∀t:ByteArray,s.toList= [97,108,108,32]++t.toList→¬(plain t=true∧t.size≠0)):wO s=(0,(⟨#[]⟩:ByteArray),false):=by
 unfold wO
 rw[if_neg h1,if_neg (fun k=>h2 _ (zw k.1) ⟨k.2.1,by show(s.extract 6 s.size).size≠0;rw[extract_size s (by omega)];omega⟩),
  if_neg (fun k=>h3 _ (zw k.1) ⟨k.2.1,by show(s.extract 4 s.size).size≠0;rw[extract_size s (by omega)];omega⟩)]
/-- Each text: what its deed is. -/
theorem Bi (s:ByteArray):(s.toList= [98,97,99,107]∧wO s=(2,(⟨#[]⟩:ByteArray),true))∨
  (∃t:ByteArray,s.toList= [102,105,114,115,116,32]++t.toList∧plain t=true∧t.size≠0∧wO s=(0,t,true))∨
  (∃t:ByteArray,s.toList= [97,108,108,32]++t.toList∧plain t=true∧t.size≠0∧wO s=(1,t,true))∨
  (s.toList≠ [98,97,99,107]∧(∀t:ByteArray,s.toList= [102,105,114,115,116,32]++t.toList→¬(plain t=true∧t.size≠0))∧(∀t:ByteArray,s.toList= [97,108,108,32]++t.toList→¬(plain t=true∧t.size≠0))∧wO s=(0,(⟨#[]⟩:ByteArray),false)):=by
 by_cases h1:s.toList= [98,97,99,107]
 ·exact Or.inl ⟨h1,zy h1⟩
 by_cases h2:∃t:ByteArray,s.toList= [102,105,114,115,116,32]++t.toList∧plain t=true∧t.size≠0
 ·obtain⟨t,a,b,c⟩:=h2
  exact Or.inr (Or.inl ⟨t,a,b,c,yF a b c⟩)
 by_cases h3:∃t:ByteArray,s.toList= [97,108,108,32]++t.toList∧plain t=true∧t.size≠0
 ·obtain⟨t,a,b,c⟩:=h3
  exact Or.inr (Or.inr (Or.inl ⟨t,a,b,c,zU a b c⟩))
 have k2:∀t:ByteArray,s.toList= [102,105,114,115,116,32]++t.toList→¬(plain t=true∧t.size≠0):=fun t a b=>h2 ⟨t,a,b⟩
 have k3:∀t:ByteArray,s.toList= [97,108,108,32]++t.toList→¬(plain t=true∧t.size≠0):=fun t a b=>h3 ⟨t,a,b⟩
 exact Or.inr (Or.inr (Or.inr ⟨h1,k2,k3,vn h1 k2 k3⟩))
theorem xZ {c:UInt8}:∀{a a' b b':List UInt8},c∉a→c∉a'→a++c::b=a'++c::b'→a=a'
 | [],[],_,_,_,_,_=>rfl
 | [],y::a',_,_,_,h2,e=>by injection e with e _;exact absurd (by rw[e];exact List.mem_cons_self) h2
 |x::a,[],_,_,h1,_,e=>by injection e with e _;exact absurd (by rw[←e];exact List.mem_cons_self) h1
 |x::a,y::a',_,_,h1,h2,e=>by
  injection e with e1 e2
  rw[e1,xZ (fun k=>h1 (List.mem_cons_of_mem _ k)) (fun k=>h2 (List.mem_cons_of_mem _ k)) e2]
theorem Ax (t:ByteArray) (h:t.size=0):(wq 2 t).toList= [98,97,99,107]:=by unfold wq;rw[if_pos ⟨rfl,h⟩,Da]
theorem Fg (t:ByteArray) (h:t.size≠0):(wq 2 t).toList= []:=by
 unfold wq
 rw[if_neg (fun k=>h k.2)]
 split
 ·rw[if_neg (by omega),if_neg (by omega),yj]
 ·exact yj
theorem yv {s:ByteArray} (hs:s.size≤9223372036854774000):Ev (fun k=>rq.f k s) (wO s):=by
 unfold rq.f
 rcases zT s 32 (by omega)with⟨hc,hn⟩|⟨a,b,hc,hl,hn⟩
 ·refine kg hc ?_
  show Ev (fun k=>if s.toList=_ then _ else _) _
  have n1:∀t:ByteArray,s.toList≠ [102,105,114,115,116,32]++t.toList:=fun t e=>hn (by rw[e];simp)
  have n2:∀t:ByteArray,s.toList≠ [97,108,108,32]++t.toList:=fun t e=>hn (by rw[e];simp)
  by_cases h1:s.toList= [102,105,114,115,116]
  ·refine jM h1 (Ev.bind (sl 0 (s:=⟨#[]⟩) (by decide)) (jO ?_ ?_))
   ·show¬(wq 0 (⟨#[]⟩:ByteArray)).toList=s.toList
    rw[yu]
    rintro(⟨e,_⟩|⟨_,e⟩)
    ·exact n1 _ e
    ·rw[h1]at e;cases e
   ·rw[vn (by rw[h1];decide) (fun t e=>absurd e (n1 t)) (fun t e=>absurd e (n2 t))]
    exact Ev.now _
  refine jO h1 ?_
  by_cases h2:s.toList= [97,108,108]
  ·refine jM h2 (Ev.bind (sl 1 (s:=⟨#[]⟩) (by decide)) (jO ?_ ?_))
   ·show¬(wq 1 (⟨#[]⟩:ByteArray)).toList=s.toList
    rw[zx]
    rintro(⟨e,_⟩|⟨_,e⟩)
    ·exact n2 _ e
    ·rw[h2]at e;cases e
   ·rw[vn (by rw[h2];decide) (fun t e=>absurd e (n1 t)) (fun t e=>absurd e (n2 t))]
    exact Ev.now _
  refine jO h2 ?_
  by_cases h3:s.toList= [98,97,99,107]
  ·refine jM h3 (Ev.bind (sl 2 (s:=⟨#[]⟩) (by decide)) (jM ?_ ?_))
   ·show(wq 2 (⟨#[]⟩:ByteArray)).toList=s.toList
    rw[Ax _ rfl,h3]
   ·rw[zy h3]
    exact Ev.now _
  refine jO h3 ?_
  rw[vn h3 (fun t e=>absurd e (n1 t)) (fun t e=>absurd e (n2 t))]
  exact Ev.now _
 ·refine kg hc ?_
  show Ev (fun k=>if a.toList=_ then _ else _) _
  have hbs:b.size≤9223372036854775000:=by
   have:=congrArg List.length hl
   rw[List.length_append,List.length_cons,pY,pY,pY]at this
   omega
  have nb:s.toList≠ [98,97,99,107]:=fun e=>by
   have:(32:UInt8)∈s.toList:=by rw[hl];simp
   rw[e]at this
   revert this
   decide
  by_cases h1:a.toList= [102,105,114,115,116]
  ·have hl1:s.toList= [102,105,114,115,116,32]++b.toList:=by rw[hl,h1];rfl
   refine jM h1 (Ev.bind (sl 0 hbs) ?_)
   by_cases hp:plain b=true∧b.size≠0
   ·rw[yF hl1 hp.1 hp.2]
    exact jM ((yu s b).2 (Or.inl ⟨hl1,hp⟩)) (Ev.now _)
   ·refine jO (fun k=>?_) ?_
    ·rcases(yu s b).1 k with k|k
     ·exact hp k.2
     ·rw[hl1]at k;cases k.2
    ·rw[vn nb (fun t e k=>hp (by
      have:t=b:=ext_list (List.append_cancel_left (e.symm.trans hl1))
      rwa [this]at k)) (fun t e=>by rw[hl1]at e;injection e with e _;exact absurd e (by decide))]
     exact Ev.now _
  refine jO h1 ?_
  by_cases h2:a.toList= [97,108,108]
  ·have hl1:s.toList= [97,108,108,32]++b.toList:=by rw[hl,h2];rfl
   refine jM h2 (Ev.bind (sl 1 hbs) ?_)
   by_cases hp:plain b=true∧b.size≠0
   ·rw[zU hl1 hp.1 hp.2]
    exact jM ((zx s b).2 (Or.inl ⟨hl1,hp⟩)) (Ev.now _)
   ·refine jO (fun k=>?_) ?_
    ·rcases(zx s b).1 k with k|k
     ·exact hp k.2
     ·rw[hl1]at k;cases k.2
    ·rw[vn nb (fun t e=>by rw[hl1]at e;injection e with e _;exact absurd e (by decide)) (fun t e k=>hp (by
      have:t=b:=ext_list (List.append_cancel_left (e.symm.trans hl1))
      rwa [this]at k))]
     exact Ev.now _
  refine jO h2 ?_
  have n1:∀t:ByteArray,s.toList≠ [102,105,114,115,116,32]++t.toList:=fun t e=>by
   have e2:a.toList++32::b.toList= [102,105,114,115,116]++32::t.toList:=hl.symm.trans e
   exact h1 (xZ hn (by decide) e2)
  have n2:∀t:ByteArray,s.toList≠ [97,108,108,32]++t.toList:=fun t e=>by
   have e2:a.toList++32::b.toList= [97,108,108]++32::t.toList:=hl.symm.trans e
   exact h2 (xZ hn (by decide) e2)
  by_cases h3:a.toList= [98,97,99,107]
  ·refine jM h3 (Ev.bind (sl 2 hbs) (jO (fun k=>?_) ?_))
   ·have hk:(wq 2 b).toList=s.toList:=k
    by_cases hb0:b.size=0
    ·rw[Ax b hb0]at hk;exact nb hk.symm
    ·rw[Fg b hb0,hl]at hk;simp at hk
   ·rw[vn nb (fun t e=>absurd e (n1 t)) (fun t e=>absurd e (n2 t))]
    exact Ev.now _
  refine jO h3 ?_
  rw[vn nb (fun t e=>absurd e (n1 t)) (fun t e=>absurd e (n2 t))]
  exact Ev.now _
theorem yk {α:Type} {c:Prop} [Decidable c] {g:Nat→Option α} {r:α} (h:Ev g r):Ev (fun n=>if c then g n else g n) r:=by
 by_cases k:c
 ·exact jM k h
 ·exact jO k h
def what:ByteArray:=⟨#[119,104,97,116]⟩
def FE (k:Nat) (t:Int) (l:List Int) (c:Int) (a b:ByteArray):Option ByteArray:=
 if a.toList=([110,111,114,109,97,108,108,121]:List UInt8)then((qD.f k t b).bind fun v=>(if v.2.2=true then((qk.f k t l v.1 v.2.1).bind fun x=>((sA.f x).bind fun y=>(some y)))else(some (⟨#[119,104,97,116]⟩:ByteArray))))else((oF.f k t b).bind fun h=>(if h.2=true then(if a.toList=([98,101,108,105,101,118,101]:List UInt8)then((sA.f ((Go.bits .andNot .i64 c h.1)==0)).bind fun y=>(some y))else(if a.toList=([102,105,114,109]:List UInt8)then((rF.f k t l h.1).bind fun x=>((strconv_Itoa.f x).bind fun y=>(some y)))else(if a.toList=([103,105,118,101]:List UInt8)then((rQ.f k t l h.1).bind fun x=>((kd.f k t x).bind fun y=>(some y)))else(if a.toList=([117,112,100,97,116,101]:List UInt8)then((kI.f k t c h.1).bind fun x=>((kd.f k t x).bind fun y=>(some y)))else(if a.toList=([110,101,97,114]:List UInt8)then((oM.f k t c h.1).bind fun x=>((kd.f k t x).bind fun y=>(some y)))else(some (⟨#[119,104,97,116]⟩:ByteArray)))))))else(some (⟨#[119,104,97,116]⟩:ByteArray))))
def Eo (k:Nat) (t:Int) (l:List Int) (ls:List (List Int)) (q:Int) (m:List Int) (ms:List (List Int)) (c:Int) (a b:ByteArray):Option (Int×List Int×(List (List Int))×ByteArray):=
 (kQ.f k t b).bind fun h=>((jZ.f k t b).bind fun v=>(if a.toList=([98,101,108,105,101,118,101]:List UInt8)then(jL.j3 k c a h.1 h.2 v.2.2 h.2 t l ls q m ms v.1 v.2.1)else(jL.j3 k c a h.1 h.2 v.2.2 false t l ls q m ms v.1 v.2.1)))
section
variable {t:Int} {l:List Int} {ls:List (List Int)} {q:Int} {m:List Int} {ms:List (List Int)} {c x ra rb:Int} {a b s:ByteArray} {ok r9:Bool} {R:Int×List Int×(List (List Int))×ByteArray}
theorem Ep (n:a.toList= [110,111,114,109,97,108,108,121]) (h:Ev (fun k=>jL.j8 k r9 t l ls q m ms ra rb) R):Ev (fun k=>jL.j3 k c a x ok r9 false t l ls q m ms ra rb) R:=
 Ev.step (fun _=>rfl) (jO (by rw[n];decide) (Ev.step (fun _=>rfl) (jO (by rw[n];decide) (Ev.step (fun _=>rfl) (jO (by rw[n];decide) (Ev.step (fun _=>rfl) (jO (by rw[n];decide) (Ev.step (fun _=>rfl) (jM n h)))))))))
theorem JP (n:a.toList≠ [110,111,114,109,97,108,108,121]):Ev (fun k=>jL.j3 k c a x false r9 false t l ls q m ms ra rb) (q,m,ms,what):=
 Ev.step (fun _=>rfl) (yk (Ev.step (fun _=>rfl) (yk (Ev.step (fun _=>rfl) (yk (Ev.step (fun _=>rfl) (yk (Ev.step (fun _=>rfl) (jO n (Ev.step (fun _=>rfl) (Ev.now _)))))))))))
theorem Gq (n:a.toList≠ [110,111,114,109,97,108,108,121]) (n1:a.toList≠ [102,105,114,109]) (n2:a.toList≠ [103,105,118,101]) (n3:a.toList≠ [117,112,100,97,116,101]) (n4:a.toList≠ [110,101,97,114]):Ev (fun k=>jL.j3 k c a x ok r9 false t l ls q m ms ra rb) (q,m,ms,what):=
 Ev.step (fun _=>rfl) (jO n1 (Ev.step (fun _=>rfl) (jO n2 (Ev.step (fun _=>rfl) (jO n3 (Ev.step (fun _=>rfl) (jO n4 (Ev.step (fun _=>rfl) (jO n (Ev.step (fun _=>rfl) (Ev.now _)))))))))))
theorem BS (hr:rB t l=true) (a:ByteArray) {b:ByteArray} (hb:b.size≤1048576):∃r,Ev (fun k=>FE k t l ((qH l (all t):Nat):Int) a b) r∧∀q m ms,Ev (fun k=>Eo k t l ls q m ms ((qH l (all t):Nat):Int) a b) (q,m,ms,r):=by
 obtain⟨v,ri,rs,rc⟩:=CY t (s:=b) (by omega)
 have hi:=sx t b
 have hs:=vx t b
 obtain⟨x,ok,hh⟩:∃x ok,holds t b=(x,ok):=⟨_,_,rfl⟩
 rw[hh]at hi hs
 unfold FE Eo
 by_cases n:a.toList= [110,111,114,109,97,108,108,121]
 ·have nb:a.toList≠ [98,101,108,105,101,118,101]:=by rw[n];decide
  rcases rc with rfl|⟨A,B,rfl,g0,g1,g2⟩
  ·exact⟨_,jM n (Ev.bind ri (jO Bool.false_ne_true (Ev.now _))),fun q m ms=>Ev.bind hs (Ev.bind rs (jO nb (Ep n (Ev.step (fun _=>rfl) (Ev.now _)))))⟩
  ·obtain⟨y,y1,y2⟩:=Bg (decide (qH l A&&& B=qH l A))
   exact⟨y,jM n (Ev.bind ri (jM rfl (Ev.bind (BH hr g1) (kg y1 (Ev.now _))))),fun q m ms=>Ev.bind hs (Ev.bind rs (jO nb (Ep n (Ev.step (fun _=>rfl) (Ev.bind (BI hr g0 g1 g2) (kg y2 (Ev.now _)))))))⟩
 ·cases ok with
  |false=>exact⟨_,jO n (Ev.bind hi (jO Bool.false_ne_true (Ev.now _))),fun q m ms=>Ev.bind hs (Ev.bind rs (yk (JP n)))⟩
  |true=>
   obtain⟨ht,h0,h1⟩:=wK hh
   obtain⟨s,rfl⟩:=Int.eq_ofNat_of_zero_le h0
   have hx:s≤all t:=by omega
   have hc:qH l (all t)≤all t:=rZ ht (qc.1 hr).2.1 _
   by_cases n0:a.toList= [98,101,108,105,101,118,101]
   ·obtain⟨y,y1,y2⟩:=Bg (decide (qH l (all t)&&& s=qH l (all t)))
    exact⟨y,jO n (Ev.bind hi (jM rfl (jM n0 (kg (by rw[Bc (big (vz hc))];exact y1) (Ev.now _))))),fun q m ms=>Ev.bind hs (Ev.bind rs (jM n0 (Ev.step (fun _=>rfl) (Ev.bind (xH (vz hc)) (kg (by rw[Cv];exact y2) (Ev.now _))))))⟩
   ·by_cases n1:a.toList= [102,105,114,109]
    ·obtain⟨z,ez,hz⟩:=Ed hr (all t^^^s)
     have f1:=Bd hr hx
     have f2:=zH hr hx
     rw[ez]at f1 f2
     exact⟨_,jO n (Ev.bind hi (jM rfl (jO n0 (jM n1 (Ev.bind f1 (kg (xM hz).1 (Ev.now _))))))),fun q m ms=>Ev.bind hs (Ev.bind rs (jO n0 (Ev.step (fun _=>rfl) (jM n1 (Ev.step (fun _=>rfl) (Ev.bind f2 (Ev.bind (xx hz) (Ev.now _))))))))⟩
    ·by_cases n2:a.toList= [103,105,118,101]
     ·have hg:=Ee hr s
      exact⟨_,jO n (Ev.bind hi (jM rfl (jO n0 (jO n1 (jM n2 (Ev.bind (BJ hr hx) (Ev.bind (wF ht hg) (Ev.now _)))))))),fun q m ms=>Ev.bind hs (Ev.bind rs (jO n0 (Ev.step (fun _=>rfl) (jO n1 (Ev.step (fun _=>rfl) (jM n2 (Ev.step (fun _=>rfl) (Ev.bind (BL hr hx) (Ev.bind (wH ht hg) (Ev.now _))))))))))⟩
     ·by_cases n3:a.toList= [117,112,100,97,116,101]
      ·have hg:=EU ht (a:=qH l (all t)) hx
       exact⟨_,jO n (Ev.bind hi (jM rfl (jO n0 (jO n1 (jO n2 (jM n3 (Ev.bind (Ap ht hc hx) (Ev.bind (wF ht hg) (Ev.now _))))))))),fun q m ms=>Ev.bind hs (Ev.bind rs (jO n0 (Ev.step (fun _=>rfl) (jO n1 (Ev.step (fun _=>rfl) (jO n2 (Ev.step (fun _=>rfl) (jM n3 (Ev.step (fun _=>rfl) (Ev.bind (Aq ht hc hx) (Ev.bind (wH ht hg) (Ev.now _))))))))))))⟩
      ·by_cases n4:a.toList= [110,101,97,114]
       ·have hg:=za ht hc hx
        exact⟨_,jO n (Ev.bind hi (jM rfl (jO n0 (jO n1 (jO n2 (jO n3 (jM n4 (Ev.bind (Ao ht hc hx) (Ev.bind (wF ht hg) (Ev.now _)))))))))),fun q m ms=>Ev.bind hs (Ev.bind rs (jO n0 (Ev.step (fun _=>rfl) (jO n1 (Ev.step (fun _=>rfl) (jO n2 (Ev.step (fun _=>rfl) (jO n3 (Ev.step (fun _=>rfl) (jM n4 (Ev.step (fun _=>rfl) (Ev.bind (yg ht hc hx) (Ev.bind (wH ht hg) (Ev.now _))))))))))))))⟩
       ·exact⟨what,jO n (Ev.bind hi (jM rfl (jO n0 (jO n1 (jO n2 (jO n3 (jO n4 (Ev.now _)))))))),fun q m ms=>Ev.bind hs (Ev.bind rs (jO n0 (Gq n n1 n2 n3 n4)))⟩
/-! ### where the first space is -/
theorem FF {p:Nat} (hp:p≤s.size) (hs:s.size≤1048576) (hn:∀j:Nat,j<p→bt s (j:Int)≠32) (he:p=s.size∨bt s (p:Int)=32) (h:Ev (fun k=>jL.j2 k s c (p:Int) t l ls q m ms) R):Ev (fun k=>jL.l1 k s c 0 t l ls q m ms) R:=by
 have key:∀i,i≤p→Ev (fun k=>jL.l1 k s c (i:Int) t l ls q m ms) R:=by
  apply down
  ·by_cases e:p=s.size
   ·exact Ev.step (fun _=>rfl) (jO (by omega) h)
   ·exact Ev.step (fun _=>rfl) (jM (by omega) (jM (by omega) (jM (he.resolve_left e) h)))
  ·intro i hi ih
   refine Ev.step (fun _=>rfl) (jM (by omega) (jM (by omega) (jO (hn i hi) ?_)))
   rw[w1 (n:=s.size) (by omega) (by omega)]
   exact ih
 exact key 0 (Nat.zero_le _)
theorem Gr {p:Nat} (h:p=s.size):Ev (fun k=>jL.j2 k s c ((p:Nat):Int) t l ls q m ms) (q,m,ms,what):=Ev.step (fun _=>rfl) (jM (by omega) (Ev.now _))
theorem Ir {p:Nat} (hp:p<s.size) (hs:s.size≤1048576) (ha:s.extract 0 p=a) (hb:s.extract (p+1) s.size=b) (h:Ev (fun k=>Eo k t l ls q m ms c a b) R):Ev (fun k=>jL.j2 k s c (p:Int) t l ls q m ms) R:=by
 refine Ev.step (fun _=>rfl) (jO (by omega) (jM (by omega) (jM (by omega) ?_)))
 rw[w1 (n:=s.size) (by omega) (by omega),Int.toNat_natCast,Int.toNat_natCast,ha,hb]
 exact jM (by omega) (jM (by omega) h)
theorem BT (hr:rB t l=true) (hls:ls.length≤10) (hs:s.size≤1048576):∃r,Ev (fun k=>kN.f k t l ls s) r∧∀q m ms,Ev (fun k=>(rD.f k t l).bind fun c=>(if s.toList=([99,111,114,101]:List UInt8)then((ks.f k t c).bind fun x=>(some (q,m,ms,x)))else(if s.toList=([114,97,110,107,115]:List UInt8)then(if 0<(l.length:Int)then((kr.f k (rd l 0)).bind fun x=>(jL.l0 k x 1 t l ls q m ms))else(none))else(if s.toList=([112,97,115,116]:List UInt8)then((kr.f k (ls.length:Int)).bind fun x=>(some (q,m,ms,x)))else(jL.l1 k s c 0 t l ls q m ms))))) (q,m,ms,r):=by
 obtain⟨ht,hl,hx,h0⟩:=qc.1 hr
 have h8:=len8 hr
 have hc:qH l (all t)≤all t:=rZ ht hl _
 have ci:=zP hr
 have cs:=CW hr
 by_cases n1:s.toList= [99,111,114,101]
 ·exact⟨_,kg ci (jM n1 (Ev.bind (wF ht hc) (Ev.now _))),fun q m ms=>Ev.bind cs (jM n1 (Ev.bind (wH ht hc) (Ev.now _)))⟩
 ·by_cases n2:s.toList= [114,97,110,107,115]
  ·cases l with
   |nil=>cases h0
   |cons x r=>
    have hy:∀y∈x::r,y.toNat≤10:=fun y hy=>by have:=hx y hy;omega
    have hj:=BP hy (by rw[List.length_cons]at h8;omega)
    have hx0:=hx x List.mem_cons_self
    refine⟨_,kg ci (jO n1 (jM n2 (Bf h8 hx hj))),fun q m ms=>Ev.bind cs (jO n1 (jM n2 (jM (by rw[List.length_cons];omega) (Ev.bind (yE (x:=rd (x::r) 0) hx0.1 (hy x List.mem_cons_self)) ?_))))⟩
    exact BQ h8 hx 1 (by rw[List.length_cons];omega) (num x.toNat) (Nat.le_trans (yi (hy x List.mem_cons_self)) (by decide))
  ·by_cases n3:s.toList= [112,97,115,116]
   ·exact⟨_,kg ci (jO n1 (jO n2 (jM n3 (kg (xM hls).1 (Ev.now _))))),fun q m ms=>Ev.bind cs (jO n1 (jO n2 (jM n3 (Ev.bind (xx hls) (Ev.now _)))))⟩
   ·have CD:∀{j:Nat} {d:List UInt8},j<d.length→d<+:s.toList→32∉d→bt s (j:Int)≠32:=by
     intro j d hj hp hn e
     have hjs:j<s.size:=by rw[←pY];exact Nat.lt_of_lt_of_le hj hp.length_le
     rw[yp s hjs]at e
     have e2:s.toList[j]'(by rw[pY];exact hjs)=32:=UInt8.toNat_inj.1 (by have:(32:UInt8).toNat=32:=rfl;omega)
     rw[←hp.getElem hj]at e2
     exact hn (e2▸List.getElem_mem hj)
    rcases zT s 32 (by omega)with⟨hk,hn⟩|⟨a,b,hk,he,hn⟩
    ·refine⟨what,kg ci (jO n1 (jO n2 (jO n3 (kg hk (jO Bool.false_ne_true (Ev.now _)))))),fun q m ms=>Ev.bind cs (jO n1 (jO n2 (jO n3 (FF (Nat.le_refl _) hs ?_ (Or.inl rfl) (Gr rfl)))))⟩
     exact fun j hj=>CD (d:=s.toList) (by rw[pY];exact hj) (List.prefix_refl _) hn
    ·have hz:a.size+(b.size+1)=s.size:=by rw[←pY s,he,List.length_append,List.length_cons,pY,pY]
     have hp:a.size<s.size:=by omega
     obtain⟨r,g1,g2⟩:=BS (ls:=ls) hr a (b:=b) (by omega)
     refine⟨r,kg ci (jO n1 (jO n2 (jO n3 (kg hk (jM rfl g1))))),fun q m ms=>Ev.bind cs (jO n1 (jO n2 (jO n3 (FF (p:=a.size) (by omega) hs ?_ (Or.inr ?_) (Ir hp hs ?_ ?_ (g2 q m ms))))))⟩
     ·exact fun j hj=>CD (d:=a.toList) (by rw[pY];exact hj) ⟨_,he.symm⟩ hn
     ·rw[yp s hp]
      have:s.toList[a.size]?=some 32:=by rw[he,List.getElem?_append_right (by rw[pY];omega),pY,Nat.sub_self];rfl
      rw[List.getElem?_eq_getElem (by rw[pY];exact hp)]at this
      rw[Option.some.inj this]
      rfl
     ·apply ext_list
      rw[wm,he,List.drop_zero,Nat.sub_zero,←pY a,List.take_left']
      rfl
     ·apply ext_list
      rw[vt,he,←pY a,←List.drop_drop,List.drop_left']
      ·rfl
      ·rfl
end
set_option maxHeartbeats 1000000 in
theorem zz {t:Int} {l:List Int} {ls:List (List Int)} (hn:l.length≤9223372036854775807) (hs:ls.length≤9223372036854775807) (hl:∀y∈ls,y.length≤9223372036854775807) (a:Int) (s:ByteArray):
  Ev (fun k=>ku.f k t l ls a s) (if vv t l ls=true then Fa t l ls a s else(0,[],[],false)):=by
 unfold ku.f
 refine Ev.bind (wo t hn hs hl) ?_
 by_cases hm:vv t l ls=true
 ·rw[if_pos hm]
  refine jM hm ?_
  obtain⟨htl,h9,hls⟩:=vm.1 hm
  obtain⟨hr,htd⟩:=rR.1 htl
  obtain⟨ht,hll,hx,_⟩:=qc.1 hr
  have h8:=(wu t).1
  have hlen:∀y∈ls,y.length≤100:=fun y hy=>by
   have:=(qc.1 (rR.1 (hls y hy)).1).2.1
   omega
  refine Ev.bind (xY t (by omega) (by omega) hlen) ?_
  unfold Fa
  have GZ:∀v:Int,Ev (fun k=>ku.j1 k v true t l ls a s t l ls) (xg t l ls):=fun v=>Ev.step (f:=fun _=>some (t,l,ls,false)) (fun k=>rfl) (Ev.now _)
  have go:Ev (fun k=>ku.j0 k false t l ls a s t l ls) (if a=0∨a=1 then(if(holds t s).2=true then(if(holds t s).1=0 then xg t l ls else(if zE l a (holds t s).1.toNat=l then xg t l ls else(t,zE l a (holds t s).1.toNat,push l ls,true)))else xg t l ls)else xg t l ls):=by
   refine Ev.step (f:=fun k=>(kQ.f k t s).bind fun Er=>(if Er.2=true then((qt.f a 0 1).bind fun JQ=>(ku.j1 k Er.1 (!JQ) t l ls a s t l ls))else(ku.j1 k Er.1 true t l ls a s t l ls))) (fun k=>rfl) (Ev.bind (vx t s) ?_)
   by_cases h2:(holds t s).2=true
   ·refine jM h2 (kg (wE _ _ _) ?_)
    by_cases ha:a=0∨a=1
    ·rw[if_pos ha,if_pos h2,decide_eq_true (by omega)]
     have eh:holds t s=((holds t s).1,true):=by rw[←h2]
     obtain⟨_,v0,v1⟩:=wK eh
     have hch:=Av hr v0 v1 ha
     obtain⟨v,ev⟩:=Int.eq_ofNat_of_zero_le v0
     rw[ev]at hch⊢
     rw[Int.toNat_natCast]at hch⊢
     have Km:∀q:List Int,Ev (fun k=>ku.j2 k q true t l ls) (xg t l ls):=fun q=>Ev.step (f:=fun _=>some (t,l,ls,false)) (fun k=>rfl) (Ev.now _)
     refine Ev.step (f:=fun k=>(oG.f k t l a (v:Int)).bind fun wN=>(if wN.2=true then((kJ.f k t wN.1 l).bind fun Gj=>(ku.j2 k wN.1 Gj t l ls))else(ku.j2 k wN.1 true t l ls))) (fun k=>rfl) (Ev.bind hch ?_)
     by_cases e0:(v:Int)=0
     ·rw[if_pos e0,if_pos e0]
      exact wW (Km _)
     ·rw[if_neg e0,if_neg e0]
      have hq:=zr hr a v
      obtain⟨hq1,hq2⟩:=rR.1 hq
      have hso:=Au hq1 hr
      rw[hq2,htd]at hso
      refine rE (Ev.bind hso ?_)
      by_cases e:zE l a v=l
      ·rw[if_pos e,decide_eq_true e]
       exact Km _
      ·rw[if_neg e,decide_eq_false e]
       refine Ev.step (f:=fun k=>if ls.length<5864062014805 then((some (ls++ [l]:List (List Int))).bind fun Gs=>(if(Gs.length:Int)>10 then(some (t,zE l a v,Gs.drop (1:Int).toNat,true))else(some (t,zE l a v,Gs,true))))else(none)) (fun k=>rfl) (jM (by omega) (kg rfl ?_))
       have hln:(ls++ [l]).length=ls.length+1:=by rw[List.length_append,List.length_singleton]
       unfold push
       by_cases h10:ls.length+1>10
       ·rw[if_pos h10]
        exact jM (by rw[hln];omega) (Ev.now _)
       ·rw[if_neg h10]
        exact jO (by rw[hln];omega) (Ev.now _)
    ·rw[if_neg ha,decide_eq_false (by omega)]
     exact GZ _
   ·refine jO h2 ?_
    by_cases ha:a=0∨a=1
    ·rw[if_pos ha,if_neg h2]
     exact GZ _
    ·rw[if_neg ha]
     exact GZ _
  by_cases hb:a=2∧s.size=0
  ·rw[if_pos hb]
   refine jM ((isNil a s).2 hb) ?_
   by_cases he:ls= []
   ·rw[if_pos he]
    rw[if_neg (by omega)]at go
    rw[show decide (((ls.length:Nat):Int)>0)=false from by rw[he];rfl]
    exact go
   ·rw[if_neg he]
    have hp:0<ls.length:=List.length_pos_iff.2 he
    obtain⟨r1,r2,r3⟩:=(Cz he).resolve_right (fun k=>k (by omega))
    rw[decide_eq_true (by omega)]
    refine Ev.step (f:=fun k=>if 0≤(wrap64 ((ls.length:Int) - 1))then(if(wrap64 ((ls.length:Int) - 1))<(ls.length:Int)then(some (t,qi ls (wrap64 ((ls.length:Int) - 1)),ls.take (wrap64 ((ls.length:Int) - 1)).toNat,true))else(none))else(none)) (fun k=>rfl) (jM (by rw[r2];omega) (jM (by rw[r2];omega) ?_))
    rw[r1,r3]
    exact Ev.now _
  ·rw[if_neg hb]
   exact jO (fun k=>hb ((isNil a s).1 k)) go
 ·rw[if_neg hm]
  exact jO hm (Ev.now _)
theorem Fh {l:List wB} {i:Nat} (h:i<l.length):vS l (i:Int)=l[i]:=by
 unfold vS
 rw[Int.toNat_natCast,List.getD_eq_getElem?_getD,List.getElem?_eq_getElem h]
 rfl
/-! ### the reference's search -/
def vu (s:ByteArray):List wB→Int×ByteArray×Bool
 | []=>(0,(⟨#[]⟩:ByteArray),false)
 |x::t=>if s.toList≠ []∧(wq x.f0 x.f1).toList=s.toList then(x.f0,x.f1,true)else vu s t
theorem Es (s:ByteArray) {L:List wB} (hL:L.length≤1000) (hs:∀x∈L,x.f1.size≤9223372036854774000):
  ∀i,i≤L.length→Ev (fun k=>jY.l0 k s L (i:Int)) (vu s (L.drop i)):=by
 apply down
 ·rw[List.drop_length]
  exact Ev.step (fun k=>rfl) (jO (by omega) (Ev.now _))
 ·intro i hi ih
  rw[List.drop_eq_getElem_cons hi]
  refine Ev.step (fun k=>rfl) (jM (by omega) ?_)
  by_cases h0:s.toList= []
  ·refine jM h0 ?_
   rw[w1 hi (by omega)]
   unfold vu
   rw[if_neg (fun k=>k.1 h0)]
   exact ih
  ·refine jO h0 (jM (by omega) ?_)
   rw[Fh hi]
   refine Ev.bind (yt _ (s:=L[i].f1) (by have:=hs _ (List.getElem_mem hi);omega)) ?_
   unfold vu
   by_cases hd:(wq L[i].f0 L[i].f1).toList=s.toList
   ·rw[if_pos ⟨h0,hd⟩]
    exact jM hd (Ev.now _)
   ·rw[if_neg (fun k=>hd k.2),w1 hi (by omega)]
    exact jO hd ih
def CE (s:ByteArray):List wB:=(⟨2,(⟨#[]⟩:ByteArray)⟩:wB)::((if 6<s.size then[(⟨0,s.extract 6 s.size⟩:wB)]else[])++(if 4<s.size then[(⟨1,s.extract 4 s.size⟩:wB)]else[]))
theorem Bj (s:ByteArray):vu s (CE s)=wO s:=by
 have f0:∀L:List wB,(∀x∈L,s.toList= []∨(wq x.f0 x.f1).toList≠s.toList)→vu s L=(0,(⟨#[]⟩:ByteArray),false):=by
  intro L h
  induction L with
  |nil=>rfl
  |cons x t ih=>
   unfold vu
   rw[if_neg (fun k=>by rcases h x List.mem_cons_self with h|h;exact k.1 h;exact h k.2)]
   exact ih (fun y hy=>h y (List.mem_cons_of_mem _ hy))
 have fb:s.toList≠ [98,97,99,107]→vu s (CE s)=vu s ((if 6<s.size then[(⟨0,s.extract 6 s.size⟩:wB)]else[])++(if 4<s.size then[(⟨1,s.extract 4 s.size⟩:wB)]else[])):=by
  intro h
  show(if _ then _ else _)=_
  rw[if_neg (fun k=>h (by rw[←k.2];exact Ax _ rfl))]
 rcases Bi s with⟨h,e⟩|⟨t,h,hp,h0,e⟩|⟨t,h,hp,h0,e⟩|⟨h1,h2,h3,e⟩
 ·rw[e]
  show(if _ then _ else _)=_
  rw[if_pos ⟨by rw[h];decide,by rw[h];exact Ax _ rfl⟩]
 ·have hl:s.size=6+t.size:=by rw[←pY,h,List.length_append,pY];rfl
  have ex:s.extract 6 s.size=t:=ext_list (by rw[vt,h];rfl)
  rw[e,fb (by rw[h];intro k;injection k with k _;exact absurd k (by decide)),if_pos (by omega),ex]
  show(if _ then _ else _)=_
  rw[if_pos ⟨by rw[h];simp,(yu s t).2 (Or.inl ⟨h,hp,h0⟩)⟩]
 ·have hl:s.size=4+t.size:=by rw[←pY,h,List.length_append,pY];rfl
  have ex:s.extract 4 s.size=t:=ext_list (by rw[vt,h];rfl)
  have n6:vu s ((if 6<s.size then[(⟨0,s.extract 6 s.size⟩:wB)]else[])++ [(⟨1,t⟩:wB)])=vu s [(⟨1,t⟩:wB)]:=by
   by_cases c:6<s.size
   ·rw[if_pos c]
    show(if _ then _ else _)=_
    rw[if_neg (fun k=>by
     rcases(yu s _).1 k.2 with⟨k,_⟩|⟨_,k⟩
     ·rw[h]at k;injection k with k _;exact absurd k (by decide)
     ·rw[h]at k;simp at k)]
    rfl
   ·rw[if_neg c];rfl
  rw[e,fb (by rw[h];intro k;injection k with k _;exact absurd k (by decide)),if_pos (c:=4<s.size) (by omega),ex,n6]
  show(if _ then _ else _)=_
  rw[if_pos ⟨by rw[h];simp,(zx s t).2 (Or.inl ⟨h,hp,h0⟩)⟩]
 ·rw[e,fb h1]
  apply f0
  intro x hx
  by_cases hs0:s.toList= []
  ·exact Or.inl hs0
  refine Or.inr fun k=>?_
  rcases List.mem_append.1 hx with hx|hx
  ·by_cases c:6<s.size
   ·rw[if_pos c]at hx
    rw[List.mem_singleton.1 hx]at k
    rcases(yu s _).1 k with⟨k,k2⟩|⟨_,k⟩
    ·exact h2 _ k k2
    ·exact hs0 k
   ·rw[if_neg c]at hx;simp at hx
  ·by_cases c:4<s.size
   ·rw[if_pos c]at hx
    rw[List.mem_singleton.1 hx]at k
    rcases(zx s _).1 k with⟨k,k2⟩|⟨_,k⟩
    ·exact h3 _ k k2
    ·exact hs0 k
   ·rw[if_neg c]at hx;simp at hx
theorem yw {s:ByteArray} (hs:s.size≤9223372036854774000):Ev (fun k=>jY.f k s) (wO s):=by
 have hx:∀i:Nat,(s.extract i s.size).size≤9223372036854774000:=fun i=>by rw[←pY,vt,List.length_drop,pY];omega
 rw[←Bj]
 have fin:∀L:List wB,L.length≤1000→(∀x∈L,x.f1.size≤9223372036854774000)→Ev (fun k=>jY.j1 k s L) (vu s L):=by
  intro L h1 h2
  refine Ev.step (fun k=>rfl) ?_
  simp only[jY.j1]
  exact Es s h1 h2 0 (Nat.zero_le _)
 unfold jY.f
 refine kg rfl ?_
 have go:∀L:List wB,L.length≤900→(∀x∈L,x.f1.size≤9223372036854774000)→Ev (fun k=>jY.j0 k s L) (vu s (L++(if 4<s.size then[(⟨1,s.extract 4 s.size⟩:wB)]else[]))):=by
  intro L h1 h2
  refine Ev.step (fun k=>rfl) ?_
  simp only[jY.j0]
  by_cases c:4<s.size
  ·rw[if_pos c]
   refine jM (by omega) (jM (by omega) (jM (by omega) (fin _ (by rw[List.length_append];exact Nat.add_le_add h1 (by decide:1≤100)) ?_)))
   intro x hm
   rcases List.mem_append.1 hm with hm|hm
   ·exact h2 x hm
   ·rw[List.mem_singleton.1 hm];exact hx 4
  ·rw[if_neg c,List.append_nil]
   exact jO (by omega) (fin _ (by omega) h2)
 by_cases c:6<s.size
 ·refine jM (by omega) (jM (by omega) (jM (by decide) ?_))
  have:=go ([(⟨2,(⟨#[]⟩:ByteArray)⟩:wB)]++ [(⟨0,s.extract 6 s.size⟩:wB)]) (by simp) (by
   intro x hm
   rcases List.mem_append.1 hm with hm|hm
   ·rw[List.mem_singleton.1 hm];exact(by decide:(0:Nat)≤9223372036854774000)
   ·rw[List.mem_singleton.1 hm];exact hx 6)
  unfold CE
  rw[if_pos c]
  exact this
 ·refine jO (by omega) ?_
  have:=go [(⟨2,(⟨#[]⟩:ByteArray)⟩:wB)] (by decide) (by
   intro x hm
   rw[List.mem_singleton.1 hm];exact(by decide:(0:Nat)≤9223372036854774000))
  unfold CE
  rw[if_neg c,List.nil_append]
  exact this
theorem Db {t:Int} {l:List Int} {ls:List (List Int)} (h:vv t l ls=true) {s:ByteArray} (hz:s.size≤1048576):
  ∃q m ms r,Ev (fun k=>rP.f k t l ls s) (q,m,ms,r)∧Ev (fun k=>jL.f k t l ls s) (q,m,ms,r)∧vv q m ms=true:=by
 obtain⟨o1,o2,o3⟩:=vm.1 h
 have l1:=len8 (rR.1 o1).1
 have l3:∀y∈ls,y.length≤8:=fun y hy=>len8 (rR.1 (o3 y hy)).1
 have sm:=wo t (l:=l) (ls:=ls) (by omega) (by omega) (fun y hy=>by have:=l3 y hy;omega)
 rw[h]at sm
 have sc:=xY t (l:=l) (ls:=ls) (by omega) (by omega) (fun y hy=>by have:=l3 y hy;omega)
 have ic:=vO t (l:=l) (ls:=ls) (by omega) (by omega) (fun y hy=>by have:=l3 y hy;omega)
 have ir:=yv (s:=s) (by omega)
 have sr:=yw (s:=s) (by omega)
 obtain⟨a,d,b,e⟩:∃a d b,wO s=(a,d,b):=⟨_,_,_,rfl⟩
 rw[e]at ir sr
 cases b with
 |true=>
  have id:=zt h a d
  have sd:=zz (t:=t) (l:=l) (ls:=ls) (by omega) (by omega) (fun y hy=>by have:=l3 y hy;omega) a d
  rw[if_pos h]at sd
  have ok:=Gp h a d
  generalize Fa t l ls a d=g at id sd ok
  obtain⟨q,m,ms,b⟩:=g
  cases b with
  |true=>exact⟨q,m,ms,_,Ev.bind ir (jM rfl (Ev.bind id (jM rfl (Ev.now _)))),Ev.bind sm (rE (Ev.bind sc (Ev.bind sr (jM rfl (Ev.bind sd (jM rfl (Ev.now _))))))),ok⟩
  |false=>exact⟨q,m,ms,_,Ev.bind ir (jM rfl (Ev.bind id (jO Bool.false_ne_true (Ev.now _)))),Ev.bind sm (rE (Ev.bind sc (Ev.bind sr (jM rfl (Ev.bind sd (jO Bool.false_ne_true (Ev.now _))))))),ok⟩
 |false=>
  obtain⟨r,g1,g2⟩:=BT (rR.1 o1).1 (ls:=ls) o2 hz
  exact⟨t,l,ls,r,Ev.bind ir (jO Bool.false_ne_true (Ev.bind ic (Ev.bind g1 (Ev.now _)))),Ev.bind sm (rE (Ev.bind sc (Ev.bind sr (jO Bool.false_ne_true (g2 t l ls))))),h⟩
theorem zV {l:List Int} (hn:l.length≤35184372088832):Ev (fun k=>pX.f k l) l:=by
 unfold pX.f
 refine jM (by omega) (jM (by simpa using hn) ?_)
 have key:∀i,i≤l.length→Ev (fun k=>pX.l0 k l (l.take i++List.replicate (l.length - i) 0) (i:Int)) l:=by
  apply down
  ·refine Ev.step (fun k=>rfl) (jO (by omega) (qq (Ev.now _) ?_))
   rw[Nat.sub_self,List.replicate_zero,List.append_nil,List.take_length]
  ·intro i hi ih
   refine Ev.step (fun k=>rfl) (jM (by omega) (jM (by omega) (jM ?_ ?_)))
   ·rw[List.length_append,List.length_take,List.length_replicate];omega
   ·rw[w1 hi (by omega),Int.toNat_natCast,ss hi]
    have e:(l.take i++List.replicate (l.length - i) 0).set i l[i]=l.take (i+1)++List.replicate (l.length - (i+1)) 0:=by
     rw[List.set_append_right _ _ (by rw[List.length_take];omega),List.length_take,show i - min i l.length=0 from by omega,show l.length - i=(l.length - (i+1))+1 from by omega,List.replicate_succ,List.set_cons_zero,List.take_succ_eq_append_getElem hi,List.append_assoc]
     rfl
    rw[e]
    exact ih
 have:=key 0 (Nat.zero_le _)
 simpa using this
theorem zW {l m:List Int} (hn:l.length≤9223372036854775807):Ev (fun k=>oL.f k l m) (decide (l=m)):=by
 unfold oL.f
 by_cases hl:l.length=m.length
 ·refine jM (by omega) ?_
  have key:∀i,i≤l.length→Ev (fun k=>oL.l0 k l m (i:Int)) (decide (l.drop i=m.drop i)):=by
   apply down
   ·refine Ev.step (fun k=>rfl) (jO (by omega) (qq (Ev.now _) ?_))
    rw[List.drop_length,hl,List.drop_length,decide_eq_true rfl]
   ·intro i hi ih
    have hm:i<m.length:=by omega
    refine Ev.step (fun k=>rfl) (jM (by omega) (jM (by omega) (jM (by omega) ?_)))
    rw[ss hi,ss hm,w1 hi hn,List.drop_eq_getElem_cons hi,List.drop_eq_getElem_cons hm]
    by_cases e:l[i]=m[i]
    ·refine jM e (qq ih ?_)
     exact decide_eq_decide.2 ⟨fun k=>by rw[e,k],fun k=>(List.cons.inj k).2⟩
    ·refine jO e (qq (Ev.now _) ?_)
     exact(decide_eq_false (fun k=>e (List.cons.inj k).1)).symm
  have:=key 0 (Nat.zero_le _)
  simpa using this
 ·refine jO (by omega) (qq (Ev.now _) ?_)
  exact(decide_eq_false (fun k=>hl (by rw[k]))).symm
theorem Bk {l:List Int} (hn:l.length≤9223372036854775807):Ev (fun k=>oL.f k l l) true:=qq (zW hn) (decide_eq_true rfl)
/-! ### the laws' own helpers -/
theorem Bl {l:List Int} {a:Int} (hn:l.length≤9223372036854775807) (h0:0≤a) (h1:a≤1048576):∃r,rU.f l a=some r∧(r<0∨(0≤r∧r≤a∧(l.length:Int)≤a)):=by
 unfold rU.f
 rw[xn (n:=a - (l.length:Int)) (by omega) (by omega)]
 by_cases h:a - (l.length:Int)<0
 ·exact⟨-1,if_pos h,Or.inl (by omega)⟩
 ·exact⟨_,if_neg h,Or.inr (by omega)⟩
theorem Dc {ls:List (List Int)} {a:Int} (hs:ls.length≤9223372036854775807) (hl:∀y∈ls,y.length≤9223372036854775807) (h0:0≤a) (h1:a≤1048576):∃r,Ev (fun k=>pR.f k ls a) r∧(r<0∨(0≤r∧r≤a∧(ls.length:Int)≤a∧∀y∈ls,(y.length:Int)≤a)):=by
 unfold pR.f
 rw[xn (n:=a - (ls.length:Int)) (by omega) (by omega)]
 by_cases h:a - (ls.length:Int)<0
 ·exact⟨-1,jM h (Ev.now _),Or.inl (by omega)⟩
 ·have key:∀i,i≤ls.length→∀b:Int,0≤b→b≤a→∃r,Ev (fun k=>pR.l0 k ls b (i:Int)) r∧(r<0∨(0≤r∧r≤a∧∀y∈ls.drop i,(y.length:Int)≤a)):=by
   apply down
   ·intro b hb hb1
    exact⟨b,Ev.step (fun k=>rfl) (jO (by omega) (Ev.now _)),Or.inr ⟨hb,hb1,fun y hy=>by rw[List.drop_length]at hy;simp at hy⟩⟩
   ·intro i hi ih b hb hb1
    obtain⟨c,e,hc⟩:=Bl (a:=b) (hl _ (List.getElem_mem hi)) hb (by omega)
    by_cases hc0:c<0
    ·refine⟨-1,Ev.step (fun k=>rfl) (jM (by omega) (jM (by omega) ?_)),Or.inl (by omega)⟩
     rw[vy hi]
     exact kg e (jM hc0 (Ev.now _))
    ·obtain⟨r,h2,h3⟩:=ih c (by omega) (by omega)
     refine⟨r,Ev.step (fun k=>rfl) (jM (by omega) (jM (by omega) ?_)),?_⟩
     ·rw[vy hi]
      refine kg e (jO hc0 ?_)
      rw[w1 hi hs]
      exact h2
     ·rcases h3 with h3|⟨h3,h4,h5⟩
      ·exact Or.inl h3
      ·refine Or.inr ⟨h3,h4,fun y hy=>?_⟩
       rw[List.drop_eq_getElem_cons hi]at hy
       rcases List.mem_cons.1 hy with rfl|hy
       ·omega
       ·exact h5 y hy
  obtain⟨r,h2,h3⟩:=key 0 (Nat.zero_le _) (a - (ls.length:Int)) (by omega) (by omega)
  refine⟨r,jO h h2,?_⟩
  rcases h3 with h3|⟨h3,h4,h5⟩
  ·exact Or.inl h3
  ·exact Or.inr ⟨h3,h4,by omega,by rw[List.drop_zero]at h5;exact h5⟩
theorem BU {l:List (List Int)} (hn:l.length≤11728124029610) (hl:∀y∈l,y.length≤35184372088832):Ev (fun k=>pU.f k l) l:=by
 unfold pU.f
 refine jM (by omega) (jM (by simpa using hn) ?_)
 have key:∀i,i≤l.length→Ev (fun k=>pU.l0 k l (l.take i++List.replicate (l.length - i) []) (i:Int)) l:=by
  apply down
  ·refine Ev.step (fun k=>rfl) (jO (by omega) (qq (Ev.now _) ?_))
   rw[Nat.sub_self,List.replicate_zero,List.append_nil,List.take_length]
  ·intro i hi ih
   refine Ev.step (fun k=>rfl) (jM (by omega) (jM (by omega) ?_))
   rw[vy hi]
   refine Ev.bind (zV (hl _ (List.getElem_mem hi))) (jM ?_ ?_)
   ·rw[List.length_append,List.length_take,List.length_replicate];omega
   ·rw[w1 hi (by omega),Int.toNat_natCast]
    have e:(l.take i++List.replicate (l.length - i) []).set i l[i]=l.take (i+1)++List.replicate (l.length - (i+1)) []:=by
     rw[List.set_append_right _ _ (by rw[List.length_take];omega),List.length_take,show i - min i l.length=0 from by omega,show l.length - i=(l.length - (i+1))+1 from by omega,List.replicate_succ,List.set_cons_zero,List.take_succ_eq_append_getElem hi,List.append_assoc]
     rfl
    rw[e]
    exact ih
 have:=key 0 (Nat.zero_le _)
 simpa using this
theorem Dd (t:Int) {l:List Int} {ls:List (List Int)} (h1:l.length≤35184372088832) (h2:ls.length≤11728124029610) (h3:∀y∈ls,y.length≤35184372088832):Ev (fun k=>qM.f k t l ls) (t,l,ls):=by
 unfold qM.f
 exact Ev.bind (zV h1) (Ev.bind (BU h2 h3) (Ev.now _))
theorem BV {l m:List (List Int)} (hn:l.length≤9223372036854775807) (hl:∀y∈l,y.length≤9223372036854775807):Ev (fun k=>pS.f k l m) (decide (l=m)):=by
 unfold pS.f
 by_cases hlm:l.length=m.length
 ·refine jM (by omega) ?_
  have key:∀i,i≤l.length→Ev (fun k=>pS.l0 k l m (i:Int)) (decide (l.drop i=m.drop i)):=by
   apply down
   ·refine Ev.step (fun k=>rfl) (jO (by omega) (qq (Ev.now _) ?_))
    rw[List.drop_length,hlm,List.drop_length,decide_eq_true rfl]
   ·intro i hi ih
    have hm:i<m.length:=by omega
    refine Ev.step (fun k=>rfl) (jM (by omega) (jM (by omega) (jM (by omega) ?_)))
    rw[vy hi,vy hm,w1 hi hn,List.drop_eq_getElem_cons hi,List.drop_eq_getElem_cons hm]
    refine Ev.bind (zW (m:=m[i]) (hl _ (List.getElem_mem hi))) ?_
    by_cases e:l[i]=m[i]
    ·rw[decide_eq_true e]
     refine rE (qq ih ?_)
     exact decide_eq_decide.2 ⟨fun k=>by rw[e,k],fun k=>(List.cons.inj k).2⟩
    ·rw[decide_eq_false e]
     refine wW (qq (Ev.now _) ?_)
     exact(decide_eq_false (fun k=>e (List.cons.inj k).1)).symm
  have:=key 0 (Nat.zero_le _)
  simpa using this
 ·refine jO (by omega) (qq (Ev.now _) ?_)
  exact(decide_eq_false (fun k=>hlm (by rw[k]))).symm
theorem yG (t:Int) {l:List Int} {ls:List (List Int)} (hn:l.length≤9223372036854775807) (hs:ls.length≤9223372036854775807) (hl:∀y∈ls,y.length≤9223372036854775807):Ev (fun k=>qN.f k t l ls t l ls) true:=by
 unfold qN.f
 refine jM rfl (Ev.bind (Bk hn) (rE (Ev.bind (BV (m:=ls) hs hl) ?_)))
 rw[decide_eq_true rfl]
 exact rE (Ev.now _)
def rI (a:Int) (n:Nat):List Int:=(List.range n).map fun(j:Nat)=>a+(j:Int)
theorem sB (a:Int) (n:Nat):(rI a n).length=n:=by simp[rI]
theorem Bm (a:Int) (n:Nat):rI a (n+1)=rI a n++ [a+(n:Int)]:=by
 unfold rI
 rw[List.range_succ,List.map_append]
 rfl
theorem De {a:Int} {n i:Nat} (h:i<n):rd (rI a n) (i:Int)=a+(i:Int):=by
 rw[ss (by rw[sB];exact h)]
 simp[rI]
theorem yH {l:List Int} {a:Int} (h0:0≤a) (hn:a+(l.length:Int)≤4611686018427387904):Ev (fun k=>ll.f k l a) (a+(l.length:Int),rI a l.length):=by
 unfold ll.f
 have key:∀i,i≤l.length→Ev (fun k=>ll.l0 k (rI a i++l.drop i) (a+(i:Int)) (i:Int)) (a+(l.length:Int),rI a l.length):=by
  apply down
  ·refine Ev.step (fun k=>rfl) (jO (by rw[List.length_append,sB,List.length_drop];omega) (qq (Ev.now _) ?_))
   rw[List.drop_length,List.append_nil]
  ·intro i hi ih
   refine Ev.step (fun k=>rfl) (jM (by rw[List.length_append,sB,List.length_drop];omega) (jM (by omega) ?_))
   have e:(rI a i++l.drop i).set i (a+(i:Int))=rI a (i+1)++l.drop (i+1):=by
    rw[List.set_append_right _ _ (by rw[sB];omega),sB,Nat.sub_self,List.drop_eq_getElem_cons hi,List.set_cons_zero,Bm,List.append_assoc]
    rfl
   rw[Int.toNat_natCast,e,w1 hi (by omega),xn (by omega) (by omega),show a+(i:Int)+1=a+((i+1:Nat):Int) from by omega]
   exact ih
 have:=key 0 (Nat.zero_le _)
 simpa [rI] using this
theorem yI {n:Nat} {a:Int} (h0:0≤a) (hn:a+(n:Int)≤4611686018427387904):Ev (fun k=>oE.f k (rI a n) a) (a+(n:Int)):=by
 unfold oE.f
 have key:∀i,i≤n→Ev (fun k=>oE.l0 k (rI a n) (a+(i:Int)) (i:Int)) (a+(n:Int)):=by
  apply down
  ·exact Ev.step (fun k=>rfl) (jO (by rw[sB];omega) (Ev.now _))
  ·intro i hi ih
   refine Ev.step (fun k=>rfl) (jM (by rw[sB];omega) (jM (by omega) (jM (De hi) ?_)))
   rw[w1 hi (by omega),xn (by omega) (by omega),show a+(i:Int)+1=a+((i+1:Nat):Int) from by omega]
   exact ih
 have:=key 0 (Nat.zero_le _)
 simpa using this
def xt:Int→List (List Int)→List (List Int)
 | _,[]=>[]
 |a,x::xs=>rI a x.length::xt (a+(x.length:Int)) xs
def xh:Int→List (List Int)→Int
 |a,[]=>a
 |a,x::xs=>xh (a+(x.length:Int)) xs
theorem xN:∀(ls:List (List Int)) (a:Int),a≤xh a ls
 | [],a=>Int.le_refl a
 |x::xs,a=>by have:=xN xs (a+(x.length:Int));show a≤xh (a+(x.length:Int)) xs;omega
theorem yl:∀(ls:List (List Int)) (a:Int),(∀y∈ls,y.length≤1048576)→xh a ls≤a+1048576*(ls.length:Int)
 | [],a,_=>by show a≤_;simp
 |x::xs,a,h=>by
  have:=yl xs (a+(x.length:Int)) (fun y hy=>h y (List.mem_cons_of_mem _ hy))
  have:=h x (List.mem_cons_self ..)
  show xh (a+(x.length:Int)) xs≤_
  rw[List.length_cons]
  omega
theorem Ay {ls:List (List Int)} {a:Int} (h0:0≤a) (hs:ls.length≤1048576) (hn:xh a ls≤4611686018427387904):Ev (fun k=>la.f k ls a) (xh a ls,xt a ls):=by
 unfold la.f
 have key:∀(rest done:List (List Int)) (b:Int),0≤b→xh b rest≤4611686018427387904→done.length+rest.length≤1048576→Ev (fun k=>la.l0 k (done++rest) b (done.length:Int)) (xh b rest,done++xt b rest):=by
  intro rest
  induction rest with
  |nil=>
   intro done b hb hn hl
   refine Ev.step (fun k=>rfl) (jO (by rw[List.append_nil];omega) ?_)
   exact Ev.now _
  |cons x xs ih=>
   intro done b hb hn hl
   have hx:=xN xs (b+(x.length:Int))
   have hn':xh (b+(x.length:Int)) xs≤4611686018427387904:=hn
   rw[List.length_cons]at hl
   have hi:=ih (done++ [rI b x.length]) (b+(x.length:Int)) (by omega) hn' (by rw[List.length_append,List.length_singleton];omega)
   refine Ev.step (fun k=>rfl) (jM (by rw[List.length_append,List.length_cons];omega) (jM (by omega) ?_))
   have e1:(done++x::xs).getD ((done.length:Int)).toNat []=x:=by
    rw[Int.toNat_natCast,List.getD_eq_getElem?_getD,List.getElem?_append_right (Nat.le_refl _),Nat.sub_self]
    rfl
   rw[e1]
   refine Ev.bind (yH hb (by omega)) ?_
   have e2:(done++x::xs).set ((done.length:Int)).toNat (rI b x.length)=(done++ [rI b x.length])++xs:=by
    rw[Int.toNat_natCast,List.set_append_right _ _ (Nat.le_refl _),Nat.sub_self,List.set_cons_zero,List.append_assoc]
    rfl
   show Ev (fun k=>la.l0 k ((done++x::xs).set ((done.length:Int)).toNat (rI b x.length)) (b+(x.length:Int)) (wrap64 ((done.length:Int)+1))) _
   rw[e2,xn (by omega) (by omega),show(done.length:Int)+1=((done++ [rI b x.length]).length:Int) from by rw[List.length_append,List.length_singleton];omega]
   refine qq hi ?_
   rw[List.append_assoc]
   rfl
 have:=key ls [] a h0 hn (by simpa using hs)
 simpa using this
theorem Az {ls:List (List Int)} {a:Int} (h0:0≤a) (hs:ls.length≤1048576) (hn:xh a ls≤4611686018427387904):Ev (fun k=>oH.f k (xt a ls) a) (xh a ls):=by
 unfold oH.f
 have key:∀(rest:List (List Int)) (done:List (List Int)) (b:Int),0≤b→xh b rest≤4611686018427387904→done.length+rest.length≤1048576→Ev (fun k=>oH.l0 k (done++xt b rest) b (done.length:Int)) (xh b rest):=by
  intro rest
  induction rest with
  |nil=>
   intro done b hb hn hl
   refine Ev.step (fun k=>rfl) (jO (by show¬(done.length:Int)<((done++([]:List (List Int))).length:Int);rw[List.append_nil];omega) ?_)
   exact Ev.now _
  |cons x xs ih=>
   intro done b hb hn hl
   have hx:=xN xs (b+(x.length:Int))
   have hn':xh (b+(x.length:Int)) xs≤4611686018427387904:=hn
   rw[List.length_cons]at hl
   have hi:=ih (done++ [rI b x.length]) (b+(x.length:Int)) (by omega) hn' (by rw[List.length_append,List.length_singleton];omega)
   show Ev (fun k=>oH.l0 k (done++rI b x.length::xt (b+(x.length:Int)) xs) b (done.length:Int)) _
   have hlen:done.length<(done++rI b x.length::xt (b+(x.length:Int)) xs).length:=by rw[List.length_append,List.length_cons];omega
   refine Ev.step (fun k=>rfl) (jM (by omega) (jM (by omega) ?_))
   have e1:qi (done++rI b x.length::xt (b+(x.length:Int)) xs) (done.length:Int)=rI b x.length:=by
    rw[vy hlen,List.getElem_append_right (Nat.le_refl _)]
    simp
   rw[e1]
   refine Ev.bind (yI hb (by omega)) (jO (by omega) ?_)
   rw[xn (by omega) (by omega),show(done.length:Int)+1=((done++ [rI b x.length]).length:Int) from by rw[List.length_append,List.length_singleton];omega,show done++rI b x.length::xt (b+(x.length:Int)) xs=(done++ [rI b x.length])++xt (b+(x.length:Int)) xs from by rw[List.append_assoc];rfl]
   exact hi
 have:=key ls [] a h0 hn (by simpa using hs)
 simpa using this
theorem yJ (q:Int) {l:List Int} {ls:List (List Int)} (hl:l.length≤1048576) (hs:ls.length≤1048576) (hy:∀y∈ls,y.length≤1048576):Ev (fun k=>qF.f k q l ls 1) (xh (1+(l.length:Int)) ls,rI 1 l.length,xt (1+(l.length:Int)) ls):=by
 have:=yl ls (1+(l.length:Int)) hy
 unfold qF.f
 exact Ev.bind (yH (by omega) (by omega)) (Ev.bind (Ay (by dsimp only;omega) hs (by dsimp only;omega)) (Ev.now _))
theorem Bn (q:Int) {l:List Int} {ls:List (List Int)} (hl:l.length≤1048576) (hs:ls.length≤1048576) (hy:∀y∈ls,y.length≤1048576):Ev (fun k=>rr.f k q (rI 1 l.length) (xt (1+(l.length:Int)) ls) 1) (xh (1+(l.length:Int)) ls):=by
 have:=yl ls (1+(l.length:Int)) hy
 have:=xN ls (1+(l.length:Int))
 unfold rr.f
 exact Ev.bind (yI (by omega) (by omega)) (jO (by omega) (Ev.bind (Az (by omega) hs (by omega)) (jO (by omega) (Ev.now _))))
theorem yx {l:List ByteArray} {i:Nat} (h:i<l.length):rdOf ByteArray.empty l (i:Int)=l[i]:=by
 unfold rdOf
 rw[Int.toNat_natCast,List.getD_eq_getElem?_getD,List.getElem?_eq_getElem h]
 rfl
theorem Bo {ls:List ByteArray} {a:Int} (hs:ls.length≤9223372036854775807) (hl:∀y∈ls,y.size≤9223372036854775807) (h0:0≤a) (h1:a≤1048576):∃r,Ev (fun k=>oK.f k ls a) r∧(r<0∨((ls.length:Int)≤a∧∀y∈ls,(y.size:Int)≤a)):=by
 unfold oK.f
 rw[xn (n:=a - (ls.length:Int)) (by omega) (by omega)]
 by_cases h:a - (ls.length:Int)<0
 ·exact⟨-1,jM h (Ev.now _),Or.inl (by omega)⟩
 ·have key:∀i,i≤ls.length→∀b:Int,0≤b→b≤a→∃r,Ev (fun k=>oK.l0 k ls b (i:Int)) r∧(r<0∨∀y∈ls.drop i,(y.size:Int)≤a):=by
   apply down
   ·intro b hb hb1
    exact⟨b,Ev.step (fun k=>rfl) (jO (by omega) (Ev.now _)),Or.inr (fun y hy=>by rw[List.drop_length]at hy;simp at hy)⟩
   ·intro i hi ih b hb hb1
    have hz:=hl _ (List.getElem_mem hi)
    by_cases hc0:b - ((ls[i].size:Nat):Int)<0
    ·refine⟨-1,Ev.step (fun k=>rfl) (jM (by omega) (jM (by omega) ?_)),Or.inl (by omega)⟩
     rw[yx hi,xn (by omega) (by omega)]
     exact jM hc0 (Ev.now _)
    ·obtain⟨r,h2,h3⟩:=ih (b - ((ls[i].size:Nat):Int)) (by omega) (by omega)
     refine⟨r,Ev.step (fun k=>rfl) (jM (by omega) (jM (by omega) ?_)),?_⟩
     ·rw[yx hi,xn (by omega) (by omega)]
      refine jO hc0 ?_
      rw[w1 hi hs]
      exact h2
     ·rcases h3 with h3|h3
      ·exact Or.inl h3
      ·refine Or.inr (fun y hy=>?_)
       rw[List.drop_eq_getElem_cons hi]at hy
       rcases List.mem_cons.1 hy with rfl|hy
       ·omega
       ·exact h3 y hy
  obtain⟨r,h2,h3⟩:=key 0 (Nat.zero_le _) (a - (ls.length:Int)) (by omega) (by omega)
  refine⟨r,jO h h2,?_⟩
  rcases h3 with h3|h3
  ·exact Or.inl h3
  ·exact Or.inr ⟨by omega,by rw[List.drop_zero]at h3;exact h3⟩
theorem Et (t:Int) {l:List Int} {ls:List (List Int)} (hn:l.length≤9223372036854775807) (hs:ls.length≤9223372036854775807) (hl:∀y∈ls,y.length≤9223372036854775807):∃r,Ev (fun k=>rM.f k t l ls 1048576) r∧(r<0∨(0≤r∧r≤1048576∧l.length≤1048576∧ls.length≤1048576∧∀y∈ls,y.length≤1048576)):=by
 unfold rM.f
 obtain⟨r,e,h⟩:=Bl (l:=l) (a:=1048576) hn (by omega) (by omega)
 by_cases hr:r<0
 ·exact⟨-1,kg e (jM hr (Ev.now _)),Or.inl (by omega)⟩
 ·obtain⟨q,e2,h2⟩:=Dc (ls:=ls) (a:=r) hs hl (by omega) (by omega)
  by_cases hq:q<0
  ·exact⟨-1,kg e (jO hr (Ev.bind e2 (jM hq (Ev.now _)))),Or.inl (by omega)⟩
  ·refine⟨q,kg e (jO hr (Ev.bind e2 (jO hq (Ev.now _)))),Or.inr ?_⟩
   rcases h2 with h2|⟨h3,h4,h5,h6⟩
   ·exact absurd h2 hq
   ·exact⟨h3,by omega,by omega,by omega,fun y hy=>by have:=h6 y hy;omega⟩
theorem AA {l:List ByteArray} (hn:l.length≤17592186044416):Ev (fun k=>lp.f k l) l:=by
 unfold lp.f
 refine jM (by omega) (jM (by simpa using hn) ?_)
 have key:∀i,i≤l.length→Ev (fun k=>lp.l0 k l (l.take i++List.replicate (l.length - i) (⟨#[]⟩:ByteArray)) (i:Int)) l:=by
  apply down
  ·refine Ev.step (fun k=>rfl) (jO (by omega) (qq (Ev.now _) ?_))
   rw[Nat.sub_self,List.replicate_zero,List.append_nil,List.take_length]
  ·intro i hi ih
   refine Ev.step (fun k=>rfl) (jM (by omega) (jM (by omega) (jM ?_ ?_)))
   ·rw[List.length_append,List.length_take,List.length_replicate];omega
   ·rw[yx hi,w1 hi (by omega),Int.toNat_natCast]
    have e:(l.take i++List.replicate (l.length - i) (⟨#[]⟩:ByteArray)).set i l[i]=l.take (i+1)++List.replicate (l.length - (i+1)) (⟨#[]⟩:ByteArray):=by
     rw[List.set_append_right _ _ (by rw[List.length_take];omega),List.length_take,show i - min i l.length=0 from by omega,show l.length - i=(l.length - (i+1))+1 from by omega,List.replicate_succ,List.set_cons_zero,List.take_succ_eq_append_getElem hi,List.append_assoc]
     rfl
    rw[e]
    exact ih
 have:=key 0 (Nat.zero_le _)
 simpa using this
theorem xz {l:List ByteArray} (hn:l.length≤9223372036854775807):Ev (fun k=>ov.f k l l) true:=by
 unfold ov.f
 refine jM rfl ?_
 have key:∀i,i≤l.length→Ev (fun k=>ov.l0 k l l (i:Int)) true:=by
  apply down
  ·exact Ev.step (fun k=>rfl) (jO (by omega) (Ev.now _))
  ·intro i hi ih
   refine Ev.step (fun k=>rfl) (jM (by omega) (jM (by omega) (jM (by omega) (jM rfl ?_))))
   rw[w1 hi hn]
   exact ih
 exact key 0 (Nat.zero_le _)
theorem Bp:∀(n:Nat) (a:Int) (s:ByteArray),a.toNat≤n→(n:Int)+(s.size:Int)≤9223372036854775000→∃r,Ev (fun k=>oC.l0 k a s) r:=by
 intro n
 induction n with
 |zero=>
  intro a s ha hs
  exact⟨_,Ev.step (fun k=>rfl) (jO (by omega) (jM (by omega) (Ev.now _)))⟩
 |succ n ih=>
  intro a s ha hs
  by_cases h:a>0
  ·have hd:Int.tdiv a 10=a/10:=Int.tdiv_eq_ediv_of_nonneg (by omega)
   have z:(strOfNums [(wrap64 (48+(Int.tmod a 10)))%256]).size=1:=by simp[strOfNums,ByteArray.size]
   obtain⟨r,e⟩:=ih (a/10) ((strOfNums [(wrap64 (48+(Int.tmod a 10)))%256])++s) (by omega) (by rw[ByteArray.size_append,z];omega)
   refine⟨r,Ev.step (fun k=>rfl) (jM h (kg rfl (jM (by rw[z];omega) ?_)))⟩
   rw[hd,xn (by omega) (by omega)]
   exact e
  ·exact⟨_,Ev.step (fun k=>rfl) (jO h (jM (by omega) (Ev.now _)))⟩
theorem yK (a:Int) (h:a≤4611686018427387904):∃r,Ev (fun k=>oC.f k a) r:=by
 unfold oC.f
 by_cases h0:a≤0
 ·exact⟨_,jM h0 (Ev.now _)⟩
 ·obtain⟨r,e⟩:=Bp a.toNat a (⟨#[]⟩:ByteArray) (Nat.le_refl _) (by have:(⟨#[]⟩:ByteArray).size=0:=rfl;omega)
  exact⟨r,jO h0 e⟩
theorem AB:∃f:Int→ByteArray,∀a:Int,a≤4611686018427387904→Ev (fun k=>oC.f k a) (f a):=
 ⟨fun a=>if h:a≤4611686018427387904 then(yK a h).choose else ByteArray.empty,fun a h=>by dsimp only;rw[dif_pos h];exact(yK a h).choose_spec⟩
def vH (f:Int→ByteArray) (a:Int) (n:Nat):List ByteArray:=(List.range n).map fun(j:Nat)=>f (a+(j:Int))
theorem sC (f:Int→ByteArray) (a:Int) (n:Nat):(vH f a n).length=n:=by simp[vH]
theorem Bq (f:Int→ByteArray) (a:Int) (n:Nat):vH f a (n+1)=vH f a n++ [f (a+(n:Int))]:=by
 unfold vH
 rw[List.range_succ,List.map_append]
 rfl
theorem Df {f:Int→ByteArray} {a:Int} {n i:Nat} (h:i<n):rdOf ByteArray.empty (vH f a n) (i:Int)=f (a+(i:Int)):=by
 rw[yx (by rw[sC];exact h)]
 simp[vH]
theorem xA {f:Int→ByteArray} (hf:∀a:Int,a≤4611686018427387904→Ev (fun k=>oC.f k a) (f a)) {l:List ByteArray} {a:Int} (h0:0≤a) (hn:a+(l.length:Int)≤4611686018427387904):Ev (fun k=>ld.f k l a) (a+(l.length:Int),vH f a l.length):=by
 unfold ld.f
 have key:∀i,i≤l.length→Ev (fun k=>ld.l0 k (vH f a i++l.drop i) (a+(i:Int)) (i:Int)) (a+(l.length:Int),vH f a l.length):=by
  apply down
  ·refine Ev.step (fun k=>rfl) (jO (by rw[List.length_append,sC,List.length_drop];omega) (qq (Ev.now _) ?_))
   rw[List.drop_length,List.append_nil]
  ·intro i hi ih
   refine Ev.step (fun k=>rfl) (jM (by rw[List.length_append,sC,List.length_drop];omega) (Ev.bind (hf _ (by omega)) (jM (by omega) ?_)))
   have e:(vH f a i++l.drop i).set i (f (a+(i:Int)))=vH f a (i+1)++l.drop (i+1):=by
    rw[List.set_append_right _ _ (by rw[sC];omega),sC,Nat.sub_self,List.drop_eq_getElem_cons hi,List.set_cons_zero,Bq,List.append_assoc]
    rfl
   rw[Int.toNat_natCast,e,w1 hi (by omega),xn (by omega) (by omega),show a+(i:Int)+1=a+((i+1:Nat):Int) from by omega]
   exact ih
 have:=key 0 (Nat.zero_le _)
 simpa [vH] using this
theorem zA {f:Int→ByteArray} (hf:∀a:Int,a≤4611686018427387904→Ev (fun k=>oC.f k a) (f a)) {n:Nat} {a:Int} (h0:0≤a) (hn:a+(n:Int)≤4611686018427387904):Ev (fun k=>lf.f k (vH f a n) a) (a+(n:Int)):=by
 unfold lf.f
 have key:∀i,i≤n→Ev (fun k=>lf.l0 k (vH f a n) (a+(i:Int)) (i:Int)) (a+(n:Int)):=by
  apply down
  ·exact Ev.step (fun k=>rfl) (jO (by rw[sC];omega) (Ev.now _))
  ·intro i hi ih
   refine Ev.step (fun k=>rfl) (jM (by rw[sC];omega) (jM (by omega) (Ev.bind (hf _ (by omega)) (jM (by rw[Df hi]) ?_))))
   rw[w1 hi (by omega),xn (by omega) (by omega),show a+(i:Int)+1=a+((i+1:Nat):Int) from by omega]
   exact ih
 have:=key 0 (Nat.zero_le _)
 simpa using this
theorem Eu {CF:List ByteArray} (hz:∀y∈CF,y.size≤1048576) (hn:CF.length≤40):∀i,i≤CF.length→∀(t:Int) (l:List Int) (ls:List (List Int)) (acc:List ByteArray),vv t l ls=true→acc.length=i→
  ∃q m ms rs,Ev (fun k=>lg.l0 k acc CF (CF.length:Int) (i:Int) t l ls) (q,m,ms,rs)∧Ev (fun k=>kB.l0 k CF acc (i:Int) t l ls) (q,m,ms,rs)∧vv q m ms=true∧rs.length=CF.length:=by
 apply down
 ·intro t l ls acc ok ha
  exact⟨t,l,ls,acc,Ev.step (fun k=>rfl) (jO (by omega) (Ev.now _)),Ev.step (fun k=>rfl) (jO (by omega) (Ev.now _)),ok,ha⟩
 ·intro i hi ih t l ls acc ok ha
  obtain⟨q,m,ms,r,e1,e2,ok2⟩:=Db ok (s:=CF[i]) (hz _ (List.getElem_mem hi))
  obtain⟨q2,m2,KH,rs,f1,f2,KI,hl⟩:=ih q m ms (acc++ [r]) ok2 (by rw[List.length_append,List.length_singleton];omega)
  refine⟨q2,m2,KH,rs,Ev.step (fun k=>rfl) (jM (by omega) (jM (by omega) (jM (by omega) ?_))),Ev.step (fun k=>rfl) (jM (by omega) (jM (by omega) ?_)),KI,hl⟩
  ·rw[yx hi,w1 hi (by omega)]
   exact Ev.bind e1 (jM (by omega) f1)
  ·rw[yx hi,w1 hi (by omega)]
   exact Ev.bind e2 (jM (by omega) f2)
theorem AD {t:Int} {l:List Int} {ls:List (List Int)} {CF:List ByteArray} (h1:l.length≤9223372036854775807) (h2:ls.length≤9223372036854775807) (h3:∀y∈ls,y.length≤9223372036854775807) (hz:∀y∈CF,y.size≤1048576):
  ∃q m ms rs,Ev (fun k=>lg.f k t l ls CF) (q,m,ms,rs)∧Ev (fun k=>kB.f k t l ls CF) (q,m,ms,rs)∧m.length≤1048576∧ms.length≤1048576∧(∀y∈ms,y.length≤1048576)∧rs.length≤40:=by
 have im:=CX t h1 h3
 have sm:=wo t (l:=l) (ls:=ls) (by omega) (by omega) (fun y hy=>by have:=h3 y hy;omega)
 unfold lg.f kB.f
 cases h:vv t l ls with
 |false=>
  rw[h]at im sm
  exact⟨0,[],[],[],Ev.bind im (wW (Ev.step (fun k=>rfl) (Ev.now _))),kg rfl (Ev.bind sm (wW (Ev.step (fun k=>rfl) (Ev.now _)))),by simp,by simp,by simp,by simp⟩
 |true=>
  rw[h]at im sm
  by_cases hn:(CF.length:Int)>40
  ·have hd:=decide_eq_true hn
   refine⟨0,[],[],[],Ev.bind im (rE ?_),kg rfl (Ev.bind sm (rE ?_)),by simp,by simp,by simp,by simp⟩
   ·rw[hd]
    exact Ev.step (fun k=>rfl) (Ev.now _)
   ·rw[hd]
    exact Ev.step (fun k=>rfl) (Ev.now _)
  ·have hd:=decide_eq_false hn
   obtain⟨o1,o2,o3⟩:=vm.1 h
   have l1:=len8 (rR.1 o1).1
   have l3:∀y∈ls,y.length≤8:=fun y hy=>len8 (rR.1 (o3 y hy)).1
   have sc:=xY t (l:=l) (ls:=ls) (by omega) (by omega) (fun y hy=>by have:=l3 y hy;omega)
   have ic:=vO t (l:=l) (ls:=ls) (by omega) (by omega) (fun y hy=>by have:=l3 y hy;omega)
   obtain⟨q,m,ms,rs,f1,f2,ok,hl⟩:=Eu hz (by omega) 0 (Nat.zero_le _) t l ls [] h rfl
   obtain⟨p1,p2,p3⟩:=vm.1 ok
   have m1:=len8 (rR.1 p1).1
   refine⟨q,m,ms,rs,Ev.bind im (rE ?_),kg rfl (Ev.bind sm (rE ?_)),by omega,by omega,fun y hy=>by have:=len8 (rR.1 (p3 y hy)).1;omega,by omega⟩
   ·rw[hd]
    exact Ev.step (fun k=>rfl) (Ev.bind ic f1)
   ·rw[hd]
    exact Ev.step (fun k=>rfl) (Ev.bind sc f2)
end Go.Proofs.YtihgpkohglcijaaGreatDoor.Pl
