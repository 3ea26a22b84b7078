import Derived.Test.YtihgpkohglcijaaGreatDoorPx14
import Derived.Test.YtihgpkohglcijaaGreatDoorMath
import Derived.Test.YtihgpkohglcijaaGreatDoorPx15
import Derived.Test.YtihgpkohglcijaaGreatDoorPx2
import Derived.Test.YtihgpkohglcijaaGreatDoorPx4
import Derived.Test.YtihgpkohglcijaaGreatDoorPx17
import Derived.Test.YtihgpkohglcijaaGreatDoorPx6
import Derived.Test.YtihgpkohglcijaaGreatDoorPx18
import Derived.Test.YtihgpkohglcijaaGreatDoorPx5
import Derived.Test.YtihgpkohglcijaaGreatDoorPx11
import Derived.Test.YtihgpkohglcijaaGreatDoorPx23
import Derived.Test.YtihgpkohglcijaaGreatDoorPx8
import Derived.Test.YtihgpkohglcijaaGreatDoorPx12
import Derived.Test.YtihgpkohglcijaaGreatDoorPx21
import Derived.Test.YtihgpkohglcijaaGreatDoorPx22
import Derived.Test.YtihgpkohglcijaaGreatDoorPx10
import Derived.Test.YtihgpkohglcijaaGreatDoorPx0
import Derived.Test.YtihgpkohglcijaaGreatDoorPx16
import Derived.Test.YtihgpkohglcijaaGreatDoorPx3
import Derived.Test.YtihgpkohglcijaaGreatDoorPx7
import Derived.Test.YtihgpkohglcijaaGreatDoorPx19
import Derived.Test.YtihgpkohglcijaaGreatDoorPx13
import Derived.Test.YtihgpkohglcijaaGreatDoorPx24
import Derived.Test.YtihgpkohglcijaaGreatDoorPx20
import Derived.Test.YtihgpkohglcijaaGreatDoorPx25
import Derived.Test.YtihgpkohglcijaaGreatDoorPx26
/- The plain laws that this law's proof needs, packed into one text (mergep.py). -/
namespace Go.Proofs.YtihgpkohglcijaaGreatDoor.Pl
open Go.RowKit Go.Proofs.YtihgpkohglcijaaGreatDoorW.PrintWords Go.Proofs.YtihgpkohglcijaaGreatDoorW.PrintLast Go.Proofs.YtihgpkohglcijaaGreatDoorW.PrintMore Go.Proofs.YtihgpkohglcijaaGreatDoor.P Go.Proofs.YtihgpkohglcijaaGreatDoor.Mt
theorem toList_loop (b:ByteArray):∀(n i:Nat) (r:List UInt8),b.size - i=n→ByteArray.toList.loop b i r=r.reverse++b.data.toList.drop i:=by
 intro n
 induction n with
 |zero=>
  intro i r h
  unfold ByteArray.toList.loop
  rw[if_neg (by omega),List.drop_eq_nil_of_le (by rw[Array.length_toList];show b.size≤i;omega),List.append_nil]
 |succ n ih=>
  intro i r h
  unfold ByteArray.toList.loop
  have hi:i<b.data.toList.length:=by rw[Array.length_toList];show i<b.size;omega
  rw[if_pos (by omega),ih (i+1) _ (by omega),List.drop_eq_getElem_cons hi,List.reverse_cons,List.append_assoc]
  congr 2
  have:b.get! i=b.data.toList[i]:=by
   show b.data[i]! =_
   rw[getElem!_pos _ i (by rw[Array.length_toList]at hi;exact hi)]
   simp
  rw[this]
  rfl
theorem toList_data (b:ByteArray):b.toList=b.data.toList:=by
 unfold ByteArray.toList
 rw[toList_loop b _ 0 [] rfl]
 rfl
theorem toList_nil (b:ByteArray):b.toList= []↔b.size=0:=by
 rw[toList_data,List.eq_nil_iff_length_eq_zero,Array.length_toList]
 rfl
theorem ext_list {a b:ByteArray} (h:a.toList=b.toList):a=b:=by
 rw[toList_data,toList_data]at h
 exact ByteArray.ext (Array.toList_inj.1 h)
theorem l1In_eq (a b c:Int):spec_l1In.f a b c=some (decide (b≤a∧a≤c)):=by
 unfold spec_l1In.f
 by_cases h:a≥b
 ·rw[if_pos h]
  congr 1
  exact decide_eq_decide.2 ⟨fun k=>⟨h,k⟩,fun k=>k.2⟩
 ·rw[if_neg h]
  congr 1
  symm
  exact decide_eq_false (fun k=>h k.1)
theorem rd_at {l:List Int} {i:Nat} (h:i<l.length):rd l (i:Int)=l[i]:=by
 unfold rd
 rw[Int.toNat_natCast,List.getD_eq_getElem?_getD,List.getElem?_eq_getElem h]
 rfl
theorem rd_mem {l:List Int} {i:Nat} (h:i<l.length):rd l (i:Int)∈l:=by rw[rd_at h];exact List.getElem_mem h
theorem down {P:Nat→Prop} {n:Nat} (h0:P n) (h1:∀i,i<n→P (i+1)→P i):∀i,i≤n→P i:=by
 have key:∀d i,i+d=n→P i:=by
  intro d
  induction d with
  |zero=>intro i hi;rw[show i=n from by omega];exact h0
  |succ d ih=>intro i hi;exact h1 i (by omega) (ih (i+1) (by omega))
 intro i hi
 exact key (n - i) i (by omega)
theorem w1 {i n:Nat} (h:i<n) (hn:n≤9223372036854775807):wrap64 ((i:Int)+1)=((i+1:Nat):Int):=by rw[w64 (by omega) (by omega)];rfl
theorem three {t:Int} (h:1≤t∧t≤3):t=1∨t=2∨t=3:=by omega
def wn (t:Int):Nat:=if t=1 then 2 else if t=2 then 4 else 8
theorem wn_le (t:Int):wn t≤8∧2≤wn t:=by unfold wn;split<;>(try split)<;>omega
theorem shl_wn {t:Int} (h:1≤t∧t≤3):shl .i64 1 t=(wn t:Int):=by rcases three h with rfl|rfl|rfl<;>decide+kernel
/-- How many of 0 .. n-1 are in l. -/
def cntB (l:List Int):Nat→Nat
 |0=>0
 |n+1=>cntB l n+(if(n:Int)∈l then 1 else 0)
def lev (l:List Int) (x:Int):Nat:=cntB l x.toNat
def tidyL (l:List Int):List Int:=l.map fun x=>(lev l x:Int)
theorem cntB_congr {l m:List Int}:∀n:Nat,(∀y:Int,0≤y→y<n→(y∈l↔y∈m))→cntB l n=cntB m n
 |0,_=>rfl
 |n+1,h=>by
  unfold cntB
  rw[cntB_congr n (fun y h0 h1=>h y h0 (by omega))]
  have:=h n (by omega) (by omega)
  by_cases hm:(n:Int)∈l
  ·rw[if_pos hm,if_pos (this.1 hm)]
  ·rw[if_neg hm,if_neg (fun k=>hm (this.2 k))]
theorem cntB_le (l:List Int):∀n,cntB l n≤n
 |0=>Nat.le_refl _
 |n+1=>by unfold cntB;have:=cntB_le l n;split<;>omega
/-- A list without repeats that has just the members of l below n: as many. -/
theorem nodup_cnt {l:List Int}:∀(n:Nat) (s:List Int),s.Nodup→(∀y,y∈s↔(y∈l∧0≤y∧y<n))→s.length=cntB l n
 |0,s,_,h=>by
  cases s with
  |nil=>rfl
  |cons y s=>have:=(h y).1 List.mem_cons_self;omega
 |n+1,s,hd,h=>by
  unfold cntB
  by_cases hn:(n:Int)∈l
  ·rw[if_pos hn]
   have hs:(n:Int)∈s:=(h n).2 ⟨hn,by omega,by omega⟩
   have:=nodup_cnt (l:=l) n (s.erase n) (hd.erase _) (fun y=>by
    rw[hd.mem_erase_iff]
    constructor
    ·rintro⟨a,b⟩
     obtain⟨b,c,d⟩:=(h y).1 b
     exact⟨b,c,by omega⟩
    ·rintro⟨b,c,d⟩
     exact⟨by omega,(h y).2 ⟨b,c,by omega⟩⟩)
   rw[List.length_erase_of_mem hs]at this
   have hp:0<s.length:=List.length_pos_of_mem hs
   omega
  ·rw[if_neg hn]
   exact nodup_cnt n s hd (fun y=>by
    rw[h y]
    constructor
    ·rintro⟨a,b,c⟩;exact⟨a,b,by have:y≠n:=fun e=>hn (e▸a);omega⟩
    ·rintro⟨a,b,c⟩;exact⟨a,b,by omega⟩)
theorem tidyL_length (l:List Int):(tidyL l).length=l.length:=List.length_map ..
/-- Every level below one is taken. -/
theorem lev_full {l:List Int}:∀(n k:Nat),k<cntB l n→∃y∈l,0≤y∧y<n∧lev l y=k
 |0,k,h=>by simp[cntB]at h
 |n+1,k,h=>by
  unfold cntB at h
  by_cases hk:k<cntB l n
  ·obtain⟨y,hy,h0,h1,h2⟩:=lev_full n k hk
   exact⟨y,hy,h0,by omega,h2⟩
  ·by_cases hn:(n:Int)∈l
   ·rw[if_pos hn]at h
    exact⟨n,hn,by omega,by omega,by show cntB l ((n:Int).toNat)=k;rw[Int.toNat_natCast];omega⟩
   ·rw[if_neg hn]at h;omega
theorem mem_tidyL {l:List Int} {y:Int}:y∈tidyL l↔∃x∈l,(lev l x:Int)=y:=by unfold tidyL;rw[List.mem_map]
/-- Tidying twice is tidying once. -/
theorem lev_tidyL {l:List Int} {x:Int} (_:x∈l) (_:0≤x):lev (tidyL l) (lev l x)=lev l x:=by
 have key:∀n:Nat,n≤lev l x→cntB (tidyL l) n=n:=by
  intro n
  induction n with
  |zero=>intro _;rfl
  |succ n ih=>
   intro h
   unfold cntB
   obtain⟨y,hy,_,_,he⟩:=lev_full (l:=l) x.toNat n h
   rw[ih (by omega),if_pos (mem_tidyL.2 ⟨y,hy,by rw[he]⟩)]
 show cntB (tidyL l) ((lev l x:Int).toNat)=lev l x
 rw[Int.toNat_natCast]
 exact key _ (Nat.le_refl _)
theorem tidyL_tidyL {l:List Int} (h:∀x∈l,0≤x):tidyL (tidyL l)=tidyL l:=by
 show(tidyL l).map _=_
 conv=>lhs;arg 2;unfold tidyL
 rw[List.map_map]
 show _=l.map _
 apply List.map_congr_left
 intro x hx
 show((lev (tidyL l) (lev l x):Nat):Int)=_
 rw[lev_tidyL hx (h x hx)]
theorem cntB_cons (z:Int) (l:List Int):∀n:Nat,cntB (z::l) n≤cntB l n+(if 0≤z∧z<n then 1 else 0)
 |0=>by unfold cntB;omega
 |n+1=>by
  have ih:=cntB_cons z l n
  have e1:cntB (z::l) (n+1)=cntB (z::l) n+(if(n:Int)∈z::l then 1 else 0):=rfl
  have e2:cntB l (n+1)=cntB l n+(if(n:Int)∈l then 1 else 0):=rfl
  rw[e1,e2]
  by_cases hz:z=(n:Int)
  ·subst hz
   rw[if_neg (by omega)]at ih
   rw[if_pos (c:=0≤(n:Int)∧_) (by omega)]
   split<;>split<;>omega
  ·have hm:((n:Int)∈z::l)↔(n:Int)∈l:=by rw[List.mem_cons];exact⟨fun h=>h.resolve_left (fun e=>hz e.symm),Or.inr⟩
   by_cases hl:(n:Int)∈l
   ·rw[if_pos (hm.2 hl),if_pos hl]
    split at ih<;>split<;>omega
   ·rw[if_neg (fun k=>hl (hm.1 k)),if_neg hl]
    split at ih<;>split<;>omega
theorem cntB_le_length {l:List Int} {n:Nat}:cntB l n≤(l.filter fun y=>decide (y<(n:Int))).length:=by
 induction l with
 |nil=>
  have:∀n,cntB [] n=0:=by intro n;induction n with|zero=>rfl|succ n ih=>unfold cntB;rw[ih,if_neg (by simp)]
  rw[this];exact Nat.zero_le _
 |cons z l ih=>
  have:=cntB_cons z l n
  rw[List.filter_cons]
  by_cases h:z<(n:Int)
  ·rw[if_pos (by simpa using h),List.length_cons]
   split at this<;>omega
  ·rw[if_neg (by simpa using h)]
   rw[if_neg (by omega)]at this
   omega
theorem lev_lt_length {l:List Int} {x:Int} (hx:x∈l) (h0:0≤x):lev l x<l.length:=by
 have h1:=cntB_le_length (l:=l) (n:=x.toNat)
 have h2:(l.filter fun y=>decide (y<((x.toNat:Nat):Int))).length<l.length:=by
  rw[Int.toNat_of_nonneg h0]
  have hle:=List.length_filter_le (fun y=>decide (y<x)) l
  rcases Nat.lt_or_ge (l.filter fun y=>decide (y<x)).length l.length with h|h
  ·exact h
  ·have he:(l.filter fun y=>decide (y<x)).length=l.length:=by omega
   have:=List.length_filter_eq_length_iff.1 he x hx
   simp at this
 unfold lev
 omega
/-- The least one has level 0. -/
theorem lev_zero {l:List Int} {x:Int} (h:∀y∈l,0≤y→x≤y):lev l x=0:=by
 unfold lev
 have:∀n:Nat,n≤x.toNat→cntB l n=0:=by
  intro n
  induction n with
  |zero=>intro _;rfl
  |succ n ih=>
   intro hn
   unfold cntB
   rw[ih (by omega),if_neg (fun hm=>by have:=h n hm (by omega);omega)]
 exact this _ (Nat.le_refl _)
/-- The place of a member in an ascending list without repeats: how many are less. -/
theorem idx_asc {c:List Int} (hs:c.Pairwise (·<·)) (h0:∀x∈c,0≤x) {i:Nat} (hi:i<c.length):lev c c[i]=i:=by
 have hx0:0≤c[i]:=h0 _ (List.getElem_mem hi)
 unfold lev
 have hn:(c.take i).Nodup:=by
  have:(c.take i).Pairwise (·<·):=hs.sublist (List.take_sublist ..)
  exact this.imp (fun h=>by omega)
 have hget:=List.pairwise_iff_getElem.1 hs
 rw[←nodup_cnt (l:=c) c[i].toNat (c.take i) hn (fun y=>by
  rw[Int.toNat_of_nonneg hx0]
  constructor
  ·intro hy
   obtain⟨j,hj,rfl⟩:=List.mem_iff_getElem.1 hy
   rw[List.length_take]at hj
   rw[List.getElem_take]
   refine⟨List.getElem_mem _,h0 _ (List.getElem_mem _),hget j i (by omega) hi (by omega)⟩
  ·rintro⟨hy,_,hlt⟩
   obtain⟨j,hj,rfl⟩:=List.mem_iff_getElem.1 hy
   have hji:j<i:=by
    rcases(by omega:j<i∨j=i∨i<j)with k|k|k
    ·exact k
    ·subst k;omega
    ·have:=hget i j hi hj k;omega
   rw[List.mem_iff_getElem]
   exact⟨j,by rw[List.length_take];omega,List.getElem_take⟩)]
 rw[List.length_take]
 omega
theorem lev_congr {l m:List Int} (h:∀y,y∈l↔y∈m) (x:Int):lev l x=lev m x:=cntB_congr _ (fun y _ _=>h y)
def rankOk (t:Int) (l:List Int):Bool:=decide ((1≤t∧t≤3)∧l.length=wn t∧(∀x∈l,0≤x∧x≤9)∧(0:Int)∈l)
theorem rankOk_iff {t:Int} {l:List Int}:rankOk t l=true↔(1≤t∧t≤3)∧l.length=wn t∧(∀x∈l,0≤x∧x≤9)∧(0:Int)∈l:=by unfold rankOk;exact decide_eq_true_iff
theorem rd_getD (l:List Int) (i:Nat):rd l (i:Int)=l.getD i 0:=by unfold rd;rw[Int.toNat_natCast]
theorem mn_cases (a b:Int):(mn a b=a∨mn a b=b)∧mn a b≤a∧mn a b≤b:=by unfold mn;split<;>omega
theorem mx_cases (a b:Int):(mx a b=a∨mx a b=b)∧a≤mx a b∧b≤mx a b:=by unfold mx;split<;>omega
theorem RankOk_ev (t:Int) {l:List Int} (hn:l.length≤9223372036854775807):Ev (fun k=>spec_RankOk.f k t l) (rankOk t l):=by
 unfold spec_RankOk.f
 have key:∀i,i≤l.length→∀m:Int,0≤m→m≤9→Ev (fun k=>spec_RankOk.l0 k t l m (i:Int)) (decide ((1≤t∧t≤3)∧l.length=wn t∧(∀x∈l.drop i,0≤x∧x≤9)∧(m=0∨(0:Int)∈l.drop i))):=by
  apply down
  ·intro m h0 h9
   refine Ev.step (fun k=>rfl) (ev_neg (by omega) (ev_bindc (l1In_eq _ _ _) ?_))
   rw[List.drop_length]
   by_cases ht:1≤t∧t≤3
   ·refine ev_pos (decide_eq_true ht) (ev_pos (by omega) ?_)
    rw[shl_wn ht]
    by_cases hl:l.length=wn t
    ·refine ev_pos (by omega) (ev_eq (Ev.now _) ?_)
     by_cases hm:m=0
     ·rw[hm,decide_eq_true ⟨ht,hl,fun x hx=>absurd hx (by simp),Or.inl rfl⟩];rfl
     ·rw[decide_eq_false (fun k=>by rcases k.2.2.2 with h|h;exact hm h;simp at h)]
      exact beq_eq_false_iff_ne.2 hm
    ·refine ev_neg (by omega) (ev_eq (Ev.now _) ?_)
     rw[decide_eq_false (fun k=>hl k.2.1)]
   ·refine ev_neg (by rw[decide_eq_false ht];decide) (ev_eq (Ev.now _) ?_)
    rw[decide_eq_false (fun k=>ht k.1)]
  ·intro i hi ih m h0 h9
   refine Ev.step (fun k=>rfl) (ev_pos (by omega) (ev_pos (by omega) (ev_bindc (l1In_eq _ _ _) ?_)))
   rw[rd_at hi]
   by_cases hr:0≤l[i]∧l[i]≤9
   ·obtain⟨m1,m2,m3⟩:=mn_cases m l[i]
    refine ev_pos (decide_eq_true hr) ?_
    rw[w1 hi hn]
    refine ev_eq (ih (mn m l[i]) (by omega) (by omega)) (decide_eq_decide.2 ?_)
    rw[List.drop_eq_getElem_cons hi]
    simp only[List.mem_cons,forall_eq_or_imp]
    constructor
    ·rintro⟨a,b,c,d⟩
     refine⟨a,b,⟨hr,c⟩,?_⟩
     rcases d with d|d
     ·rcases m1 with m1|m1
      ·exact Or.inl (by omega)
      ·exact Or.inr (Or.inl (by omega))
     ·exact Or.inr (Or.inr d)
    ·rintro⟨a,b,⟨_,c⟩,d⟩
     refine⟨a,b,c,?_⟩
     rcases d with d|d|d
     ·exact Or.inl (by omega)
     ·exact Or.inl (by omega)
     ·exact Or.inr d
   ·refine ev_neg (by rw[decide_eq_false hr];decide) (ev_eq (Ev.now _) ?_)
    rw[decide_eq_false (fun k=>hr (k.2.2.1 _ (by rw[List.drop_eq_getElem_cons hi];exact List.mem_cons_self)))]
 refine ev_eq (key 0 (Nat.zero_le _) 9 (by omega) (by omega)) (decide_eq_decide.2 ?_)
 rw[List.drop_zero]
 exact⟨fun⟨a,b,c,d⟩=>⟨a,b,c,d.resolve_left (by omega)⟩,fun⟨a,b,c,d⟩=>⟨a,b,c,Or.inr d⟩⟩
/-! ### tidy: the reference -/
theorem TidyRank_ev {t:Int} {l:List Int} (h:rankOk t l=true):Ev (fun k=>spec_TidyRank.f k t l) (tidyL l):=by
 obtain⟨ht,hl,hx,_⟩:=rankOk_iff.1 h
 have h8:=(wn_le t).1
 unfold spec_TidyRank.f
 have l2:∀(out:List Int) (w c:Nat) (r:Int) (res:List Int),∀v,v≤l.length→∀b:Bool,
   Ev (fun k=>spec_TidyRank.l1 k t l out (w:Int) (if(b=true∨r∈l.drop v)then wrap64 ((c:Int)+1)else(c:Int)) (wrap64 (r+1))) res→Ev (fun k=>spec_TidyRank.l2 k t l out (w:Int) (c:Int) r b (v:Int)) res:=by
  intro out w c r res
  apply down (P:=fun v=>∀b:Bool,Ev (fun k=>spec_TidyRank.l1 k t l out (w:Int) (if(b=true∨r∈l.drop v)then wrap64 ((c:Int)+1)else(c:Int)) (wrap64 (r+1))) res→Ev (fun k=>spec_TidyRank.l2 k t l out (w:Int) (c:Int) r b (v:Int)) res)
  ·intro b hb
   refine Ev.step (fun k=>rfl) (ev_neg (by omega) ?_)
   rw[List.drop_length]at hb
   cases b with
   |true=>rw[if_pos (Or.inl rfl)]at hb;exact ev_pos rfl hb
   |false=>rw[if_neg (by simp)]at hb;exact ev_neg (by decide) hb
  ·intro v hv ih b hb
   refine Ev.step (fun k=>rfl) (ev_pos (by omega) ?_)
   rw[List.drop_eq_getElem_cons hv]at hb
   cases b with
   |true=>
    refine ev_pos rfl ?_
    rw[w1 hv (by omega)]
    refine ih true ?_
    rw[if_pos (Or.inl rfl)]at hb⊢
    exact hb
   |false=>
    refine ev_neg (by decide) (ev_pos (by omega) ?_)
    rw[rd_at hv,w1 hv (by omega)]
    refine ih _ ?_
    have:((l[v]==r)=true∨r∈l.drop (v+1))↔(false=true∨r∈l[v]::l.drop (v+1)):=by
     rw[List.mem_cons,beq_iff_eq]
     constructor
     ·rintro(h|h)
      ·exact Or.inr (Or.inl h.symm)
      ·exact Or.inr (Or.inr h)
     ·rintro(h|h|h)
      ·cases h
      ·exact Or.inl h.symm
      ·exact Or.inr h
    simp only[this]
    exact hb
 have l1:∀(out:List Int) (w:Nat) (hw:w<l.length) (res:List Int),out.length≤8→Ev (fun k=>spec_TidyRank.l0 k t l (out++ [(lev l l[w]:Int)]) ((w+1:Nat):Int)) res→
   ∀r,r≤(l[w]).toNat→Ev (fun k=>spec_TidyRank.l1 k t l out (w:Int) (cntB l r:Int) (r:Int)) res:=by
  intro out w hw res ho hres
  have hxw:=hx _ (List.getElem_mem hw)
  apply down
  ·refine Ev.step (fun k=>rfl) (ev_pos (by omega) (ev_neg (by rw[rd_at hw];omega) (ev_pos (by omega) ?_)))
   rw[w1 hw (by omega)]
   exact hres
  ·intro r hr ih
   refine Ev.step (fun k=>rfl) (ev_pos (by omega) (ev_pos (by rw[rd_at hw];omega) ?_))
   refine l2 out w (cntB l r) (r:Int) res 0 (Nat.zero_le _) false ?_
   have hc:=cntB_le l r
   have e:(if(false=true∨(r:Int)∈l.drop 0)then wrap64 ((cntB l r:Int)+1)else(cntB l r:Int))=((cntB l (r+1):Nat):Int):=by
    show _=((cntB l r+(if(r:Int)∈l then 1 else 0):Nat):Int)
    rw[List.drop_zero]
    by_cases hm:(r:Int)∈l
    ·rw[if_pos (Or.inr hm),if_pos hm,w64 (by omega) (by omega)];rfl
    ·rw[if_neg (by rintro(k|k);cases k;exact hm k),if_neg hm];rfl
   rw[e,w64 (n:=(r:Int)+1) (by omega) (by omega)]
   exact ih
 have l0:∀w,w≤l.length→Ev (fun k=>spec_TidyRank.l0 k t l ((l.take w).map fun x=>(lev l x:Int)) (w:Int)) (tidyL l):=by
  apply down
  ·refine Ev.step (fun k=>rfl) (ev_neg (by omega) (Ev.step (fun k=>rfl) ?_))
   simp only[spec_TidyRank.j1]
   refine ev_neg (by decide) (ev_eq (Ev.now _) ?_)
   rw[List.take_length]
   rfl
  ·intro w hw ih
   have hr:=RankOk_ev t (l:=l) (by omega)
   rw[h]at hr
   refine Ev.step (fun k=>rfl) (ev_pos (by omega) (Ev.bind hr (Ev.step (fun k=>rfl) ?_)))
   simp only[spec_TidyRank.j1]
   refine ev_pos trivial (l1 _ w hw _ (by rw[List.length_map,List.length_take];omega) ?_ 0 (Nat.zero_le _))
   rw[List.take_succ_eq_append_getElem hw,List.map_append]at ih
   exact ih
 exact l0 0 (Nat.zero_le _)
theorem areThings_eq (a:Int):impl_areThings.f a=some (decide (1≤a∧a≤3)):=by
 unfold impl_areThings.f
 by_cases h:a≥1
 ·rw[if_pos h]
  congr 1
  exact decide_eq_decide.2 ⟨fun k=>⟨h,k⟩,fun k=>k.2⟩
 ·rw[if_neg h]
  congr 1
  symm
  exact decide_eq_false (fun k=>h k.1)
theorem mem_getD {l:List Int} {y:Int}:y∈l↔∃p,p<l.length∧l.getD p 0=y:=by
 rw[List.mem_iff_getElem]
 constructor
 ·rintro⟨p,hp,rfl⟩
  exact⟨p,hp,by simp[hp]⟩
 ·rintro⟨p,hp,rfl⟩
  exact⟨p,hp,by simp[hp]⟩
def UpTo (l:List Int) (i:Nat):Prop:=∀p q,p<q→q<i→l.getD p 0≤l.getD q 0
theorem Min_ev {l:List Int} (h:0<l.length) (hn:l.length≤9223372036854775807):∃r,Ev (fun k=>slices_Min_int_int.f k l) r∧r∈l∧∀y∈l,r≤y:=by
 unfold slices_Min_int_int.f
 have key:∀i,i≤l.length→∀m:Int,∃r,Ev (fun k=>slices_Min_int_int.l0 k l m (i:Int)) r∧(r=m∨r∈l.drop i)∧r≤m∧∀y∈l.drop i,r≤y:=by
  apply down
  ·intro m
   exact⟨m,Ev.step (fun k=>rfl) (ev_neg (by omega) (Ev.now _)),Or.inl rfl,Int.le_refl _,fun y hy=>by rw[List.drop_length]at hy;simp at hy⟩
  ·intro i hi ih m
   obtain⟨r,h1,h2,h3,h4⟩:=ih (mn m l[i])
   obtain⟨m1,m2,m3⟩:=mn_cases m l[i]
   refine⟨r,Ev.step (fun k=>rfl) (ev_pos (by omega) (ev_pos (by omega) (by rw[rd_at hi,w1 hi hn];exact h1))),?_,by omega,?_⟩
   ·rw[List.drop_eq_getElem_cons hi,List.mem_cons]
    rcases h2 with h2|h2
    ·rcases m1 with m1|m1
     ·exact Or.inl (by omega)
     ·exact Or.inr (Or.inl (by omega))
    ·exact Or.inr (Or.inr h2)
   ·rw[List.drop_eq_getElem_cons hi]
    intro y hy
    rcases List.mem_cons.1 hy with rfl|hy
    ·omega
    ·exact h4 y hy
 obtain⟨r,h1,h2,h3,h4⟩:=key 1 h (l[0])
 have e:rd l 0=l[0]:=rd_at (i:=0) h
 have hd:l=l[0]::l.drop 1:=by have:=List.drop_eq_getElem_cons h;rw[List.drop_zero]at this;exact this
 refine⟨r,ev_neg (by omega) (ev_pos (by omega) (by rw[e];exact h1)),?_,fun y hy=>?_⟩
 ·rcases h2 with h2|h2
  ·rw[h2];exact List.getElem_mem h
  ·exact List.mem_of_mem_drop h2
 ·rw[hd]at hy
  rcases List.mem_cons.1 hy with rfl|hy
  ·exact h3
  ·exact h4 y hy
theorem Max_ev {l:List Int} (h:0<l.length) (hn:l.length≤9223372036854775807):∃r,Ev (fun k=>slices_Max_int_int.f k l) r∧r∈l∧∀y∈l,y≤r:=by
 unfold slices_Max_int_int.f
 have key:∀i,i≤l.length→∀m:Int,∃r,Ev (fun k=>slices_Max_int_int.l0 k l m (i:Int)) r∧(r=m∨r∈l.drop i)∧m≤r∧∀y∈l.drop i,y≤r:=by
  apply down
  ·intro m
   exact⟨m,Ev.step (fun k=>rfl) (ev_neg (by omega) (Ev.now _)),Or.inl rfl,Int.le_refl _,fun y hy=>by rw[List.drop_length]at hy;simp at hy⟩
  ·intro i hi ih m
   obtain⟨r,h1,h2,h3,h4⟩:=ih (mx m l[i])
   obtain⟨m1,m2,m3⟩:=mx_cases m l[i]
   refine⟨r,Ev.step (fun k=>rfl) (ev_pos (by omega) (ev_pos (by omega) (by rw[rd_at hi,w1 hi hn];exact h1))),?_,by omega,?_⟩
   ·rw[List.drop_eq_getElem_cons hi,List.mem_cons]
    rcases h2 with h2|h2
    ·rcases m1 with m1|m1
     ·exact Or.inl (by omega)
     ·exact Or.inr (Or.inl (by omega))
    ·exact Or.inr (Or.inr h2)
   ·rw[List.drop_eq_getElem_cons hi]
    intro y hy
    rcases List.mem_cons.1 hy with rfl|hy
    ·omega
    ·exact h4 y hy
 obtain⟨r,h1,h2,h3,h4⟩:=key 1 h (l[0])
 have e:rd l 0=l[0]:=rd_at (i:=0) h
 have hd:l=l[0]::l.drop 1:=by have:=List.drop_eq_getElem_cons h;rw[List.drop_zero]at this;exact this
 refine⟨r,ev_neg (by omega) (ev_pos (by omega) (by rw[e];exact h1)),?_,fun y hy=>?_⟩
 ·rcases h2 with h2|h2
  ·rw[h2];exact List.getElem_mem h
  ·exact List.mem_of_mem_drop h2
 ·rw[hd]at hy
  rcases List.mem_cons.1 hy with rfl|hy
  ·exact h3
  ·exact h4 y hy
theorem isRank_ev (t:Int) {l:List Int} (hn:l.length≤9223372036854775807):Ev (fun k=>impl_isRank.f k t l) (rankOk t l):=by
 unfold impl_isRank.f
 refine ev_bindc (areThings_eq t) ?_
 by_cases ht:1≤t∧t≤3
 ·refine ev_pos (decide_eq_true ht) (ev_pos (by omega) ?_)
  rw[shl_wn ht]
  refine Ev.step (fun k=>rfl) ?_
  simp only[impl_isRank.j0]
  by_cases hl:l.length=wn t
  ·refine ev_neg (by rw[hl];simp) ?_
   have h2:=(wn_le t).2
   obtain⟨m,hm,hm1,hm2⟩:=Min_ev (l:=l) (by omega) hn
   obtain⟨M,hM,hM1,hM2⟩:=Max_ev (l:=l) (by omega) hn
   refine Ev.bind hm ?_
   by_cases h0:m=0
   ·refine ev_pos h0 (Ev.bind hM (ev_eq (Ev.now _) (decide_eq_decide.2 ?_)))
    subst h0
    constructor
    ·intro h9
     exact⟨ht,hl,fun x hx=>⟨hm2 x hx,Int.le_trans (hM2 x hx) h9⟩,hm1⟩
    ·intro h
     exact(h.2.2.1 M hM1).2
   ·refine ev_neg h0 (ev_eq (Ev.now _) ?_)
    unfold rankOk
    rw[decide_eq_false]
    rintro⟨_,_,h1,h2⟩
    have:=hm2 0 h2
    have:=(h1 m hm1).1
    omega
  ·refine ev_pos (by rw[bne_iff_ne];omega) (ev_eq (Ev.now _) ?_)
   unfold rankOk
   rw[decide_eq_false (fun k=>hl k.2.1)]
 ·refine ev_neg (by rw[decide_eq_false ht];decide) (Ev.step (fun k=>rfl) ?_)
  simp only[impl_isRank.j0]
  refine ev_pos trivial (ev_eq (Ev.now _) ?_)
  unfold rankOk
  rw[decide_eq_false (fun k=>ht k.1)]

/-! ### tidy: the program -/
theorem sort_ev {l:List Int} (hn:l.length≤8):∃r,Ev (fun _=>slices_Sort_int_int.f l) r∧UpTo r r.length∧r.length=l.length∧∀y,y∈r↔y∈l:=by
 have hs:(l.mergeSort fun x y=>decide (x≤y)).Pairwise (fun a b=>decide (a≤b)=true):=List.pairwise_mergeSort (fun a b c h1 h2=>by simp only[decide_eq_true_eq]at*;omega) (fun a b=>by simp only[Bool.or_eq_true,decide_eq_true_eq];omega) l
 have hp:=List.mergeSort_perm l fun x y=>decide (x≤y)
 refine⟨_,ev_of (if_pos (by omega)),fun p q h1 h2=>?_,hp.length_eq,fun y=>hp.mem_iff⟩
 have:=List.pairwise_iff_getElem.1 hs p q (by omega) h2 h1
 rw[List.getD_eq_getElem?_getD,List.getD_eq_getElem?_getD,List.getElem?_eq_getElem h2,List.getElem?_eq_getElem (show p<(l.mergeSort fun x y=>decide (x≤y)).length by omega)]
 exact of_decide_eq_true this
theorem compact_spec {l:List Int} (hs:UpTo l l.length):(Lib.compact l).Pairwise (·<·)∧∀y,y∈Lib.compact l↔y∈l:=by
 have hd:∀m,m<l.length→l.toArray[m]! =l.getD m 0:=fun m hm=>by simp[hm]
 have key:∀m,m≤l.length→(Lib.compactUpTo l.toArray m).Pairwise (·<·)∧(∀y∈Lib.compactUpTo l.toArray m,∃p,p<m∧l.getD p 0=y)∧∀p,p<m→l.getD p 0∈Lib.compactUpTo l.toArray m:=by
  intro m
  induction m with
  |zero=>intro _;exact⟨List.Pairwise.nil,fun y hy=>by simp[Lib.compactUpTo]at hy,fun p hp=>by omega⟩
  |succ m ih=>
   intro hm
   obtain⟨h1,h2,h3⟩:=ih (by omega)
   rw[Lib.compactUpTo_succ]
   by_cases hk:Lib.keeps l.toArray m=true
   ·rw[if_pos hk,hd m (by omega)]
    refine⟨List.pairwise_append.2 ⟨h1,List.pairwise_singleton _ _,fun y hy z hz=>?_⟩,fun y hy=>?_,fun p hp=>?_⟩
    ·rw[List.mem_singleton.1 hz]
     obtain⟨p,hp,rfl⟩:=h2 y hy
     unfold Lib.keeps at hk
     rw[decide_eq_true_iff]at hk
     rcases hk with hk|hk
     ·omega
     ·rw[hd m (by omega),hd (m - 1) (by omega)]at hk
      have a:=hs (m - 1) m (by omega) (by omega)
      by_cases e:p=m - 1
      ·rw[e];omega
      ·have:=hs p (m - 1) (by omega) (by omega);omega
    ·rcases List.mem_append.1 hy with hy|hy
     ·obtain⟨p,hp,e⟩:=h2 y hy
      exact⟨p,by omega,e⟩
     ·exact⟨m,by omega,(List.mem_singleton.1 hy).symm⟩
    ·rw[List.mem_append]
     by_cases e:p=m
     ·rw[e];exact Or.inr (List.mem_singleton.2 rfl)
     ·exact Or.inl (h3 p (by omega))
   ·rw[if_neg hk,List.append_nil]
    refine⟨h1,fun y hy=>by obtain⟨p,hp,e⟩:=h2 y hy;exact⟨p,by omega,e⟩,fun p hp=>?_⟩
    by_cases e:p=m
    ·unfold Lib.keeps at hk
     rw[decide_eq_true_iff]at hk
     have hk2:l.toArray[m]! =l.toArray[m - 1]! :=by
      by_cases q:l.toArray[m]! =l.toArray[m - 1]!
      ·exact q
      ·exact absurd (Or.inr q) hk
     have hm0:m≠0:=fun q=>hk (Or.inl q)
     rw[hd m (by omega),hd (m - 1) (by omega)]at hk2
     rw[e,hk2]
     exact h3 (m - 1) (by omega)
    ·exact h3 p (by omega)
 obtain⟨h1,h2,h3⟩:=key l.length (Nat.le_refl _)
 refine⟨h1,fun y=>?_⟩
 rw[mem_getD (l:=l)]
 show y∈Lib.compactUpTo l.toArray l.length↔_
 constructor
 ·intro hy
  obtain⟨p,hp,e⟩:=h2 y hy
  exact⟨p,hp,e⟩
 ·rintro⟨p,hp,rfl⟩
  exact h3 p hp
theorem index_ev {c:List Int} (hc:c.Pairwise (·<·)) (h0:∀x∈c,0≤x) (hn:c.length≤100) {x:Int} (hx:x∈c):Ev (fun k=>slices_Index_int_int.f k c x) (lev c x:Int):=by
 unfold slices_Index_int_int.f
 obtain⟨p,hp,rfl⟩:=List.mem_iff_getElem.1 hx
 rw[idx_asc hc h0 hp]
 have hget:=List.pairwise_iff_getElem.1 hc
 have key:∀i,i≤p→Ev (fun k=>slices_Index_int_int.l0 k c c[p] (c.length:Int) (i:Int)) (p:Int):=by
  apply down
  ·exact Ev.step (fun k=>rfl) (ev_pos (by omega) (ev_pos (by omega) (ev_pos (by omega) (ev_pos (rd_at hp).symm (Ev.now _)))))
  ·intro i hi ih
   have hne:¬c[p]=rd c (i:Int):=by rw[rd_at (by omega)];have:=hget i p (by omega) hp hi;omega
   refine Ev.step (fun k=>rfl) (ev_pos (by omega) (ev_pos (by omega) (ev_pos (by omega) (ev_neg hne ?_))))
   rw[w1 (n:=c.length) (by omega) (by omega)]
   exact ih
 exact key 0 (Nat.zero_le _)
theorem tidy_ev {l:List Int} (hn:l.length≤8) (h0:∀x∈l,0≤x):Ev (fun k=>impl_tidy.f k l) (tidyL l):=by
 unfold impl_tidy.f
 obtain⟨r,h1,h2,h3,h4⟩:=sort_ev hn
 obtain⟨c1,c2⟩:=compact_spec h2
 have hcl:=slices_Compact_int_int.len r
 refine ev_bindc rfl (ev_pos (by show 0+l.length<_;omega) ?_)
 rw[List.nil_append]
 refine Ev.bind h1 (ev_bindc rfl ?_)
 obtain⟨c,ec⟩:∃c,c=Lib.compact r:=⟨_,rfl⟩
 rw[←ec]at c1 c2 hcl⊢
 have hcm:∀y,y∈c↔y∈l:=fun y=>(c2 y).trans (h4 y)
 have key:∀i,i≤l.length→Ev (fun k=>impl_tidy.l0 k c ((l.take i).map fun x=>(lev l x:Int)) l (l.length:Int) (i:Int)) (tidyL l):=by
  apply down
  ·refine Ev.step (fun k=>rfl) (ev_neg (by omega) (ev_eq (Ev.now _) ?_))
   rw[List.take_length]
   rfl
  ·intro i hi ih
   have hx:=index_ev c1 (fun x hx=>h0 x ((hcm x).1 hx)) (by omega) ((hcm l[i]).2 (List.getElem_mem hi))
   rw[lev_congr hcm]at hx
   refine Ev.step (fun k=>rfl) (ev_pos (by omega) (ev_pos (by omega) (ev_pos (by omega) ?_)))
   rw[rd_at hi]
   refine Ev.bind hx (ev_pos (by rw[List.length_map,List.length_take];omega) ?_)
   rw[w1 hi (by omega)]
   rw[List.take_succ_eq_append_getElem hi,List.map_append]at ih
   exact ih
 exact key 0 (Nat.zero_le _)
theorem Equal_ev {l m:List Int} (hn:l.length≤9223372036854775807):Ev (fun k=>slices_Equal_int_int.f k l m) (decide (l=m)):=by
 unfold slices_Equal_int_int.f
 by_cases hl:l.length=m.length
 ·refine ev_pos (by omega) ?_
  have key:∀i,i≤l.length→Ev (fun k=>slices_Equal_int_int.l0 k l m (l.length:Int) (i:Int)) (decide (l.drop i=m.drop i)):=by
   apply down
   ·refine Ev.step (fun k=>rfl) (ev_neg (by omega) (ev_eq (Ev.now _) ?_))
    rw[List.drop_length,List.drop_of_length_le (by omega)]
    exact(decide_eq_true rfl).symm
   ·intro i hi ih
    refine Ev.step (fun k=>rfl) (ev_pos (by omega) (ev_pos (by omega) (ev_pos (by omega) (ev_pos (by omega) ?_))))
    rw[rd_at hi,rd_at (by omega),List.drop_eq_getElem_cons hi,List.drop_eq_getElem_cons (l:=m) (by omega)]
    by_cases e:l[i]=m[i]
    ·refine ev_pos e ?_
     rw[w1 hi hn]
     refine ev_eq ih (decide_eq_decide.2 ?_)
     rw[List.cons.injEq]
     exact⟨fun h=>⟨e,h⟩,fun h=>h.2⟩
    ·refine ev_neg e (ev_eq (Ev.now _) ?_)
     rw[decide_eq_false (fun h=>e (List.cons.inj h).1)]
  have:=key 0 (Nat.zero_le _)
  rw[List.drop_zero,List.drop_zero]at this
  exact this
 ·refine ev_neg (by omega) (ev_eq (Ev.now _) ?_)
  rw[decide_eq_false (fun h=>hl (by rw[h]))]
def all (t:Int):Nat:=if t=1 then 3 else if t=2 then 15 else 255
theorem all_lt (t:Int):all t<256:=by unfold all;split<;>(try split)<;>omega
theorem l1All_eq {t:Int} (h:1≤t∧t≤3):spec_l1All.f t=some (all t:Int):=by
 rcases three h with rfl|rfl|rfl<;>decide+kernel
theorem allWorlds_eq {t:Int} (h:1≤t∧t≤3):impl_allWorlds.f t=some (all t:Int):=by
 rcases three h with rfl|rfl|rfl<;>decide+kernel
def setOk (t s:Int):Bool:=decide ((1≤t∧t≤3)∧0≤s∧s≤all t)
theorem l1Bit_eq (s w:Nat) (h:w≤62):spec_l1Bit.f (s:Int) (w:Int)=some ((bi s w:Nat):Int):=by
 unfold spec_l1Bit.f
 rw[if_pos (by omega),mod_bit s w h]
theorem bi_mul (a b i:Nat):bi a i*bi b i=bi (a&&& b) i:=by
 rw[bi_bit,bi_bit,bi_bit,Nat.testBit_and]
 cases a.testBit i<;>cases b.testBit i<;>rfl
theorem bi_le (a i:Nat):bi a i≤1:=by
 have:bi a i<2:=Nat.mod_lt _ (by decide)
 omega
theorem l1Both_ev {a b:Nat} (ha:a<256):Ev (fun k=>spec_l1Both.f k (a:Int) (b:Int)) ((a&&& b:Nat):Int):=by
 unfold spec_l1Both.f
 have key:∀(i:Nat),i≤8→Ev (fun k=>spec_l1Both.l0 k (a:Int) (b:Int) (((a&&& b)%2^i:Nat):Int) (i:Int)) ((a&&& b:Nat):Int):=by
  apply down
  ·refine Ev.step (fun k=>rfl) (ev_neg (by omega) (ev_eq (Ev.now _) ?_))
   have:a&&& b<2^8:=Nat.lt_of_le_of_lt Nat.and_le_left ha
   rw[Nat.mod_eq_of_lt this]
  ·intro i hi ih
   refine Ev.step (fun k=>rfl) (ev_pos (by omega) (ev_bindc (l1Bit_eq a i (by omega)) (ev_bindc (l1Bit_eq b i (by omega)) (ev_pos (by omega) ?_))))
   have hp:(2:Nat)^i≤2^7:=Nat.pow_le_pow_right (by decide) (by omega)
   have hm:(a&&& b)%2^i<2^i:=Nat.mod_lt _ (Nat.two_pow_pos i)
   have hle:=bi_le (a&&& b) i
   have e1:wrap64 (((bi a i:Nat):Int)*((bi b i:Nat):Int))=((bi (a&&& b) i:Nat):Int):=by
    rw[←Int.natCast_mul,bi_mul]
    exact w64 (by omega) (by omega)
   have hmul:2^i*bi (a&&& b) i≤2^7:=by
    have:=Nat.mul_le_mul hp hle
    omega
   have e2:wrap64 ((((a&&& b)%2^i:Nat):Int)+shl .i64 ((bi (a&&& b) i:Nat):Int) (i:Int))=(((a&&& b)%2^(i+1):Nat):Int):=by
    rw[shlx _ i (by omega),←Int.natCast_mul,Nat.mul_comm,bit_mod]
    generalize 2^i*bi (a&&& b) i=z at hmul
    generalize(a&&& b)%2^i=y at hm
    generalize 2^i=p at hp hm
    rw[w64 (n:=((z:Nat):Int)) (by omega) (by omega),w64 (by omega) (by omega)]
    omega
   rw[e1,e2,w1 hi (by omega)]
   exact ih
 have:=key 0 (Nat.zero_le _)
 simpa [Nat.mod_one] using this
theorem add_pow {S i:Nat} (h:S<2^i):S+2^i=S|||2^i:=by
 have:=Nat.two_pow_add_eq_or_of_lt h 1
 rw[Nat.mul_one]at this
 rw[Nat.add_comm,this,Nat.or_comm]
theorem add_bit {S i:Nat} (h:S<2^i) (j:Nat):(S+2^i).testBit j=(S.testBit j||decide (i=j)):=by
 rw[add_pow h,Nat.testBit_or,Nat.testBit_two_pow]
theorem setThat_l {p:Int→Option Bool} {q:Nat→Bool}:∀(n x s:Nat),x+n≤8→s<2^x→(∀y:Nat,y<x+n→p (y:Int)=some (q y))→
  ∃r:Nat,impl_setThat.l p n (x:Int) (s:Int)=some (r:Int)∧r<2^(x+n)∧∀w,r.testBit w=true↔s.testBit w=true∨(x≤w∧w<x+n∧q w=true)
 |0,x,s,_,hs,_=>⟨s,rfl,hs,fun w=>⟨Or.inl,fun h=>h.resolve_right fun k=>by omega⟩⟩
 |n+1,x,s,h8,hs,hp=>by
  have hx:2^x≤2^7:=Nat.pow_le_pow_right (by decide) (by omega)
  have hx2:2^(x+1)=2^x+2^x:=by rw[Nat.pow_succ];omega
  have hcast:(x:Int)+1=((x+1:Nat):Int):=by omega
  by_cases hq:q x=true
  ·obtain⟨r,h1,h2,h3⟩:=setThat_l n (x+1) (s+2^x) (by omega) (by omega) (fun y hy=>hp y (by omega))
   refine⟨r,?_,by rw[show x+(n+1)=x+1+n from by omega];exact h2,fun w=>?_⟩
   ·show((p (x:Int)).bind fun b=>_)=_
    rw[hp x (by omega),Option.bind_some,hq,if_pos rfl,shl1 x (by omega),bor _ _ (by omega) (by omega),←add_pow hs,hcast]
    exact h1
   ·rw[h3,add_bit hs,Bool.or_eq_true,decide_eq_true_iff]
    constructor
    ·rintro((k|rfl)|k)
     ·exact Or.inl k
     ·exact Or.inr ⟨by omega,by omega,hq⟩
     ·exact Or.inr ⟨by omega,by omega,k.2.2⟩
    ·rintro(k|⟨k1,k2,k3⟩)
     ·exact Or.inl (Or.inl k)
     ·by_cases e:x=w
      ·exact Or.inl (Or.inr e)
      ·exact Or.inr ⟨by omega,by omega,k3⟩
  ·obtain⟨r,h1,h2,h3⟩:=setThat_l n (x+1) s (by omega) (by omega) (fun y hy=>hp y (by omega))
   refine⟨r,?_,by rw[show x+(n+1)=x+1+n from by omega];exact h2,fun w=>?_⟩
   ·show((p (x:Int)).bind fun b=>_)=_
    rw[hp x (by omega),Option.bind_some,if_neg hq,hcast]
    exact h1
   ·rw[h3]
    constructor
    ·rintro(k|k)
     ·exact Or.inl k
     ·exact Or.inr ⟨by omega,by omega,k.2.2⟩
    ·rintro(k|⟨k1,k2,k3⟩)
     ·exact Or.inl k
     ·by_cases e:x=w
      ·rw[←e]at k3;exact absurd k3 hq
      ·exact Or.inr ⟨by omega,by omega,k3⟩
/-! ### the least rank of a set's worlds -/
def minFrom (l:List Int) (s:Nat):Nat→Nat→Int→Int
 |0,_,m=>m
 |d+1,i,m=>minFrom l s d (i+1) (if s.testBit i=true then mn m (l.getD i 0)else m)
def leastOf (l:List Int) (s:Nat):Int:=minFrom l s l.length 0 10
def bset (q:Nat→Bool):Nat→Nat
 |0=>0
 |n+1=>bset q n+(if q n=true then 2^n else 0)
theorem bset_lt (q:Nat→Bool):∀n,bset q n<2^n
 |0=>Nat.one_pos
 |n+1=>by
  have h:=bset_lt q n
  unfold bset
  rw[Nat.pow_succ]
  split<;>omega
theorem bset_bit (q:Nat→Bool) (w:Nat):∀n,(bset q n).testBit w=(decide (w<n)&&q w)
 |0=>by simp[bset]
 |n+1=>by
  have h:=bset_bit q w n
  unfold bset
  by_cases hq:q n=true
  ·rw[if_pos hq,add_bit (bset_lt q n),h]
   by_cases e:n=w
   ·subst e;simp[hq]
   ·rw[decide_eq_false e,Bool.or_false]
    congr 1
    exact decide_eq_decide.2 (by omega)
  ·rw[if_neg hq,Nat.add_zero,h]
   by_cases e:n=w
   ·subst e
    have:q n=false:=by simpa using hq
    simp[this]
   ·congr 1
    exact decide_eq_decide.2 (by omega)
def leastSet (l:List Int) (s:Nat):Nat:=bset (fun w=>s.testBit w&&decide (l.getD w 0=leastOf l s)) l.length
theorem minFrom_bd (l:List Int) (s:Nat) (h:∀x∈l,0≤x):∀(d i:Nat) (m:Int),0≤m→m≤10→0≤minFrom l s d i m∧minFrom l s d i m≤10
 |0,_,m,h0,h1=>⟨h0,h1⟩
 |d+1,i,m,h0,h1=>by
  unfold minFrom
  have hg:0≤l.getD i 0:=by
   by_cases hi:i<l.length
   ·rw[List.getD_eq_getElem?_getD,List.getElem?_eq_getElem hi];exact h _ (List.getElem_mem hi)
   ·rw[List.getD_eq_getElem?_getD,List.getElem?_eq_none (by omega)];exact Int.le_refl _
  obtain⟨a,b,c⟩:=mn_cases m (l.getD i 0)
  split
  ·exact minFrom_bd l s h d (i+1) _ (by omega) (by omega)
  ·exact minFrom_bd l s h d (i+1) _ h0 h1
theorem surprise_ev {l:List Int} (hn:l.length≤60) {s:Nat} (hs:s<256):Ev (fun k=>impl_surpriseOf.f k l (s:Int)) (leastOf l s):=by
 unfold impl_surpriseOf.f leastOf
 have key:∀i,i≤l.length→∀m:Int,Ev (fun k=>impl_surpriseOf.l0 k (s:Int) m l (l.length:Int) (i:Int)) (minFrom l s (l.length - i) i m):=by
  apply down
  ·intro m
   rw[Nat.sub_self]
   exact Ev.step (fun k=>rfl) (ev_neg (by omega) (Ev.now _))
  ·intro i hi ih m
   rw[show l.length - i=(l.length - (i+1))+1 from by omega]
   unfold minFrom
   refine Ev.step (fun k=>rfl) (ev_pos (by omega) (ev_pos (by omega) (ev_pos (by omega) ?_)))
   rw[and_bit s i (by omega) (by omega),w1 hi (by omega),rd_getD]
   by_cases hb:s.testBit i=true
   ·rw[if_pos hb]
    exact ev_pos (bi_one.2 hb) (ih _)
   ·rw[if_neg hb]
    exact ev_neg (fun k=>hb (bi_one.1 k)) (ih _)
 exact key 0 (Nat.zero_le _) 10
theorem revised_ev {t:Int} (ht:1≤t∧t≤3) {l:List Int} (hl:l.length=wn t) {s:Nat} (hs:s<2^wn t):Ev (fun k=>impl_revisedBy.f k t l (s:Int)) ((leastSet l s:Nat):Int):=by
 have h8:=(wn_le t).1
 have hs8:s<256:=Nat.lt_of_lt_of_le hs (Nat.pow_le_pow_right (n:=2) (by decide) h8)
 unfold impl_revisedBy.f
 refine Ev.bind (surprise_ev (by omega) hs8) ?_
 have hp:∀y:Nat,y<0+wn t→impl_revisedBy.p l (leastOf l s) (y:Int)=some (decide (l.getD y 0=leastOf l s)):=by
  intro y hy
  unfold impl_revisedBy.p
  rw[if_pos (by omega),if_pos (by omega),rd_getD]
 obtain⟨r,h1,h2,h3⟩:=setThat_l (p:=impl_revisedBy.p l (leastOf l s)) (q:=fun y=>decide (l.getD y 0=leastOf l s)) (wn t) 0 0 (by omega) Nat.one_pos hp
 have hf:impl_setThat.f (impl_revisedBy.p l (leastOf l s)) t=some (r:Int):=by
  unfold impl_setThat.f
  rw[if_pos (by omega),if_pos (by omega),show 2^t.toNat=wn t from by rcases three ht with rfl|rfl|rfl<;>rfl]
  exact h1
 refine ev_bindc hf (ev_eq (Ev.now _) ?_)
 rw[Nat.zero_add]at h2
 have hr8:r<256:=Nat.lt_of_lt_of_le h2 (Nat.pow_le_pow_right (n:=2) (by decide) (by omega))
 rw[band s r (Nat.lt_trans hs8 (by decide)) (Nat.lt_trans hr8 (by decide))]
 congr 1
 apply Nat.eq_of_testBit_eq
 intro w
 unfold leastSet
 rw[Nat.testBit_and,bset_bit,hl]
 have hb:=h3 w
 rw[Nat.zero_testBit]at hb
 by_cases hw:w<wn t
 ·rw[decide_eq_true hw,Bool.true_and]
  congr 1
  rw[Bool.eq_iff_iff,hb]
  constructor
  ·rintro(k|k)
   ·cases k
   ·exact k.2.2
  ·intro k
   exact Or.inr ⟨Nat.zero_le _,by omega,k⟩
 ·have hf:r.testBit w=false:=by
   rw[Bool.eq_false_iff]
   intro k
   rcases hb.1 k with k|k
   ·cases k
   ·omega
  rw[decide_eq_false hw,hf,Bool.and_false,Bool.false_and]
theorem l2Least_ev {l:List Int} (hn:l.length≤8) (s:Nat):Ev (fun k=>spec_l2Least.f k l (s:Int)) ((leastSet l s:Nat):Int):=by
 unfold spec_l2Least.f
 have two:∀i,i≤l.length→Ev (fun k=>spec_l2Least.l1 k l (s:Int) (leastOf l s) ((bset (fun w=>s.testBit w&&decide (l.getD w 0=leastOf l s)) i:Nat):Int) (i:Int)) ((leastSet l s:Nat):Int):=by
  apply down
  ·exact Ev.step (fun k=>rfl) (ev_neg (by omega) (Ev.now _))
  ·intro i hi ih
   have hb:=bset_lt (fun w=>s.testBit w&&decide (l.getD w 0=leastOf l s)) i
   have hp:2^i≤2^7:=Nat.pow_le_pow_right (by decide) (by omega)
   refine Ev.step (fun k=>rfl) (ev_pos (by omega) (ev_bindc (l1Bit_eq s i (by omega)) ?_))
   rw[w1 hi (by omega)]
   unfold bset at ih
   by_cases hbit:s.testBit i=true
   ·refine ev_pos (bi_one.2 hbit) (ev_pos (by omega) ?_)
    rw[rd_getD]
    by_cases he:l.getD i 0=leastOf l s
    ·refine ev_pos he ?_
     rw[shl1 i (by omega),w64 (by omega) (by omega)]
     rw[if_pos (by rw[hbit,decide_eq_true he];rfl)]at ih
     exact ih
    ·refine ev_neg he ?_
     rw[if_neg (by rw[decide_eq_false he,Bool.and_false];decide)]at ih
     exact ih
   ·refine ev_neg (fun k=>hbit (bi_one.1 k)) ?_
    rw[if_neg (by simp[hbit])]at ih
    exact ih
 have one:∀i,i≤l.length→∀m:Int,minFrom l s (l.length - i) i m=leastOf l s→Ev (fun k=>spec_l2Least.l0 k l (s:Int) m (i:Int)) ((leastSet l s:Nat):Int):=by
  apply down
  ·intro m hm
   rw[Nat.sub_self]at hm
   have:m=leastOf l s:=hm
   rw[this]
   exact Ev.step (fun k=>rfl) (ev_neg (by omega) (two 0 (Nat.zero_le _)))
  ·intro i hi ih m hm
   rw[show l.length - i=(l.length - (i+1))+1 from by omega]at hm
   unfold minFrom at hm
   refine Ev.step (fun k=>rfl) (ev_pos (by omega) (ev_bindc (l1Bit_eq s i (by omega)) ?_))
   rw[w1 hi (by omega)]
   by_cases hbit:s.testBit i=true
   ·refine ev_pos (bi_one.2 hbit) (ev_pos (by omega) ?_)
    rw[rd_getD]
    rw[if_pos hbit]at hm
    exact ih _ hm
   ·refine ev_neg (fun k=>hbit (bi_one.1 k)) ?_
    rw[if_neg hbit]at hm
    exact ih _ hm
 exact one 0 (Nat.zero_le _) 10 rfl
/-! ### raised ranks -/
def raise (l:List Int) (F:Nat):List Int:=l.mapIdx fun w r=>if F.testBit w=true then r else r+10
theorem raise_length (l:List Int) (F:Nat):(raise l F).length=l.length:=List.length_mapIdx
theorem raise_at (l:List Int) (F:Nat) {i:Nat} (h:i<l.length):(raise l F)[i]'(by rw[raise_length];exact h)=if F.testBit i=true then l[i]else l[i]+10:=by
 unfold raise
 rw[List.getElem_mapIdx]
theorem raise_mem {l:List Int} {F:Nat} {y:Int} (h:y∈raise l F):∃x∈l,y=x∨y=x+10:=by
 obtain⟨i,hi,rfl⟩:=List.mem_iff_getElem.1 h
 rw[raise_length]at hi
 rw[raise_at l F hi]
 refine⟨l[i],List.getElem_mem hi,?_⟩
 split
 ·exact Or.inl rfl
 ·exact Or.inr rfl
def chg (l:List Int) (way:Int) (s:Nat):List Int:=tidyL (raise l (if way=0 then leastSet l s else s))
theorem leastSet_lt {l:List Int} (hn:l.length≤8) (s:Nat):leastSet l s<256:=Nat.lt_of_lt_of_le (bset_lt _ _) (Nat.pow_le_pow_right (n:=2) (by decide) hn)
theorem changed_ev {t:Int} (ht:1≤t∧t≤3) {l:List Int} (hl:l.length=wn t) (hx:∀x∈l,0≤x∧x≤9) {s:Nat} (hs:s<2^wn t) (way:Int):Ev (fun k=>impl_changedBy.f k t l way (s:Int)) (chg l way s):=by
 have h8:=(wn_le t).1
 have hs8:s<256:=Nat.lt_of_lt_of_le hs (Nat.pow_le_pow_right (n:=2) (by decide) h8)
 have go:∀F:Nat,F<256→Ev (fun k=>impl_changedBy.j0 k l (F:Int)) (tidyL (raise l F)):=by
  intro F hF
  have ht8:=tidy_ev (l:=raise l F) (by rw[raise_length];omega) (fun y hy=>by obtain⟨x,h1,h2⟩:=raise_mem hy;have:=hx x h1;omega)
  have key:∀i,i≤l.length→Ev (fun k=>impl_changedBy.l0 k (F:Int) ((raise l F).take i) l (l.length:Int) (i:Int)) (tidyL (raise l F)):=by
   apply down
   ·refine Ev.step (fun k=>rfl) (ev_neg (by omega) ?_)
    rw[List.take_of_length_le (by rw[raise_length];omega)]
    exact Ev.bind ht8 (Ev.now _)
   ·intro i hi ih
    have hi2:i<(raise l F).length:=by rw[raise_length];exact hi
    have hlen:((raise l F).take i).length<17592186044416:=by rw[List.length_take];omega
    have hxi:=hx _ (List.getElem_mem hi)
    rw[List.take_succ_eq_append_getElem hi2,raise_at l F hi]at ih
    refine Ev.step (fun k=>rfl) (ev_pos (by omega) (ev_pos (by omega) (ev_pos (by omega) ?_)))
    rw[and_bit F i (by omega) (by omega),w1 hi (by omega),rd_at hi]
    by_cases hb:F.testBit i=true
    ·rw[if_pos hb]at ih
     exact ev_neg (fun k=>by rw[bi_zero.1 k]at hb;cases hb) (ev_pos hlen ih)
    ·rw[if_neg hb]at ih
     refine ev_pos (bi_zero.2 (by simpa using hb)) (ev_pos hlen ?_)
     rw[w64 (by omega) (by omega)]
     exact ih
  exact Ev.step (f:=fun k=>impl_changedBy.l0 k (F:Int) (([]:List Int)) l (l.length:Int) 0) (fun k=>rfl) (key 0 (Nat.zero_le _))
 unfold impl_changedBy.f chg
 by_cases hw:way=0
 ·rw[if_pos hw]
  exact ev_pos hw (Ev.bind (revised_ev ht hl hs) (go _ (leastSet_lt (by omega) s)))
 ·rw[if_neg hw]
  exact ev_neg hw (go s hs8)
/-! ### the reference's tidying -/
theorem l6Tidy_ev {l:List Int} (hn:l.length≤8) (h0:∀x∈l,0≤x):Ev (fun k=>spec_l6Tidy.f k l) (tidyL l):=by
 unfold spec_l6Tidy.f
 have three_:∀(out:List Int) (w:Nat) (seen:List Int) (v:Nat) (hv:v<l.length) (res:List Int),seen.length≤100→∀j,j≤seen.length→∀b:Bool,
   Ev (fun k=>spec_l6Tidy.l1 k l out (w:Int) (if b=true∨l[v]∈seen.drop j then seen else seen++ [l[v]]) ((v+1:Nat):Int)) res→Ev (fun k=>spec_l6Tidy.l2 k l out (w:Int) seen (v:Int) b (j:Int)) res:=by
  intro out w seen v hv res hs
  apply down (P:=fun j=>∀b:Bool,Ev (fun k=>spec_l6Tidy.l1 k l out (w:Int) (if b=true∨l[v]∈seen.drop j then seen else seen++ [l[v]]) ((v+1:Nat):Int)) res→Ev (fun k=>spec_l6Tidy.l2 k l out (w:Int) seen (v:Int) b (j:Int)) res)
  ·intro b hb
   refine Ev.step (fun k=>rfl) (ev_neg (by omega) ?_)
   rw[List.drop_length]at hb
   cases b with
   |true=>
    refine ev_pos rfl ?_
    rw[w1 hv (by omega)]
    rw[if_pos (Or.inl rfl)]at hb
    exact hb
   |false=>
    refine ev_neg (by decide) (ev_pos (by omega) (ev_pos (by omega) (ev_pos (by omega) ?_)))
    rw[w1 hv (by omega),rd_at hv]
    rw[if_neg (by simp)]at hb
    exact hb
  ·intro j hj ih b hb
   rw[List.drop_eq_getElem_cons hj]at hb
   refine Ev.step (fun k=>rfl) (ev_pos (by omega) ?_)
   cases b with
   |true=>
    refine ev_pos rfl ?_
    rw[w1 hj (by omega)]
    refine ih true ?_
    rw[if_pos (Or.inl rfl)]at hb⊢
    exact hb
   |false=>
    refine ev_neg (by decide) (ev_pos (by omega) (ev_pos (by omega) (ev_pos (by omega) ?_)))
    rw[w1 hj (by omega),rd_at hj,rd_at hv]
    refine ih _ ?_
    have:((seen[j]==l[v])=true∨l[v]∈seen.drop (j+1))↔(false=true∨l[v]∈seen[j]::seen.drop (j+1)):=by
     rw[List.mem_cons,beq_iff_eq]
     constructor
     ·rintro(h|h)
      ·exact Or.inr (Or.inl h.symm)
      ·exact Or.inr (Or.inr h)
     ·rintro(h|h|h)
      ·cases h
      ·exact Or.inl h.symm
      ·exact Or.inr h
    simp only[this]
    exact hb
 have two:∀(out:List Int) (w:Nat) (hw:w<l.length) (res:List Int),out.length≤100→Ev (fun k=>spec_l6Tidy.l0 k l (out++ [(lev l l[w]:Int)]) ((w+1:Nat):Int)) res→
   ∀v,v≤l.length→∀seen:List Int,seen.Nodup→seen.length≤v→(∀y,y∈seen↔y∈l.take v∧y<l[w])→Ev (fun k=>spec_l6Tidy.l1 k l out (w:Int) seen (v:Int)) res:=by
  intro out w hw res ho hres
  have hw0:=h0 _ (List.getElem_mem hw)
  apply down
  ·intro seen hd _ hm
   refine Ev.step (fun k=>rfl) (ev_neg (by omega) (ev_pos (by omega) ?_))
   rw[w1 hw (by omega)]
   have e:seen.length=lev l l[w]:=nodup_cnt _ seen hd (fun y=>by
    rw[hm y,List.take_length]
    constructor
    ·rintro⟨a,b⟩;exact⟨a,h0 y a,by omega⟩
    ·rintro⟨a,b,c⟩;exact⟨a,by omega⟩)
   rw[e]
   exact hres
  ·intro v hv ih seen hd hsl hm
   have hv0:=h0 _ (List.getElem_mem hv)
   refine Ev.step (fun k=>rfl) (ev_pos (by omega) (ev_pos (by omega) (ev_pos (by omega) (ev_pos (by omega) ?_))))
   rw[rd_at hv,rd_at hw]
   refine three_ out w seen v hv res (by omega) 0 (Nat.zero_le _) _ ?_
   rw[List.drop_zero]
   have hmem:∀y,y∈l.take (v+1)↔y∈l.take v∨y=l[v]:=fun y=>by rw[List.take_succ_eq_append_getElem hv,List.mem_append,List.mem_singleton]
   by_cases hc:decide (l[v]≥l[w])=true∨l[v]∈seen
   ·rw[if_pos hc]
    refine ih seen hd (by omega) (fun y=>?_)
    rw[hm y,hmem y]
    constructor
    ·rintro⟨a,b⟩;exact⟨Or.inl a,b⟩
    ·rintro⟨a|a,b⟩
     ·exact⟨a,b⟩
     ·rcases hc with hc|hc
      ·have:=of_decide_eq_true hc;omega
      ·have:=(hm _).1 hc;rw[a];exact⟨this.1,by omega⟩
   ·rw[if_neg hc]
    have h1:¬l[v]≥l[w]:=fun k=>hc (Or.inl (decide_eq_true k))
    have h2:l[v]∉seen:=fun k=>hc (Or.inr k)
    refine ih (seen++ [l[v]]) ?_ (by rw[List.length_append,List.length_singleton];omega) (fun y=>?_)
    ·rw[List.nodup_append]
     refine⟨hd,by simp,fun a ha b hb=>?_⟩
     rw[List.mem_singleton.1 hb]
     intro e
     exact h2 (e▸ha)
    ·rw[List.mem_append,List.mem_singleton,hm y,hmem y]
     constructor
     ·rintro(⟨a,b⟩|a)
      ·exact⟨Or.inl a,b⟩
      ·exact⟨Or.inr a,by omega⟩
     ·rintro⟨a|a,b⟩
      ·exact Or.inl ⟨a,b⟩
      ·exact Or.inr a
 have one:∀w,w≤l.length→Ev (fun k=>spec_l6Tidy.l0 k l ((l.take w).map fun x=>(lev l x:Int)) (w:Int)) (tidyL l):=by
  apply down
  ·refine Ev.step (fun k=>rfl) (ev_neg (by omega) (ev_eq (Ev.now _) ?_))
   rw[List.take_length]
   rfl
  ·intro w hw ih
   rw[List.take_succ_eq_append_getElem hw,List.map_append]at ih
   exact Ev.step (fun k=>rfl) (ev_pos (by omega) (two _ w hw _ (by rw[List.length_map,List.length_take];omega) ih 0 (Nat.zero_le _) [] List.nodup_nil (Nat.le_refl _) (fun y=>by simp)))
 exact one 0 (Nat.zero_le _)
theorem l6Rise_ev {l:List Int} (hn:l.length≤8) (hx:∀x∈l,0≤x∧x≤9) (F:Nat):Ev (fun k=>spec_l6Rise.f k l (F:Int)) (tidyL (raise l F)):=by
 unfold spec_l6Rise.f
 have ht8:=l6Tidy_ev (l:=raise l F) (by rw[raise_length];omega) (fun y hy=>by obtain⟨x,h1,h2⟩:=raise_mem hy;have:=hx x h1;omega)
 have key:∀i,i≤l.length→Ev (fun k=>spec_l6Rise.l0 k l (F:Int) ((raise l F).take i) (i:Int)) (tidyL (raise l F)):=by
  apply down
  ·refine Ev.step (fun k=>rfl) (ev_neg (by omega) ?_)
   rw[List.take_of_length_le (by rw[raise_length];omega)]
   exact Ev.bind ht8 (Ev.now _)
  ·intro i hi ih
   have hi2:i<(raise l F).length:=by rw[raise_length];exact hi
   have hlen:((raise l F).take i).length<17592186044416:=by rw[List.length_take];omega
   have hxi:=hx _ (List.getElem_mem hi)
   rw[List.take_succ_eq_append_getElem hi2,raise_at l F hi]at ih
   refine Ev.step (fun k=>rfl) (ev_pos (by omega) (ev_pos (by omega) (ev_bindc (l1Bit_eq F i (by omega)) (ev_pos hlen ?_))))
   rw[w1 hi (by omega),rd_at hi,bi_bit]
   by_cases hb:F.testBit i=true
   ·rw[if_pos hb]at ih⊢
    rw[show wrap64 (l[i]+wrap64 (wrap64 (1 - ((1:Nat):Int))*10))=l[i] from by rw[w64 (n:=1 - ((1:Nat):Int)) (by omega) (by omega),w64 (n:=(1 - ((1:Nat):Int))*10) (by omega) (by omega),w64 (by omega) (by omega)];omega]
    exact ih
   ·rw[if_neg hb]at ih⊢
    rw[show wrap64 (l[i]+wrap64 (wrap64 (1 - ((0:Nat):Int))*10))=l[i]+10 from by rw[w64 (n:=1 - ((0:Nat):Int)) (by omega) (by omega),w64 (n:=(1 - ((0:Nat):Int))*10) (by omega) (by omega),w64 (by omega) (by omega)];omega]
    exact ih
 exact key 0 (Nat.zero_le _)
def tset (c:Nat):Nat→Nat
 |0=>0
 |w+1=>tset c w+2^w*bi w c
theorem tset_lt (c:Nat):∀w,tset c w<2^w
 |0=>Nat.one_pos
 |w+1=>by
  have h:=tset_lt c w
  have hb:bi w c≤1:=bi_le w c
  show tset c w+2^w*bi w c<_
  rw[Nat.pow_succ]
  have:2^w*bi w c≤2^w*1:=Nat.mul_le_mul_left _ hb
  omega
theorem all_wn {t:Int} (h:1≤t∧t≤3):all t+1=2^wn t:=by rcases three h with rfl|rfl|rfl<;>decide
theorem wn_8 (t:Int):2^wn t≤256:=Nat.pow_le_pow_right (n:=2) (by decide) (wn_le t).1
def opS (t:Int) (b:Int) (x y:Nat):Option Nat:=if b=38 then some (x&&& y)else if b=124 then some (x|||y)else if b=62 then some ((all t^^^x)|||y)else none
def rdS (t:Int) (s:ByteArray):Nat→Nat→Option (Nat×Nat)
 |0,_=>none
 |n+1,i=>if i<s.size then
   (if bt s i=49 then some (all t,i+1)else if bt s i=48 then some (0,i+1)
   else if 97≤bt s i∧bt s i - 97<t then some (tset (bt s i - 97).toNat (wn t),i+1)
   else if bt s i=33 then(rdS t s n (i+1)).map fun x=>(all t^^^x.1,x.2)
   else if bt s i=40 then(rdS t s n (i+1)).bind fun x=>if x.2<s.size then(rdS t s n (x.2+1)).bind fun y=>if y.2<s.size∧bt s y.2=41 then(opS t (bt s x.2) x.1 y.1).map fun z=>(z,y.2+1)else none else none
   else none)else none
theorem xor_lt {t:Int} (h:1≤t∧t≤3) {a:Nat} (ha:a<2^wn t):all t^^^a<2^wn t:=Nat.xor_lt_two_pow (by have:=all_wn h;omega) ha
theorem opS_lt {t:Int} (h:1≤t∧t≤3) {b:Int} {x y z:Nat} (hx:x<2^wn t) (hy:y<2^wn t) (hz:opS t b x y=some z):z<2^wn t:=by
 unfold opS at hz
 split at hz
 ·cases hz;exact Nat.lt_of_le_of_lt Nat.and_le_left hx
 split at hz
 ·cases hz;exact Nat.or_lt_two_pow hx hy
 split at hz
 ·cases hz;exact Nat.or_lt_two_pow (xor_lt h hx) hy
 ·cases hz
theorem rdS_range {t:Int} (ht:1≤t∧t≤3) (s:ByteArray):∀(n i:Nat) (x:Nat×Nat),rdS t s n i=some x→x.1<2^wn t∧i<x.2∧x.2≤s.size:=by
 intro n
 induction n with
 |zero=>intro i x h;cases h
 |succ n ih=>
  intro i x h
  unfold rdS at h
  by_cases hlt:i<s.size
  ·rw[if_pos hlt]at h
   split at h
   ·cases h;exact⟨by have:=all_wn ht;show all t<_;omega,by show i<i+1;omega,by show i+1≤_;omega⟩
   split at h
   ·cases h;exact⟨Nat.two_pow_pos _,by show i<i+1;omega,by show i+1≤_;omega⟩
   split at h
   ·cases h;exact⟨tset_lt _ _,by show i<i+1;omega,by show i+1≤_;omega⟩
   split at h
   ·obtain⟨y,hy,rfl⟩:=Option.map_eq_some_iff.1 h
    obtain⟨a,b,c⟩:=ih _ _ hy
    exact⟨xor_lt ht a,by show i<y.2;omega,c⟩
   split at h
   ·obtain⟨y,hy,h⟩:=Option.bind_eq_some_iff.1 h
    obtain⟨a,b,c⟩:=ih _ _ hy
    split at h
    ·obtain⟨z,hz,h⟩:=Option.bind_eq_some_iff.1 h
     obtain⟨a',b',c'⟩:=ih _ _ hz
     split at h
     ·rename_i hc
      obtain⟨v,hv,rfl⟩:=Option.map_eq_some_iff.1 h
      exact⟨opS_lt ht a a' hv,by show i<z.2+1;omega,by show z.2+1≤_;omega⟩
     ·cases h
    ·cases h
   ·cases h
  ·rw[if_neg hlt]at h
   cases h
theorem sub_xor {t:Int} (ht:1≤t∧t≤3) {a:Nat} (ha:a<2^wn t):all t - a=all t^^^a:=by
 rcases three ht with rfl|rfl|rfl
 ·exact(by decide:∀a:Fin 4,3 - a.val=3^^^a.val) ⟨a,ha⟩
 ·exact(by decide:∀a:Fin 16,15 - a.val=15^^^a.val) ⟨a,ha⟩
 ·exact(by decide+kernel:∀a:Fin 256,255 - a.val=255^^^a.val) ⟨a,ha⟩
theorem add_and_or {a b:Nat} (ha:a<256) (hb:b<256):a+b - (a&&& b)=a|||b:=
 (by decide+kernel:∀a b:Fin 256,a.val+b.val - (a.val&&& b.val)=a.val|||b.val) ⟨a,ha⟩ ⟨b,hb⟩
theorem either_ev {a b:Nat} (ha:a<256) (hb:b<256):Ev (fun k=>spec_l1Either.f k (a:Int) (b:Int)) ((a|||b:Nat):Int):=by
 refine Ev.bind (l1Both_ev (b:=b) ha) (ev_eq (Ev.now _) ?_)
 have h1:a&&& b≤a:=Nat.and_le_left
 rw[←add_and_or ha hb,w64 (n:=(a:Int)+b) (by omega) (by omega),w64 (by omega) (by omega)]
 omega
def outS:Option (Nat×Nat)→Int×Int
 |some x=>((x.1:Int),(x.2:Int))
 |none=>(-1, -1)
theorem tset_step:∀c:Fin 3,∀w:Fin 8,wrap64 ((tset c.val w.val:Nat)+(shl .i64 (Int.tmod (shr .i64 (w.val:Int) (((97+(c.val:Int)) - 97)%256)) 2) (w.val:Int)))=((tset c.val (w.val+1):Nat):Int):=by decide+kernel
theorem sub9 {z i m n:Nat} (h:z - i≤n+1) (h1:i<m):z - (m+1)≤n:=by omega
theorem le9 {z:Nat} (h:z≤1000000000):z≤9223372036854775807:=by omega
set_option maxHeartbeats 2000000 in
theorem l1Read_ev {t:Int} (ht:1≤t∧t≤3) (s:ByteArray) (hs:s.size≤1000000000):∀(n:Nat) (i:Nat),s.size - i≤n→Ev (fun k=>spec_l1Read.f k t s (i:Int)) (outS (rdS t s n i)):=by
 intro n
 induction n with
 |zero=>
  intro i hi
  exact Ev.step (fun k=>rfl) (ev_pos (by omega) (Ev.now _))
 |succ n ih=>
  intro i hi
  unfold rdS
  by_cases hge:(i:Int)≥(s.size:Int)
  ·rw[if_neg (by omega)]
   exact Ev.step (fun k=>rfl) (ev_pos hge (Ev.now _))
  have hlt:i<s.size:=by omega
  obtain⟨al,eal⟩:∃al:Int,al=((all t:Nat):Int):=⟨_,rfl⟩
  have hal:spec_l1All.f t=some al:=by rw[eal];exact l1All_eq ht
  have e1:wrap64 ((i:Int)+1)=((i+1:Nat):Int):=w1 hlt (by omega)
  rw[if_pos hlt]
  by_cases h49:bt s i=49
  ·rw[if_pos h49]
   refine Ev.step (fun k=>rfl) (ev_neg hge (ev_bindc (hal) (ev_pos (by omega) (ev_pos (by omega) (ev_pos h49 ?_)))))
   rw[e1,eal]
   exact Ev.now _
  rw[if_neg h49]
  by_cases h48:bt s i=48
  ·rw[if_pos h48]
   refine Ev.step (fun k=>rfl) (ev_neg hge (ev_bindc (hal) (ev_pos (by omega) (ev_pos (by omega) (ev_neg h49 (ev_pos h48 ?_))))))
   rw[e1]
   exact Ev.now _
  rw[if_neg h48]
  have hb:=bt_range s i
  by_cases hth:97≤bt s i∧bt s i - 97<t
  ·rw[if_pos hth]
   refine Ev.step (fun k=>rfl) (ev_neg hge (ev_bindc (hal) (ev_pos (by omega) (ev_pos (by omega) (ev_neg h49 (ev_neg h48 (ev_pos (by omega) ?_)))))))
   rw[decide_eq_true (by omega)]
   obtain⟨c,hc⟩:∃c:Nat,bt s i=97+(c:Int):=⟨(bt s i - 97).toNat,by omega⟩
   have hc3:c<3:=by omega
   rw[show(bt s i - 97).toNat=c from by omega]
   have loop:∀w,w≤wn t→Ev (fun k=>spec_l1Read.l0 k t s (i:Int) ((tset c w:Nat):Int) (w:Int)) (((tset c (wn t):Nat):Int),((i+1:Nat):Int)):=by
    have hw:=wn_le t
    apply down
    ·refine Ev.step (fun k=>rfl) (ev_pos (by omega) (ev_neg (by rw[shl_wn ht];omega) ?_))
     rw[e1]
     exact Ev.now _
    ·intro w hw' ih2
     refine Ev.step (fun k=>rfl) (ev_pos (by omega) (ev_pos (by rw[shl_wn ht];omega) (ev_pos (by omega) (ev_pos (by omega) (ev_pos (by omega) ?_)))))
     rw[w1 hw' (by omega),hc,tset_step ⟨c,hc3⟩ ⟨w,by omega⟩]
     exact ih2
   exact Ev.step (f:=fun k=>spec_l1Read.l0 k t s (i:Int) 0 0) (fun k=>rfl) (loop 0 (Nat.zero_le _))
  rw[if_neg hth]
  have st:∀{g:Nat→Option (Int×Int)} {r} {al:Int},(∀k,g k=(if 0≤(i:Int)then(if(i:Int)<(s.size:Int)then(if(bt s i)=33 then((spec_l1Read.f k t s (wrap64 ((i:Int)+1))).bind fun bt324=>(if bt324.2<0 then(some ((-1),(-1)))else(some (wrap64 (al - bt324.1),bt324.2))))else(if(bt s i)=40 then((spec_l1Read.f k t s (wrap64 ((i:Int)+1))).bind fun bt326=>(if bt326.2<0 then(spec_l1Read.j2 k t s al bt326.1 bt326.2 true)else(spec_l1Read.j2 k t s al bt326.1 bt326.2 (decide (bt326.2≥(s.size:Int))))))else(some ((-1),(-1)))))else(none))else(none)))→Ev g r→Ev (fun k=>spec_l1Read.j0 k t s (i:Int) al false) r:=fun hg h=>Ev.step (fun k=>(hg k).symm) h
  have go:∀{r},Ev (fun k=>spec_l1Read.j0 k t s (i:Int) al false) r→Ev (fun k=>spec_l1Read.f k t s (i:Int)) r:=by
   intro r h
   refine Ev.step (fun k=>rfl) (ev_neg hge (ev_bindc (hal) (ev_pos (by omega) (ev_pos (by omega) (ev_neg h49 (ev_neg h48 ?_))))))
   by_cases h97:bt s i≥97
   ·refine ev_pos h97 ?_
    rw[decide_eq_false (by omega)]
    exact h
   ·exact ev_neg h97 h
  refine go ?_
  have h1:=ih (i+1) (by omega)
  by_cases h33:bt s i=33
  ·rw[if_pos h33]
   refine st (fun k=>rfl) (ev_pos (by omega) (ev_pos (by omega) (ev_pos h33 ?_)))
   rw[e1]
   refine Ev.bind h1 ?_
   cases hr:rdS t s n (i+1)with
   |none=>exact ev_pos (by show(-1:Int)<0;omega) (Ev.now _)
   |some x=>
    obtain⟨a,b,c⟩:=rdS_range ht s _ _ _ hr
    refine ev_neg (by show¬((x.2:Int)<0);clear a;omega) (ev_eq (Ev.now _) ?_)
    show(wrap64 (al - (x.1:Int)),(x.2:Int))=(((all t^^^x.1:Nat):Int),(x.2:Int))
    have hle:x.1≤all t:=Nat.le_of_lt_succ (Nat.lt_of_lt_of_eq a (all_wn ht).symm)
    have ha8:=all_lt t
    rw[eal,←sub_xor ht a,w64 (by clear a;omega) (by clear a;omega)]
    clear a
    congr 1
    omega
  rw[if_neg h33]
  by_cases h40:bt s i=40
  ·rw[if_pos h40]
   refine st (fun k=>rfl) (ev_pos (Int.natCast_nonneg i) (ev_pos (Int.ofNat_lt.2 hlt) (ev_neg h33 (ev_pos h40 ?_))))
   rw[e1]
   refine Ev.bind h1 ?_
   have bad2:∀a e:Int,Ev (fun k=>spec_l1Read.j2 k t s al a e true) (-1, -1):=fun a e=>Ev.step (f:=fun _=>some (-1, -1)) (fun k=>rfl) (Ev.now _)
   have bad3:∀a e a2 e2:Int,Ev (fun k=>spec_l1Read.j3 k s al a e a2 e2 true) (-1, -1):=fun a e a2 e2=>Ev.step (f:=fun _=>some (-1, -1)) (fun k=>rfl) (Ev.now _)
   cases hr:rdS t s n (i+1)with
   |none=>exact ev_pos (by decide) (bad2 _ _)
   |some x=>
    obtain⟨ra,rb,rc⟩:=rdS_range ht s _ _ _ hr
    obtain⟨a1,m⟩:=x
    simp only at ra rb rc
    have ra8:a1<256:=Nat.lt_of_lt_of_le ra (wn_8 t)
    replace ra:Asd (a1<2^wn t):=⟨ra⟩
    refine ev_neg (Int.not_lt.2 (Int.natCast_nonneg m)) ?_
    show Ev (fun k=>spec_l1Read.j2 k t s al (a1:Int) (m:Int) (decide ((m:Int)≥(s.size:Int)))) (outS (if m<s.size then(rdS t s n (m+1)).bind fun y=>if y.2<s.size∧bt s y.2=41 then(opS t (bt s m) a1 y.1).map fun z=>(z,y.2+1)else none else none))
    by_cases hm:m<s.size
    ·have hm1:¬((m:Int)≥(s.size:Int)):=Int.not_le.2 (Int.ofNat_lt.2 hm)
     rw[if_pos hm,decide_eq_false hm1]
     have em:wrap64 ((m:Int)+1)=((m+1:Nat):Int):=w1 hm (le9 hs)
     have h2:=ih (m+1) (sub9 hi (Nat.lt_of_succ_lt rb))
     refine Ev.step (f:=fun k=>(spec_l1Read.f k t s (wrap64 ((m:Int)+1))).bind fun bt328=>(if bt328.2<0 then(spec_l1Read.j3 k s al (a1:Int) (m:Int) bt328.1 bt328.2 true)else(if bt328.2≥(s.size:Int)then(spec_l1Read.j3 k s al (a1:Int) (m:Int) bt328.1 bt328.2 true)else(if 0≤bt328.2 then(if bt328.2<(s.size:Int)then(spec_l1Read.j3 k s al (a1:Int) (m:Int) bt328.1 bt328.2 ((bt s bt328.2) !=41))else(none))else(none))))) (fun k=>rfl) ?_
     rw[em]
     refine Ev.bind h2 ?_
     cases hr2:rdS t s n (m+1)with
     |none=>exact ev_pos (by decide) (bad3 _ _ _ _)
     |some y=>
      obtain⟨sa,sb,sc⟩:=rdS_range ht s _ _ _ hr2
      obtain⟨a2,e⟩:=y
      simp only at sa sb sc
      have sa8:a2<256:=Nat.lt_of_lt_of_le sa (wn_8 t)
      clear sa
      refine ev_neg (Int.not_lt.2 (Int.natCast_nonneg e)) ?_
      show Ev (fun k=>if(e:Int)≥(s.size:Int)then(spec_l1Read.j3 k s al (a1:Int) (m:Int) (a2:Int) (e:Int) true)else(if 0≤(e:Int)then(if(e:Int)<(s.size:Int)then(spec_l1Read.j3 k s al (a1:Int) (m:Int) (a2:Int) (e:Int) ((bt s e) !=41))else(none))else(none))) (outS (if e<s.size∧bt s e=41 then(opS t (bt s m) a1 a2).map fun z=>(z,e+1)else none))
      by_cases he:e<s.size
      ·refine ev_neg (Int.not_le.2 (Int.ofNat_lt.2 he)) (ev_pos (Int.natCast_nonneg e) (ev_pos (Int.ofNat_lt.2 he) ?_))
       by_cases h41:bt s e=41
       ·rw[if_pos ⟨he,h41⟩,show(bt s e !=41)=false from by rw[h41];rfl]
        have ee:wrap64 ((e:Int)+1)=((e+1:Nat):Int):=w1 he (le9 hs)
        have st3:∀{g:Nat→Option (Int×Int)} {r},(∀k,g k=(if 0≤(m:Int)then(if(m:Int)<(s.size:Int)then(if(bt s m)=38 then((spec_l1Both.f k (a1:Int) (a2:Int)).bind fun t330=>(some (t330,wrap64 ((e:Int)+1))))else(if(bt s m)=124 then((spec_l1Either.f k (a1:Int) (a2:Int)).bind fun t331=>(some (t331,wrap64 ((e:Int)+1))))else(if(bt s m)=62 then((spec_l1Either.f k (wrap64 (al - (a1:Int))) (a2:Int)).bind fun t332=>(some (t332,wrap64 ((e:Int)+1))))else(some ((-1),(-1))))))else(none))else(none)))→Ev g r→Ev (fun k=>spec_l1Read.j3 k s al (a1:Int) (m:Int) (a2:Int) (e:Int) false) r:=fun hg h=>Ev.step (fun k=>(hg k).symm) h
        refine st3 (fun k=>rfl) (ev_pos (Int.natCast_nonneg m) (ev_pos (Int.ofNat_lt.2 hm) ?_))
        rw[ee]
        unfold opS
        by_cases q1:bt s m=38
        ·rw[if_pos q1]
         exact ev_pos q1 (Ev.bind (l1Both_ev ra8) (Ev.now _))
        rw[if_neg q1]
        refine ev_neg q1 ?_
        by_cases q2:bt s m=124
        ·rw[if_pos q2]
         exact ev_pos q2 (Ev.bind (either_ev ra8 sa8) (Ev.now _))
        rw[if_neg q2]
        refine ev_neg q2 ?_
        by_cases q3:bt s m=62
        ·rw[if_pos q3]
         refine ev_pos q3 ?_
         have hx:=xor_lt ht ra.out
         have hle:a1≤all t:=Nat.le_of_lt_succ (Nat.lt_of_lt_of_eq ra.out (all_wn ht).symm)
         have ha8:=all_lt t
         have ew:wrap64 (al - (a1:Int))=((all t^^^a1:Nat):Int):=by rw[eal,←sub_xor ht ra.out,w64 (by clear hx;omega) (by clear hx;omega)];clear hx;omega
         rw[ew]
         exact Ev.bind (either_ev (Nat.lt_of_lt_of_le hx (wn_8 t)) sa8) (Ev.now _)
        rw[if_neg q3]
        exact ev_neg q3 (Ev.now _)
       ·rw[if_neg (fun k=>h41 k.2),show(bt s e !=41)=true from bne_iff_ne.2 h41]
        exact bad3 _ _ _ _
      ·rw[if_neg (fun k=>he k.1)]
       exact ev_pos (Int.ofNat_le.2 (Nat.le_of_not_lt he)) (bad3 _ _ _ _)
    ·have hm2:(m:Int)≥(s.size:Int):=Int.ofNat_le.2 (Nat.le_of_not_lt hm)
     rw[if_neg hm,decide_eq_true hm2]
     exact bad2 _ _
  rw[if_neg h40]
  exact st (fun k=>rfl) (ev_pos (Int.natCast_nonneg i) (ev_pos (Int.ofNat_lt.2 hlt) (ev_neg h33 (ev_neg h40 (Ev.now _)))))
def holds (t:Int) (s:ByteArray):Int×Bool:=if(1≤t∧t≤3)∧s.size≤120 then(match rdS t s s.size 0 with|some x=>if x.2=s.size then((x.1:Int),true)else(-1,false)|none=>(-1,false))else(-1,false)
theorem holds_range {t:Int} {s:ByteArray} {a:Int} (h:holds t s=(a,true)):(1≤t∧t≤3)∧0≤a∧a≤all t:=by
 unfold holds at h
 split at h
 ·rename_i hc
  split at h
  ·rename_i x hx
   split at h
   ·obtain⟨ra,_,_⟩:=rdS_range hc.1 s _ _ _ hx
    have:=all_wn hc.1
    have:(x.1:Int)=a:=congrArg Prod.fst h
    exact⟨hc.1,by omega,by omega⟩
   ·cases h
  ·cases h
 ·cases h
theorem spec_HoldsIn_ev (t:Int) (s:ByteArray):Ev (fun k=>spec_HoldsIn.f k t s) (holds t s):=by
 unfold spec_HoldsIn.f holds
 have bad:Ev (fun k=>spec_HoldsIn.j0 k t s true) (-1,false):=Ev.step (f:=fun _=>some (-1,false)) (fun k=>rfl) (Ev.now _)
 by_cases ht:1≤t∧t≤3
 ·by_cases hs:(s.size:Int)>120
  ·rw[if_neg (by omega)]
   refine ev_bindc (l1In_eq _ _ _) (ev_pos (by simpa using ht) ?_)
   rw[decide_eq_true hs]
   exact bad
  ·rw[if_pos ⟨ht,by omega⟩]
   have h:=l1Read_ev ht s (by omega) s.size 0 (by omega)
   refine ev_bindc (l1In_eq _ _ _) (ev_pos (by simpa using ht) ?_)
   rw[decide_eq_false hs]
   refine Ev.step (f:=fun k=>(spec_l1Read.f k t s 0).bind fun bt334=>(if bt334.2=(s.size:Int)then(some (bt334.1,true))else(some ((-1),false)))) (fun k=>rfl) (Ev.bind h ?_)
   cases hr:rdS t s s.size 0 with
   |none=>exact ev_neg (by show¬((-1:Int)=_);omega) (Ev.now _)
   |some x=>
    show Ev (fun k=>if(x.2:Int)=(s.size:Int)then(some ((x.1:Int),true))else(some ((-1),false))) (if x.2=s.size then((x.1:Int),true)else(-1,false))
    by_cases he:x.2=s.size
    ·rw[if_pos he]
     exact ev_pos (by omega) (Ev.now _)
    ·rw[if_neg he]
     exact ev_neg (by omega) (Ev.now _)
 ·rw[if_neg (fun k=>ht k.1)]
  exact ev_bindc (l1In_eq _ _ _) (ev_neg (by simpa using ht) bad)
theorem next_at {t:Int} {s:ByteArray} {i:Nat} (hs:s.size≤1000000000) (h:i<s.size):impl_sentenceReader_next.f t s (i:Int)=some (bt s i,t,s,((i+1:Nat):Int)):=by
 unfold impl_sentenceReader_next.f
 have e1:wrap64 ((i:Int)+1)=((i+1:Nat):Int):=w1 h (by omega)
 have e2:wrap64 (((i+1:Nat):Int) - 1)=(i:Int):=by rw[w64 (by omega) (by omega)];omega
 rw[if_neg (by omega),e1,e2,if_pos (by omega),if_pos (by omega)]
theorem next_end {t:Int} {s:ByteArray}:impl_sentenceReader_next.f t s (s.size:Int)=some (0,t,s,(s.size:Int)):=by
 unfold impl_sentenceReader_next.f
 rw[if_pos rfl]
theorem thing_set:∀t:Fin 3,∀c:Fin 3,impl_setThat.f (impl_sentenceReader_sentence.p (c.val:Int)) ((t.val:Int)+1)=some ((tset c.val (wn ((t.val:Int)+1)):Nat):Int):=by decide+kernel
theorem thing_ev {t:Int} (ht:1≤t∧t≤3) (c:Nat) (hc:c<3):impl_setThat.f (impl_sentenceReader_sentence.p (c:Int)) t=some ((tset c (wn t):Nat):Int):=by
 have:=thing_set ⟨(t - 1).toNat,by omega⟩ ⟨c,hc⟩
 rw[show(((t - 1).toNat:Nat):Int)+1=t from by omega]at this
 exact this
theorem sub8 {z i n:Nat} (h:z - i≤n+1):z - (i+1)≤n:=by omega
theorem small {a:Nat} (h:a<256):a<2^62:=Nat.lt_trans h (by decide)
/-- What the program's reader gives at a place: the set and the place behind, or no sentence. -/
def Got (o:Option (Nat×Nat)) (_s:ByteArray) (x:Int) (b:Bool) (p:Int):Prop:=match o with
 |some y=>x=(y.1:Int)∧b=true∧p=(y.2:Int)
 |none=>b=false
set_option maxHeartbeats 2000000 in
theorem rsent_ev {t:Int} (ht:1≤t∧t≤3) (s:ByteArray) (hs:s.size≤1000000000):∀(n:Nat) (i:Nat),i≤s.size→s.size - i≤n→∃x b p,Ev (fun k=>impl_sentenceReader_sentence.f k t s (i:Int)) (x,b,t,s,p)∧Got (rdS t s n i) s x b p:=by
 have last:∀(i:Nat),i=s.size→Ev (fun k=>impl_sentenceReader_sentence.f k t s (i:Int)) (0,false,t,s,(i:Int)):=by
  rintro i rfl
  exact Ev.step (fun k=>rfl) (ev_bindc (allWorlds_eq ht) (ev_bindc next_end (ev_neg (show¬((0:Int)=48) by decide) (ev_neg (show¬((0:Int)=49) by decide) (ev_neg (show¬((0:Int)=97) by decide) (ev_neg (show¬((0:Int)=98) by decide) (ev_neg (show¬((0:Int)=99) by decide) (ev_neg (show¬((0:Int)=33) by decide) (ev_neg (show¬((0:Int)=40) by decide) (Ev.now _))))))))))
 intro n
 induction n with
 |zero=>intro i hi hn;exact⟨0,false,_,last i (by omega),rfl⟩
 |succ n ih=>
  intro i hi hn
  by_cases hge:i=s.size
  ·refine⟨0,false,_,last i hge,?_⟩
   unfold rdS
   rw[if_neg (by omega)]
   rfl
  have hlt:i<s.size:=by omega
  unfold rdS
  rw[if_pos hlt]
  have st:∀{r},Ev (fun k=>(fun(al:Int) (b:Int×Int×ByteArray×Int)=>
   if b.1=48 then some (0,true,b.2.1,b.2.2.1,b.2.2.2)
   else if b.1=49 then some (al,true,b.2.1,b.2.2.1,b.2.2.2)
   else if b.1=97 then(impl_setThat.f (impl_sentenceReader_sentence.p 0) b.2.1).bind fun x=>some (x,decide (0<b.2.1),b.2.1,b.2.2.1,b.2.2.2)
   else if b.1=98 then(impl_setThat.f (impl_sentenceReader_sentence.p 1) b.2.1).bind fun x=>some (x,decide (1<b.2.1),b.2.1,b.2.2.1,b.2.2.2)
   else if b.1=99 then(impl_setThat.f (impl_sentenceReader_sentence.p 2) b.2.1).bind fun x=>some (x,decide (2<b.2.1),b.2.1,b.2.2.1,b.2.2.2)
   else if b.1=33 then(impl_sentenceReader_sentence.f k b.2.1 b.2.2.1 b.2.2.2).bind fun c=>some (Go.bits .xor .i64 al c.1,c.2.1,c.2.2.1,c.2.2.2.1,c.2.2.2.2)
   else if b.1=40 then(impl_sentenceReader_sentence.f k b.2.1 b.2.2.1 b.2.2.2).bind fun c=>
    if c.2.1=true then(impl_sentenceReader_next.f c.2.2.1 c.2.2.2.1 c.2.2.2.2).bind fun sg=>(impl_sentenceReader_sentence.f k sg.2.1 sg.2.2.1 sg.2.2.2).bind fun d=>
     if d.2.1=true then(impl_sentenceReader_next.f d.2.2.1 d.2.2.2.1 d.2.2.2.2).bind fun e=>
      if e.1=41 then
       (if sg.1=38 then some (Go.bits .and .i64 c.1 d.1,true,e.2.1,e.2.2.1,e.2.2.2)
       else if sg.1=124 then some (Go.bits .or .i64 c.1 d.1,true,e.2.1,e.2.2.1,e.2.2.2)
       else if sg.1=62 then some (Go.bits .or .i64 (Go.bits .xor .i64 al c.1) d.1,true,e.2.1,e.2.2.1,e.2.2.2)
       else some (0,false,e.2.1,e.2.2.1,e.2.2.2))
      else some (0,false,e.2.1,e.2.2.1,e.2.2.2)
     else some (0,false,d.2.2.1,d.2.2.2.1,d.2.2.2.2)
    else some (0,false,c.2.2.1,c.2.2.2.1,c.2.2.2.2)
   else some (0,false,b.2.1,b.2.2.1,b.2.2.2)) ((all t:Nat):Int) (bt s i,t,s,((i+1:Nat):Int))) r→Ev (fun k=>impl_sentenceReader_sentence.f k t s (i:Int)) r:=by
   intro r h
   exact Ev.step (fun k=>rfl) (ev_bindc (allWorlds_eq ht) (ev_bindc (next_at hs hlt) h))
  by_cases h49:bt s i=49
  ·rw[if_pos h49]
   exact⟨_,true,_,st (ev_neg (by show¬bt s i=48;omega) (ev_pos h49 (Ev.now _))),rfl,rfl,rfl⟩
  rw[if_neg h49]
  by_cases h48:bt s i=48
  ·rw[if_pos h48]
   exact⟨_,true,_,st (ev_pos h48 (Ev.now _)),rfl,rfl,rfl⟩
  rw[if_neg h48]
  by_cases h97:bt s i=97
  ·refine⟨_,decide ((0:Int)<t),_,st (ev_neg h48 (ev_neg h49 (ev_pos h97 (ev_bindc (thing_ev ht 0 (by decide)) (Ev.now _))))),?_⟩
   rw[if_pos (by omega),decide_eq_true (by omega),h97]
   exact⟨rfl,rfl,rfl⟩
  by_cases h98:bt s i=98
  ·refine⟨_,decide ((1:Int)<t),_,st (ev_neg h48 (ev_neg h49 (ev_neg h97 (ev_pos h98 (ev_bindc (thing_ev ht 1 (by decide)) (Ev.now _)))))),?_⟩
   by_cases h:1<t
   ·rw[if_pos (by omega),decide_eq_true h,h98]
    exact⟨rfl,rfl,rfl⟩
   ·rw[if_neg (by omega),decide_eq_false h,if_neg (by omega),if_neg (by omega)]
    rfl
  by_cases h99:bt s i=99
  ·refine⟨_,decide ((2:Int)<t),_,st (ev_neg h48 (ev_neg h49 (ev_neg h97 (ev_neg h98 (ev_pos h99 (ev_bindc (thing_ev ht 2 (by decide)) (Ev.now _))))))),?_⟩
   by_cases h:2<t
   ·rw[if_pos (by omega),decide_eq_true h,h99]
    exact⟨rfl,rfl,rfl⟩
   ·rw[if_neg (by omega),decide_eq_false h,if_neg (by omega),if_neg (by omega)]
    rfl
  rw[if_neg (show¬(97≤bt s i∧bt s i - 97<t) by omega)]
  obtain⟨x1,b1,p1,hx1,hg1⟩:=ih (i+1) hlt (sub8 hn)
  have pre:∀{g:Nat→Option (Int×Bool×Int×ByteArray×Int)} {r},Ev g r→Ev (fun k=>if bt s i=48 then some (0,true,t,s,((i+1:Nat):Int))else if bt s i=49 then some (((all t:Nat):Int),true,t,s,((i+1:Nat):Int))else if bt s i=97 then(impl_setThat.f (impl_sentenceReader_sentence.p 0) t).bind fun x=>some (x,decide (0<t),t,s,((i+1:Nat):Int))else if bt s i=98 then(impl_setThat.f (impl_sentenceReader_sentence.p 1) t).bind fun x=>some (x,decide (1<t),t,s,((i+1:Nat):Int))else if bt s i=99 then(impl_setThat.f (impl_sentenceReader_sentence.p 2) t).bind fun x=>some (x,decide (2<t),t,s,((i+1:Nat):Int))else g k) r:=fun h=>ev_neg h48 (ev_neg h49 (ev_neg h97 (ev_neg h98 (ev_neg h99 h))))
  by_cases h33:bt s i=33
  ·rw[if_pos h33]
   refine⟨_,b1,p1,st (pre (ev_pos h33 (Ev.bind hx1 (Ev.now _)))),?_⟩
   cases hr:rdS t s n (i+1)with
   |none=>rw[hr]at hg1;exact hg1
   |some y=>
    rw[hr]at hg1
    obtain⟨rfl,rfl,rfl⟩:=hg1
    obtain⟨ra,_,_⟩:=rdS_range ht s _ _ _ hr
    exact⟨bxor _ _ (small (all_lt t)) (small (Nat.lt_of_lt_of_le ra (wn_8 t))),rfl,rfl⟩
  rw[if_neg h33]
  by_cases h40:bt s i=40
  ·rw[if_pos h40]
   have go:∀{x b p},Ev (fun k=>if b1=true then(impl_sentenceReader_next.f t s p1).bind fun sg=>(impl_sentenceReader_sentence.f k sg.2.1 sg.2.2.1 sg.2.2.2).bind fun d=>
     if d.2.1=true then(impl_sentenceReader_next.f d.2.2.1 d.2.2.2.1 d.2.2.2.2).bind fun e=>
      if e.1=41 then
       (if sg.1=38 then some (Go.bits .and .i64 x1 d.1,true,e.2.1,e.2.2.1,e.2.2.2)
       else if sg.1=124 then some (Go.bits .or .i64 x1 d.1,true,e.2.1,e.2.2.1,e.2.2.2)
       else if sg.1=62 then some (Go.bits .or .i64 (Go.bits .xor .i64 ((all t:Nat):Int) x1) d.1,true,e.2.1,e.2.2.1,e.2.2.2)
       else some (0,false,e.2.1,e.2.2.1,e.2.2.2))
      else some (0,false,e.2.1,e.2.2.1,e.2.2.2)
     else some (0,false,d.2.2.1,d.2.2.2.1,d.2.2.2.2)
    else some (0,false,t,s,p1)) (x,b,t,s,p)→Ev (fun k=>impl_sentenceReader_sentence.f k t s (i:Int)) (x,b,t,s,p):=by
    intro x b p h
    exact st (pre (ev_neg h33 (ev_pos h40 (Ev.bind hx1 h))))
   cases hr:rdS t s n (i+1)with
   |none=>
    rw[hr]at hg1
    have:b1=false:=hg1
    subst this
    exact⟨0,false,p1,go (ev_ff (Ev.now _)),rfl⟩
   |some y=>
    rw[hr]at hg1
    obtain⟨a1,m⟩:=y
    obtain⟨rfl,rfl,rfl⟩:=hg1
    obtain⟨ra,rb,rc⟩:=rdS_range ht s _ _ _ hr
    simp only at ra rb rc
    have ra8:=small (Nat.lt_of_lt_of_le ra (wn_8 t))
    have rx8:=small (Nat.lt_of_lt_of_le (xor_lt ht ra) (wn_8 t))
    clear ra
    by_cases hm:m<s.size
    ·obtain⟨x2,b2,p2,hx2,hg2⟩:=ih (m+1) hm (sub9 hn (Nat.lt_of_succ_lt rb))
     show∃x b p,Ev _ _∧Got (if m<s.size then(rdS t s n (m+1)).bind fun y=>if y.2<s.size∧bt s y.2=41 then(opS t (bt s m) a1 y.1).map fun z=>(z,y.2+1)else none else none) s x b p
     rw[if_pos hm]
     have go2:∀{x b p},Ev (fun k=>if b2=true then(impl_sentenceReader_next.f t s p2).bind fun e=>
       if e.1=41 then
        (if bt s m=38 then some (Go.bits .and .i64 ((a1:Nat):Int) x2,true,e.2.1,e.2.2.1,e.2.2.2)
        else if bt s m=124 then some (Go.bits .or .i64 ((a1:Nat):Int) x2,true,e.2.1,e.2.2.1,e.2.2.2)
        else if bt s m=62 then some (Go.bits .or .i64 (Go.bits .xor .i64 ((all t:Nat):Int) ((a1:Nat):Int)) x2,true,e.2.1,e.2.2.1,e.2.2.2)
        else some (0,false,e.2.1,e.2.2.1,e.2.2.2))
       else some (0,false,e.2.1,e.2.2.1,e.2.2.2)
      else some (0,false,t,s,p2)) (x,b,t,s,p)→Ev (fun k=>impl_sentenceReader_sentence.f k t s (i:Int)) (x,b,t,s,p):=by
      intro x b p h
      exact go (ev_tt (ev_bindc (next_at hs hm) (Ev.bind hx2 h)))
     cases hr2:rdS t s n (m+1)with
     |none=>
      rw[hr2]at hg2
      have:b2=false:=hg2
      subst this
      exact⟨0,false,p2,go2 (ev_ff (Ev.now _)),rfl⟩
     |some z=>
      rw[hr2]at hg2
      obtain⟨a2,e⟩:=z
      obtain⟨rfl,rfl,rfl⟩:=hg2
      obtain⟨sa,sb,sc⟩:=rdS_range ht s _ _ _ hr2
      simp only at sa sb sc
      have sa8:=small (Nat.lt_of_lt_of_le sa (wn_8 t))
      clear sa
      show∃x b p,Ev _ _∧Got (if e<s.size∧bt s e=41 then(opS t (bt s m) a1 a2).map fun z=>(z,e+1)else none) s x b p
      by_cases he:e<s.size
      ·by_cases h41:bt s e=41
       ·rw[if_pos ⟨he,h41⟩]
        have go3:∀{x b p},Ev (fun _=>if bt s m=38 then some (Go.bits .and .i64 ((a1:Nat):Int) ((a2:Nat):Int),true,t,s,((e+1:Nat):Int))
          else if bt s m=124 then some (Go.bits .or .i64 ((a1:Nat):Int) ((a2:Nat):Int),true,t,s,((e+1:Nat):Int))
          else if bt s m=62 then some (Go.bits .or .i64 (Go.bits .xor .i64 ((all t:Nat):Int) ((a1:Nat):Int)) ((a2:Nat):Int),true,t,s,((e+1:Nat):Int))
          else some (0,false,t,s,((e+1:Nat):Int))) (x,b,t,s,p)→Ev (fun k=>impl_sentenceReader_sentence.f k t s (i:Int)) (x,b,t,s,p):=by
         intro x b p h
         exact go2 (ev_tt (ev_bindc (next_at hs he) (ev_pos h41 h)))
        unfold opS
        by_cases q1:bt s m=38
        ·rw[if_pos q1]
         exact⟨_,true,_,go3 (ev_pos q1 (Ev.now _)),band _ _ ra8 sa8,rfl,rfl⟩
        rw[if_neg q1]
        by_cases q2:bt s m=124
        ·rw[if_pos q2]
         exact⟨_,true,_,go3 (ev_neg q1 (ev_pos q2 (Ev.now _))),bor _ _ ra8 sa8,rfl,rfl⟩
        rw[if_neg q2]
        by_cases q3:bt s m=62
        ·rw[if_pos q3]
         refine⟨_,true,_,go3 (ev_neg q1 (ev_neg q2 (ev_pos q3 (Ev.now _)))),?_,rfl,rfl⟩
         rw[bxor _ _ (small (all_lt t)) ra8]
         exact bor _ _ rx8 sa8
        rw[if_neg q3]
        exact⟨0,false,_,go3 (ev_neg q1 (ev_neg q2 (ev_neg q3 (Ev.now _)))),rfl⟩
       ·rw[if_neg (fun k=>h41 k.2)]
        exact⟨0,false,_,go2 (ev_tt (ev_bindc (next_at hs he) (ev_neg h41 (Ev.now _)))),rfl⟩
      ·rw[if_neg (fun k=>he k.1)]
       have ez:e=s.size:=Nat.le_antisymm sc (Nat.le_of_not_lt he)
       subst ez
       exact⟨0,false,_,go2 (ev_tt (ev_bindc next_end (ev_neg (show¬((0:Int)=41) by decide) (Ev.now _)))),rfl⟩
    ·show∃x b p,Ev _ _∧Got (if m<s.size then(rdS t s n (m+1)).bind fun y=>if y.2<s.size∧bt s y.2=41 then(opS t (bt s m) a1 y.1).map fun z=>(z,y.2+1)else none else none) s x b p
     rw[if_neg hm]
     have ez:m=s.size:=Nat.le_antisymm rc (Nat.le_of_not_lt hm)
     subst ez
     exact⟨0,false,_,go (ev_tt (ev_bindc next_end (Ev.bind (last _ rfl) (ev_ff (Ev.now _))))),rfl⟩
  rw[if_neg h40]
  exact⟨0,false,_,st (pre (ev_neg h33 (ev_neg h40 (Ev.now _)))),rfl⟩
theorem holdsIn_ev {t:Int} (ht:1≤t∧t≤3) (s:ByteArray) (hs:s.size≤120):Ev (fun k=>impl_holdsIn.f k t s) (holds t s):=by
 obtain⟨x,b,p,hx,hg⟩:=rsent_ev ht s (by omega) s.size 0 (Nat.zero_le _) (by omega)
 unfold holds impl_holdsIn.f
 rw[if_pos ⟨ht,hs⟩]
 refine Ev.bind hx ?_
 cases hr:rdS t s s.size 0 with
 |none=>
  rw[hr]at hg
  have:b=false:=hg
  subst this
  exact ev_ff (Ev.now _)
 |some y=>
  rw[hr]at hg
  obtain⟨rfl,rfl,rfl⟩:=hg
  refine ev_tt ?_
  show Ev (fun _=>if(y.2:Int)=(s.size:Int)then some ((y.1:Int),true)else some (-1,false)) (if y.2=s.size then((y.1:Int),true)else(-1,false))
  by_cases he:y.2=s.size
  ·rw[if_pos he]
   exact ev_pos (by omega) (Ev.now _)
  ·rw[if_neg he]
   exact ev_neg (by omega) (Ev.now _)
theorem impl_HoldsIn_ev (t:Int) (s:ByteArray):Ev (fun k=>impl_HoldsIn.f k t s) (holds t s):=by
 unfold impl_HoldsIn.f
 refine ev_bindc (areThings_eq t) ?_
 by_cases ht:1≤t∧t≤3
 ·refine ev_pos (decide_eq_true ht) ?_
  by_cases hs:(s.size:Int)>120
  ·unfold holds
   rw[if_neg (by omega)]
   exact ev_pos hs (Ev.now _)
  ·exact ev_neg hs (Ev.bind (holdsIn_ev ht s (by omega)) (Ev.now _))
 ·unfold holds
  rw[if_neg (fun k=>ht k.1)]
  exact ev_neg (by simpa using ht) (Ev.now _)
theorem SetOk_eq (t s:Int):spec_SetOk.f t s=some (setOk t s):=by
 unfold spec_SetOk.f setOk
 rw[l1In_eq,Option.bind_some]
 by_cases h:1≤t∧t≤3
 ·rw[decide_eq_true h,if_pos rfl,l1All_eq h,Option.bind_some,l1In_eq,Option.bind_some]
  congr 1
  exact decide_eq_decide.2 ⟨fun k=>⟨h,k⟩,fun k=>k.2⟩
 ·rw[decide_eq_false h,if_neg (by decide)]
  congr 1
  symm
  exact decide_eq_false (fun k=>h k.1)
def farL (t:Int) (s:Nat):List Int:=(impl_farFrom.f 120 t (s:Int)).getD []
def farOk (t s:Nat):Bool:=match impl_farFrom.f 120 (t:Int) (s:Int)with
 |some l=>decide (spec_FarFrom.f 120 (t:Int) (s:Int)=some l)&&decide (l.length=2^t)
 |none=>false
theorem far1:(List.range 3).all (fun s=>farOk 1 (s+1))=true:=by decide+kernel
theorem far2:(List.range 15).all (fun s=>farOk 2 (s+1))=true:=by decide+kernel
theorem far3:(List.range 255).all (fun s=>farOk 3 (s+1))=true:=by decide+kernel
theorem all_range {p:Nat→Bool} {n:Nat} (h:(List.range n).all p=true) {i:Nat} (hi:i<n):p i=true:=List.all_eq_true.1 h i (List.mem_range.2 hi)
theorem far_ok {t:Int} (ht:1≤t∧t≤3) {s:Nat} (h0:s≠0) (hs:s≤all t):farOk t.toNat s=true:=by
 obtain⟨s,rfl⟩:∃r,s=r+1:=⟨s - 1,by omega⟩
 rcases three ht with rfl|rfl|rfl
 ·exact all_range far1 (by have:all 1=3:=rfl;omega)
 ·exact all_range far2 (by have:all 2=15:=rfl;omega)
 ·exact all_range far3 (by have:all 3=255:=rfl;omega)
theorem far_facts {t:Int} (ht:1≤t∧t≤3) {s:Nat} (h0:s≠0) (hs:s≤all t):
  impl_farFrom.f 120 t (s:Int)=some (farL t s)∧spec_FarFrom.f 120 t (s:Int)=some (farL t s)∧(farL t s).length=wn t:=by
 have h:=far_ok ht h0 hs
 obtain⟨n,rfl⟩:=Int.eq_ofNat_of_zero_le (show 0≤t by omega)
 unfold farOk at h
 unfold farL
 rw[Int.toNat_natCast]at h
 cases e:impl_farFrom.f 120 (n:Int) (s:Int)with
 |none=>rw[e]at h;cases h
 |some l=>
  rw[e]at h
  simp only[Bool.and_eq_true,decide_eq_true_eq]at h
  exact⟨rfl,h.1,h.2.trans (by rcases three ht with h|h|h<;>(rw[h];have:n=n:=rfl;obtain rfl:=Int.ofNat.inj h;rfl))⟩
theorem farFrom_ev {t:Int} (ht:1≤t∧t≤3) {s:Nat} (h0:s≠0) (hs:s≤all t):Ev (fun k=>impl_farFrom.f k t (s:Int)) (farL t s):=Ev.of (fun k=>impl_farFrom.mono _ _ k) (far_facts ht h0 hs).1
theorem FarFrom_ev {t:Int} (ht:1≤t∧t≤3) {s:Nat} (h0:s≠0) (hs:s≤all t):Ev (fun k=>spec_FarFrom.f k t (s:Int)) (farL t s):=Ev.of (fun k=>spec_FarFrom.mono _ _ k) (far_facts ht h0 hs).2.1
theorem lt_wn {t:Int} (ht:1≤t∧t≤3) {s:Nat} (hs:s≤all t):s<2^wn t:=by have:=all_wn ht;omega
theorem le_all {t:Int} (ht:1≤t∧t≤3) {s:Nat} (hs:s<2^wn t):s≤all t:=by have:=all_wn ht;omega
theorem lt_256 {t:Int} {s:Nat} (hs:s≤all t):s<256:=by have:=all_lt t;omega
theorem big {s:Nat} (hs:s<256):s<2^62:=Nat.lt_trans hs (by decide)
theorem leastSet_le {t:Int} (ht:1≤t∧t≤3) {l:List Int} (hl:l.length=wn t) (s:Nat):leastSet l s≤all t:=le_all ht (hl▸bset_lt _ _)
theorem or_le {t:Int} (ht:1≤t∧t≤3) {a b:Nat} (ha:a≤all t) (hb:b≤all t):a|||b≤all t:=le_all ht (Nat.or_lt_two_pow (lt_wn ht ha) (lt_wn ht hb))
theorem SetOk_nat {t:Int} (ht:1≤t∧t≤3) {s:Nat} (hs:s≤all t):spec_SetOk.f t (s:Int)=some true:=by
 rw[SetOk_eq]
 exact congrArg some (decide_eq_true ⟨ht,by omega,by omega⟩)
theorem isSet_nat {t:Int} (ht:1≤t∧t≤3) {s:Nat} (hs:s≤all t):impl_isSet.f t (s:Int)=some true:=by
 unfold impl_isSet.f
 rw[areThings_eq,Option.bind_some,if_pos (decide_eq_true ht),if_pos (by omega),allWorlds_eq ht,Option.bind_some,decide_eq_true (by omega)]
theorem minFrom_le (l:List Int) (s:Nat):∀(d i:Nat) (m:Int),minFrom l s d i m≤m∧∀j,i≤j→j<i+d→s.testBit j=true→minFrom l s d i m≤l.getD j 0
 |0,_,m=>⟨Int.le_refl _,fun j h1 h2=>by omega⟩
 |d+1,i,m=>by
  unfold minFrom
  obtain⟨_,b,c⟩:=mn_cases m (l.getD i 0)
  obtain⟨h1,h2⟩:=minFrom_le l s d (i+1) (if s.testBit i=true then mn m (l.getD i 0)else m)
  by_cases hb:s.testBit i=true
  ·rw[if_pos hb]at h1 h2⊢
   refine⟨by omega,fun j k1 k2 k3=>?_⟩
   by_cases e:j=i
   ·subst e;omega
   ·exact h2 j (by omega) (by omega) k3
  ·rw[if_neg hb]at h1 h2⊢
   refine⟨h1,fun j k1 k2 k3=>?_⟩
   by_cases e:j=i
   ·subst e;exact absurd k3 hb
   ·exact h2 j (by omega) (by omega) k3
theorem all_bit {t:Int} (ht:1≤t∧t≤3) {j:Nat} (hj:j<wn t):(all t).testBit j=true:=by
 rw[show all t=2^wn t - 1 from by have:=all_wn ht;omega,Nat.testBit_two_pow_sub_one,decide_eq_true hj]
theorem least_zero {t:Int} {l:List Int} (h:rankOk t l=true):leastOf l (all t)=0:=by
 obtain⟨ht,hl,hx,h0⟩:=rankOk_iff.1 h
 obtain⟨p,hp,he⟩:=mem_getD.1 h0
 have a:=(minFrom_bd l (all t) (fun x k=>(hx x k).1) l.length 0 10 (by decide) (by decide)).1
 have b:=(minFrom_le l (all t) l.length 0 10).2 p (Nat.zero_le _) (by omega) (all_bit ht (hl▸hp))
 unfold leastOf
 omega
theorem least_bd {t:Int} {l:List Int} (h:rankOk t l=true) (s:Nat):∃n:Nat,leastOf l s=n∧n≤10:=by
 obtain⟨_,_,hx,_⟩:=rankOk_iff.1 h
 obtain⟨a,b⟩:=minFrom_bd l s (fun x k=>(hx x k).1) l.length 0 10 (by decide) (by decide)
 exact⟨(leastOf l s).toNat,(Int.toNat_of_nonneg a).symm,by unfold leastOf;omega⟩
theorem coreOf_eq {t:Int} {l:List Int} (h:rankOk t l=true):impl_coreOf.f t l=some ((leastSet l (all t):Nat):Int):=by
 obtain⟨ht,hl,_,_⟩:=rankOk_iff.1 h
 have hp:∀y:Nat,y<0+wn t→impl_coreOf.p l (y:Int)=some (decide (l.getD y 0=0)):=by
  intro y hy
  unfold impl_coreOf.p
  rw[if_pos (by omega),if_pos (by omega),rd_getD]
 obtain⟨r,h1,h2,h3⟩:=setThat_l (p:=impl_coreOf.p l) (q:=fun y=>decide (l.getD y 0=0)) (wn t) 0 0 (by have:=(wn_le t).1;omega) Nat.one_pos hp
 have hf:impl_setThat.f (impl_coreOf.p l) t=some (r:Int):=by
  unfold impl_setThat.f
  rw[if_pos (by omega),if_pos (by omega),show 2^t.toNat=wn t from by rcases three ht with rfl|rfl|rfl<;>rfl]
  exact h1
 unfold impl_coreOf.f
 rw[hf]
 congr 2
 rw[Nat.zero_add]at h2 h3
 apply Nat.eq_of_testBit_eq
 intro w
 unfold leastSet
 rw[bset_bit,hl,least_zero h,Bool.eq_iff_iff,h3,Nat.zero_testBit,Bool.and_eq_true,Bool.and_eq_true,decide_eq_true_eq,decide_eq_true_eq]
 constructor
 ·rintro(k|⟨_,k2,k3⟩)
  ·cases k
  ·exact⟨by omega,all_bit ht (by omega),k3⟩
 ·rintro⟨k1,_,k3⟩
  exact Or.inr ⟨Nat.zero_le _,by omega,k3⟩
theorem Rank_tt {t:Int} {l:List Int} (h:rankOk t l=true):Ev (fun k=>spec_RankOk.f k t l) true:=by
 obtain⟨_,hl,_,_⟩:=rankOk_iff.1 h
 exact ev_eq (RankOk_ev t (by have:=(wn_le t).1;omega)) h
theorem len8 {t:Int} {l:List Int} (h:rankOk t l=true):l.length≤8:=by
 obtain⟨_,hl,_,_⟩:=rankOk_iff.1 h
 have:=(wn_le t).1
 omega
theorem CoreOf_ev {t:Int} {l:List Int} (h:rankOk t l=true):Ev (fun k=>spec_CoreOf.f k t l) ((leastSet l (all t):Nat):Int):=
 Ev.bind (Rank_tt h) (ev_tt (ev_bindc (l1All_eq (rankOk_iff.1 h).1) (Ev.bind (l2Least_ev (len8 h) _) (Ev.now _))))
/-! ### acceptance -/
theorem less_beq {a b:Nat} (ha:a<2^62):(Go.bits .andNot .i64 (a:Int) (b:Int)==0)=decide (a&&& b=a):=by
 rw[bandnot a b ha,Bool.eq_iff_iff,beq_iff_eq,decide_eq_true_eq,←less_zero]
 omega
theorem and_beq {a b:Nat}:(((a&&& b:Nat):Int)==(a:Int))=decide (a&&& b=a):=by
 rw[Bool.eq_iff_iff,beq_iff_eq,decide_eq_true_eq]
 omega
theorem accepts_ev {t:Int} {l:List Int} (h:rankOk t l=true) {a b:Nat} (ha:a≤all t):Ev (fun k=>impl_accepts.f k t l (a:Int) (b:Int)) (decide (leastSet l a&&& b=leastSet l a)):=by
 obtain⟨ht,hl,_,_⟩:=rankOk_iff.1 h
 exact Ev.bind (revised_ev ht hl (lt_wn ht ha)) (ev_eq (Ev.now _) (less_beq (big (lt_256 (leastSet_le ht hl a)))))
theorem Accepts_ev {t:Int} {l:List Int} (h:rankOk t l=true) {a b:Nat} (h0:a≠0) (ha:a≤all t) (hb:b≤all t):Ev (fun k=>spec_Accepts.f k t l (a:Int) (b:Int)) (decide (leastSet l a&&& b=leastSet l a)):=by
 obtain⟨ht,hl,_,_⟩:=rankOk_iff.1 h
 have hr:spec_RuleOk.f t (a:Int) (b:Int)=some true:=by
  unfold spec_RuleOk.f
  rw[SetOk_nat ht ha,Option.bind_some,if_pos rfl,SetOk_nat ht hb,Option.bind_some,if_pos rfl]
  exact congrArg some (bne_iff_ne.2 (by omega))
 refine Ev.bind (Rank_tt h) (ev_tt (ev_bindc hr (show Ev (fun k=>spec_Accepts.j0 k l false (a:Int) (b:Int)) _ from Ev.step (fun k=>rfl) (Ev.bind (l2Least_ev (len8 h) a) (Ev.bind (l1Both_ev (lt_256 (leastSet_le ht hl a))) (ev_eq (Ev.now _) and_beq))))))
/-! ### firmness, what is given up -/
theorem SurpriseOf_ev {t:Int} {l:List Int} (h:rankOk t l=true) {s:Nat} (hs:s≤all t):Ev (fun k=>spec_SurpriseOf.f k t l (s:Int)) (leastOf l s):=by
 obtain⟨ht,hl,_,_⟩:=rankOk_iff.1 h
 have h8:=len8 h
 refine Ev.bind (Rank_tt h) (ev_tt (ev_bindc (SetOk_nat ht hs) (show Ev (fun k=>spec_SurpriseOf.j0 k l (s:Int) false) _ from Ev.step (fun k=>rfl) ?_)))
 have key:∀i,i≤l.length→∀m:Int,Ev (fun k=>spec_SurpriseOf.l0 k l (s:Int) m (i:Int)) (minFrom l s (l.length - i) i m):=by
  apply down
  ·intro m
   rw[Nat.sub_self]
   exact Ev.step (fun k=>rfl) (ev_neg (by omega) (Ev.now _))
  ·intro i hi ih m
   rw[show l.length - i=(l.length - (i+1))+1 from by omega]
   unfold minFrom
   refine Ev.step (fun k=>rfl) (ev_pos (by omega) (ev_bindc (l1Bit_eq s i (by omega)) ?_))
   rw[w1 hi (by omega),rd_getD]
   by_cases hb:s.testBit i=true
   ·rw[if_pos hb]
    exact ev_pos (bi_one.2 hb) (ev_pos (by omega) (ih _))
   ·rw[if_neg hb]
    exact ev_neg (fun k=>hb (bi_one.1 k)) (ih _)
 exact key 0 (Nat.zero_le _) 10
theorem rest_eq {t:Int} (ht:1≤t∧t≤3) {s:Nat} (hs:s≤all t):wrap64 ((all t:Int) - (s:Int))=((all t^^^s:Nat):Int):=by
 have:=all_lt t
 rw[←sub_xor ht (lt_wn ht hs),w64 (by omega) (by omega)]
 omega
theorem rest_le {t:Int} (ht:1≤t∧t≤3) {s:Nat} (hs:s≤all t):all t^^^s≤all t:=le_all ht (xor_lt ht (lt_wn ht hs))
theorem bx_eq {t:Int} {s:Nat} (hs:s≤all t):Go.bits .xor .i64 (all t:Int) (s:Int)=((all t^^^s:Nat):Int):=bxor _ _ (big (all_lt t)) (big (lt_256 hs))
theorem firmness_ev {t:Int} {l:List Int} (h:rankOk t l=true) {s:Nat} (hs:s≤all t):Ev (fun k=>impl_firmness.f k t l (s:Int)) (leastOf l (all t^^^s)):=by
 obtain⟨ht,hl,_,_⟩:=rankOk_iff.1 h
 have h8:=len8 h
 refine ev_bindc (allWorlds_eq ht) ?_
 rw[bx_eq hs]
 exact Ev.bind (surprise_ev (by omega) (lt_256 (rest_le ht hs))) (Ev.now _)
theorem FirmnessOf_ev {t:Int} {l:List Int} (h:rankOk t l=true) {s:Nat} (hs:s≤all t):Ev (fun k=>spec_FirmnessOf.f k t l (s:Int)) (leastOf l (all t^^^s)):=by
 obtain⟨ht,hl,_,_⟩:=rankOk_iff.1 h
 refine Ev.bind (Rank_tt h) (ev_tt (ev_bindc (SetOk_nat ht hs) (show Ev (fun k=>spec_FirmnessOf.j0 k t l (s:Int) false) _ from Ev.step (fun k=>rfl) (ev_bindc (l1All_eq ht) ?_))))
 rw[rest_eq ht hs]
 exact Ev.bind (SurpriseOf_ev h (rest_le ht hs)) (Ev.now _)
def given (t:Int) (l:List Int) (s:Nat):Nat:=leastSet l (all t)|||leastSet l (all t^^^s)
theorem given_le {t:Int} {l:List Int} (h:rankOk t l=true) (s:Nat):given t l s≤all t:=by
 obtain⟨ht,hl,_,_⟩:=rankOk_iff.1 h
 exact or_le ht (leastSet_le ht hl _) (leastSet_le ht hl _)
theorem givenUp_ev {t:Int} {l:List Int} (h:rankOk t l=true) {s:Nat} (hs:s≤all t):Ev (fun k=>impl_givenUp.f k t l (s:Int)) (given t l s:Int):=by
 obtain⟨ht,hl,_,_⟩:=rankOk_iff.1 h
 refine ev_bindc (coreOf_eq h) (ev_bindc (allWorlds_eq ht) ?_)
 rw[bx_eq hs]
 exact Ev.bind (revised_ev ht hl (lt_wn ht (rest_le ht hs))) (ev_eq (Ev.now _) (bor _ _ (big (lt_256 (leastSet_le ht hl _))) (big (lt_256 (leastSet_le ht hl _)))))
theorem GivenUp_ev {t:Int} {l:List Int} (h:rankOk t l=true) {s:Nat} (hs:s≤all t):Ev (fun k=>spec_GivenUp.f k t l (s:Int)) (given t l s:Int):=by
 obtain⟨ht,hl,_,_⟩:=rankOk_iff.1 h
 refine Ev.bind (Rank_tt h) (ev_tt (ev_bindc (SetOk_nat ht hs) (show Ev (fun k=>spec_GivenUp.j0 k t l (s:Int) false) _ from Ev.step (fun k=>rfl) (ev_bindc (l1All_eq ht) (Ev.bind (l2Least_ev (len8 h) _) ?_)))))
 rw[rest_eq ht hs]
 exact Ev.bind (l2Least_ev (len8 h) _) (Ev.bind (either_ev (lt_256 (leastSet_le ht hl _)) (lt_256 (leastSet_le ht hl _))) (Ev.now _))
/-! ### the nearest worlds -/
def near (t:Int) (a b:Nat):Nat:=if a=0 then b else leastSet (farL t a) b
theorem near_le {t:Int} (ht:1≤t∧t≤3) {a b:Nat} (ha:a≤all t) (hb:b≤all t):near t a b≤all t:=by
 unfold near
 by_cases h0:a=0
 ·rw[if_pos h0];exact hb
 ·rw[if_neg h0];exact leastSet_le ht (far_facts ht h0 ha).2.2 b
theorem nearestOf_ev {t:Int} (ht:1≤t∧t≤3) {a b:Nat} (ha:a≤all t) (hb:b≤all t):Ev (fun k=>impl_NearestOf.f k t (a:Int) (b:Int)) (near t a b:Int):=by
 refine ev_bindc (isSet_nat ht ha) (ev_tt (ev_bindc (isSet_nat ht hb) (show Ev (fun k=>impl_NearestOf.j0 k t (a:Int) (b:Int) false) _ from Ev.step (fun k=>rfl) ?_)))
 unfold near
 by_cases h0:a=0
 ·rw[if_pos h0];exact ev_pos (by omega) (Ev.now _)
 ·rw[if_neg h0]
  exact ev_neg (by omega) (Ev.bind (farFrom_ev ht h0 ha) (Ev.bind (revised_ev ht (far_facts ht h0 ha).2.2 (lt_wn ht hb)) (Ev.now _)))
theorem NearestOf_ev {t:Int} (ht:1≤t∧t≤3) {a b:Nat} (ha:a≤all t) (hb:b≤all t):Ev (fun k=>spec_NearestOf.f k t (a:Int) (b:Int)) (near t a b:Int):=by
 refine ev_bindc (SetOk_nat ht ha) (ev_tt (ev_bindc (SetOk_nat ht hb) (show Ev (fun k=>spec_NearestOf.j0 k t (a:Int) (b:Int) false) _ from Ev.step (fun k=>rfl) ?_)))
 unfold near
 by_cases h0:a=0
 ·rw[if_pos h0];exact ev_pos (by omega) (Ev.now _)
 ·rw[if_neg h0]
  exact ev_neg (by omega) (Ev.bind (FarFrom_ev ht h0 ha) (Ev.bind (l2Least_ev (by have:=(wn_le t).1;rw[(far_facts ht h0 ha).2.2];omega) b) (Ev.now _)))
def updL (t:Int) (a b:Nat):Nat→Nat→Nat→Nat
 |0,_,c=>c
 |d+1,i,c=>updL t a b d (i+1) (if a.testBit i=true then c|||near t (2^i) b else c)
theorem pow_le {t:Int} (ht:1≤t∧t≤3) {i:Nat} (hi:i<wn t):2^i≤all t:=le_all ht (Nat.pow_lt_pow_right (by decide) hi)
theorem updL_le {t:Int} (ht:1≤t∧t≤3) {a b:Nat} (hb:b≤all t):∀(d i c:Nat),i+d≤wn t→c≤all t→updL t a b d i c≤all t
 |0,_,_,_,hc=>hc
 |d+1,i,c,h,hc=>by
  unfold updL
  refine updL_le ht hb d (i+1) _ (by omega) ?_
  split
  ·exact or_le ht hc (near_le ht (pow_le ht (by omega)) hb)
  ·exact hc
def updd (t:Int) (a b:Nat):Nat:=updL t a b (wn t) 0 0
theorem updd_le {t:Int} (ht:1≤t∧t≤3) {a b:Nat} (hb:b≤all t):updd t a b≤all t:=updL_le ht hb _ _ _ (by omega) (Nat.zero_le _)
theorem near_pow {t:Int} {i b:Nat}:near t (2^i) b=leastSet (farL t (2^i)) b:=if_neg (Nat.ne_of_gt (Nat.two_pow_pos i))
theorem updatedBy_ev {t:Int} (ht:1≤t∧t≤3) {a b:Nat} (ha:a≤all t) (hb:b≤all t):Ev (fun k=>impl_UpdatedBy.f k t (a:Int) (b:Int)) (updd t a b:Int):=by
 have h8:=(wn_le t).1
 refine ev_bindc (isSet_nat ht ha) (ev_tt (ev_bindc (isSet_nat ht hb) (show Ev (fun k=>impl_UpdatedBy.j0 k t (a:Int) (b:Int) false) _ from Ev.step (fun k=>rfl) (ev_pos (by omega) ?_))))
 rw[shl_wn ht]
 have key:∀i,i≤wn t→∀c:Nat,c≤all t→Ev (fun k=>impl_UpdatedBy.l0 k t (a:Int) (b:Int) (c:Int) (wn t:Int) (i:Int)) (updL t a b (wn t - i) i c:Int):=by
  apply down
  ·intro c _
   rw[Nat.sub_self]
   exact Ev.step (fun k=>rfl) (ev_neg (by omega) (Ev.now _))
  ·intro i hi ih c hc
   rw[show wn t - i=(wn t - (i+1))+1 from by omega]
   unfold updL
   refine Ev.step (fun k=>rfl) (ev_pos (by omega) (ev_pos (by omega) ?_))
   rw[and_bit a i (by omega) (big (lt_256 ha)),w1 hi (by omega),shl1 i (by omega)]
   have hp:=pow_le ht hi
   have h0:2^i≠0:=Nat.ne_of_gt (Nat.two_pow_pos i)
   have hn:=near_le ht hp hb
   by_cases hbit:a.testBit i=true
   ·rw[if_pos hbit]
    refine ev_pos (bi_one.2 hbit) (Ev.bind (farFrom_ev ht h0 hp) (Ev.bind (revised_ev ht (far_facts ht h0 hp).2.2 (lt_wn ht hb)) ?_))
    rw[←near_pow,bor _ _ (big (lt_256 hc)) (big (lt_256 hn))]
    exact ih _ (or_le ht hc hn)
   ·rw[if_neg hbit]
    exact ev_neg (fun k=>hbit (bi_one.1 k)) (ih _ hc)
 exact key 0 (Nat.zero_le _) 0 (Nat.zero_le _)
theorem UpdatedBy_ev {t:Int} (ht:1≤t∧t≤3) {a b:Nat} (ha:a≤all t) (hb:b≤all t):Ev (fun k=>spec_UpdatedBy.f k t (a:Int) (b:Int)) (updd t a b:Int):=by
 have h8:=(wn_le t).1
 refine ev_bindc (SetOk_nat ht ha) (ev_tt (ev_bindc (SetOk_nat ht hb) (show Ev (fun k=>spec_UpdatedBy.j0 k t (a:Int) (b:Int) false) _ from Ev.step (fun k=>rfl) ?_)))
 have key:∀i,i≤wn t→∀c:Nat,c≤all t→Ev (fun k=>spec_UpdatedBy.l0 k t (a:Int) (b:Int) (c:Int) (i:Int)) (updL t a b (wn t - i) i c:Int):=by
  apply down
  ·intro c _
   rw[Nat.sub_self]
   refine Ev.step (fun k=>rfl) (ev_pos (by omega) ?_)
   rw[shl_wn ht]
   exact ev_neg (by omega) (Ev.now _)
  ·intro i hi ih c hc
   rw[show wn t - i=(wn t - (i+1))+1 from by omega]
   unfold updL
   refine Ev.step (fun k=>rfl) (ev_pos (by omega) ?_)
   rw[shl_wn ht,w1 hi (by omega),shl1 i (by omega)]
   refine ev_pos (by omega) (ev_bindc (l1Bit_eq a i (by omega)) ?_)
   have hp:=pow_le ht hi
   have hn:=near_le ht hp hb
   by_cases hbit:a.testBit i=true
   ·rw[if_pos hbit]
    exact ev_pos (bi_one.2 hbit) (ev_pos (by omega) (Ev.bind (NearestOf_ev ht hp hb) (Ev.bind (either_ev (lt_256 hc) (lt_256 hn)) (ih _ (or_le ht hc hn)))))
   ·rw[if_neg hbit]
    exact ev_neg (fun k=>hbit (bi_one.1 k)) (ih _ hc)
 exact key 0 (Nat.zero_le _) 0 (Nat.zero_le _)
def sent (t:Int) (s:Nat):ByteArray:=(impl_sentenceOf.f 40 t (s:Int)).getD ⟨#[]⟩
def sentOk (t:Int) (s:Nat):Bool:=match impl_sentenceOf.f 40 t (s:Int),spec_SentenceOf.f 40 t (s:Int)with
 |some a,some b=>a.data.toList==b.data.toList
 | _,_=>false
theorem sent1:(List.range 4).all (fun s=>sentOk 1 s)=true:=by decide+kernel
theorem sent2:(List.range 16).all (fun s=>sentOk 2 s)=true:=by decide+kernel
theorem sent3:(List.range 256).all (fun s=>sentOk 3 s)=true:=by decide+kernel
theorem sent_ok {t:Int} (ht:1≤t∧t≤3) {s:Nat} (hs:s≤all t):sentOk t s=true:=by
 rcases three ht with rfl|rfl|rfl
 ·exact all_range sent1 (by have:all 1=3:=rfl;omega)
 ·exact all_range sent2 (by have:all 2=15:=rfl;omega)
 ·exact all_range sent3 (by have:all 3=255:=rfl;omega)
theorem sent_facts {t:Int} (ht:1≤t∧t≤3) {s:Nat} (hs:s≤all t):impl_sentenceOf.f 40 t (s:Int)=some (sent t s)∧spec_SentenceOf.f 40 t (s:Int)=some (sent t s):=by
 have h:=sent_ok ht hs
 unfold sentOk at h
 unfold sent
 cases e:impl_sentenceOf.f 40 t (s:Int)with
 |none=>rw[e]at h;cases h
 |some a=>
  rw[e]at h
  cases e2:spec_SentenceOf.f 40 t (s:Int)with
  |none=>rw[e2]at h;cases h
  |some b=>
   rw[e2]at h
   refine⟨rfl,?_⟩
   congr 1
   exact(ByteArray.ext (Array.toList_inj.1 (beq_iff_eq.1 h))).symm
theorem sentenceOf_ev {t:Int} (ht:1≤t∧t≤3) {s:Nat} (hs:s≤all t):Ev (fun k=>impl_sentenceOf.f k t (s:Int)) (sent t s):=Ev.of (fun k=>impl_sentenceOf.mono _ _ k) (sent_facts ht hs).1
theorem SentenceOf_ev {t:Int} (ht:1≤t∧t≤3) {s:Nat} (hs:s≤all t):Ev (fun k=>spec_SentenceOf.f k t (s:Int)) (sent t s):=Ev.of (fun k=>spec_SentenceOf.mono _ _ k) (sent_facts ht hs).2
/-! ### numbers -/
def num (n:Nat):ByteArray:=(spec_l1Number.f 5 (n:Int)).getD ⟨#[]⟩
theorem dec_small {n:Nat} (h:n<10):Lib.decDigits n= [(48+n).toUInt8]:=by
 unfold Lib.decDigits
 rw[dif_pos h]
theorem num_ten:Lib.decDigits 10= [49,48]:=by
 unfold Lib.decDigits
 rw[dif_neg (by decide),show 10/10=1 from rfl,dec_small (by decide)]
 rfl
theorem num_facts {n:Nat} (h:n≤10):strconv_Itoa.f (n:Int)=some (num n)∧spec_l1Number.f 5 (n:Int)=some (num n):=by
 have hi:strconv_Itoa.f (n:Int)=some ⟨(Lib.decDigits n).toArray⟩:=by
  unfold strconv_Itoa.f
  rw[if_pos (by omega),if_pos (by omega),Int.toNat_natCast]
 rw[hi]
 by_cases h10:n<10
 ·rw[dec_small h10]
  have:∀m:Nat,m<10→(spec_l1Number.f 5 (m:Int)).map (·.data.toList)=some [(48+m).toUInt8]:=by decide+kernel
  have hm:=this n h10
  unfold num
  cases e:spec_l1Number.f 5 (n:Int)with
  |none=>rw[e]at hm;cases hm
  |some a=>
   rw[e]at hm
   have hd:a.data.toList=_:=Option.some.inj hm
   exact⟨congrArg some (show(⟨_⟩:ByteArray)=a from ByteArray.ext (Array.toList_inj.1 hd.symm)),rfl⟩
 ·obtain rfl:n=10:=by omega
  rw[num_ten]
  have hm:(spec_l1Number.f 5 ((10:Nat):Int)).map (·.data.toList)=some [49,48]:=by decide+kernel
  unfold num
  cases e:spec_l1Number.f 5 ((10:Nat):Int)with
  |none=>rw[e]at hm;cases hm
  |some a=>
   rw[e]at hm
   have hd:a.data.toList=_:=Option.some.inj hm
   exact⟨congrArg some (show(⟨_⟩:ByteArray)=a from ByteArray.ext (Array.toList_inj.1 hd.symm)),rfl⟩
theorem l1Number_ev {n:Nat} (h:n≤10):Ev (fun k=>spec_l1Number.f k (n:Int)) (num n):=Ev.of (fun k=>spec_l1Number.mono _ k) (num_facts h).2
theorem size_list (s:ByteArray):s.toList.length=s.size:=by rw[toList_data,Array.length_toList];rfl
theorem list_append (a b:ByteArray):(a++b).toList=a.toList++b.toList:=by
 rw[toList_data,toList_data,toList_data,ByteArray.data_append,Array.toList_append]
theorem list_extract (s:ByteArray) (i j:Nat):(s.extract i j).toList=(s.toList.drop i).take (j - i):=by
 rw[toList_data,toList_data,ByteArray.data_extract,Array.toList_extract,List.extract_eq_take_drop]
theorem list_from (s:ByteArray) (i:Nat):(s.extract i s.size).toList=s.toList.drop i:=by
 rw[list_extract]
 apply List.take_of_length_le
 rw[List.length_drop,size_list]
 omega
theorem bt_get (s:ByteArray) {i:Nat} (h:i<s.size):bt s (i:Int)=((s.toList[i]'(by rw[size_list];exact h)).toNat:Int):=by
 unfold bt
 rw[dif_pos (by rw[Int.toNat_natCast];exact h)]
 congr 2
 simp only[toList_data,Int.toNat_natCast]
 rfl
/-- No sentence has a hyphen. -/
theorem rdS_no {t:Int} (s:ByteArray):∀(n i:Nat) (x:Nat×Nat),1≤t∧t≤3→rdS t s n i=some x→∀j:Nat,i≤j→j<x.2→bt s j≠45:=by
 intro n
 induction n with
 |zero=>intro i x _ h;cases h
 |succ n ih=>
  intro i x ht h j hj hx
  unfold rdS at h
  by_cases hlt:i<s.size
  ·rw[if_pos hlt]at h
   have one:∀{v:Nat},x=(v,i+1)→bt s i≠45→bt s j≠45:=by
    rintro v rfl h
    have:j=i:=by have:j<i+1:=hx;omega
    rw[this]
    exact h
   split at h
   ·rename_i hc
    exact one (Option.some.inj h).symm (by rw[hc];decide)
   split at h
   ·rename_i hc
    exact one (Option.some.inj h).symm (by rw[hc];decide)
   split at h
   ·rename_i hc
    exact one (Option.some.inj h).symm (by omega)
   split at h
   ·rename_i hc
    obtain⟨y,hy,rfl⟩:=Option.map_eq_some_iff.1 h
    by_cases e:j=i
    ·rw[e,hc];decide
    ·exact ih _ _ ht hy j (by omega) hx
   split at h
   ·rename_i hc
    obtain⟨y,hy,h⟩:=Option.bind_eq_some_iff.1 h
    split at h
    ·obtain⟨z,hz,h⟩:=Option.bind_eq_some_iff.1 h
     split at h
     ·rename_i h41
      obtain⟨v,hv,rfl⟩:=Option.map_eq_some_iff.1 h
      by_cases e:j=i
      ·rw[e,hc];decide
      by_cases e1:j<y.2
      ·exact ih _ _ ht hy j (by omega) e1
      by_cases e2:j=y.2
      ·rw[e2]
       intro e3
       unfold opS at hv
       rw[e3,if_neg (by decide),if_neg (by decide),if_neg (by decide)]at hv
       cases hv
      by_cases e3:j<z.2
      ·exact ih _ _ ht hz j (by omega) e3
      ·have:j=z.2:=by have:j<z.2+1:=hx;omega
       rw[this,h41.2]
       decide
     ·cases h
    ·cases h
   ·cases h
  ·rw[if_neg hlt]at h
   cases h
theorem holds_no {t:Int} {s:ByteArray} {a:Int} (h:holds t s=(a,true)) {j:Nat} (hj:j<s.size):bt s j≠45:=by
 unfold holds at h
 split at h
 ·rename_i hc
  split at h
  ·rename_i x hx
   split at h
   ·rename_i he
    exact rdS_no s _ _ _ hc.1 hx j (Nat.zero_le _) (by rw[he];exact hj)
   ·cases h
  ·cases h
 ·cases h
def at2 (s:ByteArray) (k:Nat):Prop:=k+1<s.size∧bt s k=45∧bt s ((k+1:Nat):Int)=62
instance (s:ByteArray) (k:Nat):Decidable (at2 s k):=by unfold at2;infer_instance
theorem occ_at (s:ByteArray) (k:Nat):Lib.occAt s.data.toList [45,62] k=true↔at2 s k:=by
 unfold Lib.occAt at2
 rw[←toList_data]
 by_cases h:k+1<s.size
 ·have l0:k<s.toList.length:=by rw[size_list];omega
  have l1:k+1<s.toList.length:=by rw[size_list];omega
  rw[List.drop_eq_getElem_cons l0,List.drop_eq_getElem_cons l1,bt_get s (by omega),bt_get s h]
  simp only[List.isPrefixOf,Bool.and_true,Bool.and_eq_true,beq_iff_eq]
  constructor
  ·rintro⟨e1,e2⟩
   exact⟨h,by rw[←e1];rfl,by rw[←e2];rfl⟩
  ·rintro⟨_,e1,e2⟩
   exact⟨(UInt8.toNat_inj.1 (by have h9:(45:UInt8).toNat=45:=rfl;omega)).symm,(UInt8.toNat_inj.1 (by have h9:(62:UInt8).toNat=62:=rfl;omega)).symm⟩
 ·constructor
  ·intro hp
   have:=(List.isPrefixOf_iff_prefix.1 hp).length_le
   rw[List.length_drop,size_list]at this
   simp at this
   omega
  ·rintro⟨k1,_,_⟩
   exact absurd k1 h
/-- The parts of a rule's text at a place. -/
def tryAt (t:Int) (s:ByteArray) (k:Nat):Option (Int×Int×Bool):=
 let a:=holds t (s.extract 0 k);let b:=holds t (s.extract (k+2) s.size)
 if a.2=true then(if b.2=true then(if a.1=0 then none else some (a.1,b.1,true))else none)else none
def ruleAt (t:Int) (s:ByteArray) (k:Nat):Int×Int×Bool:=(tryAt t s k).getD (0,0,false)
theorem cut2_ev {s:ByteArray} (hs:s.size<4294967281):(∃k,at2 s k∧(∀j,j<k→¬at2 s j)∧cut2.f s=some (s.extract 0 k,s.extract (k+2) s.size,true))∨((∀j,¬at2 s j)∧cut2.f s=some (s,(⟨#[]⟩:ByteArray),false)):=by
 unfold cut2.f
 rw[if_pos hs]
 rcases Lib.index_spec s.data.toList [45,62]with⟨h1,h2⟩|⟨i,h1,h2,h3,h4⟩
 ·right
  refine⟨fun j hj=>?_,?_⟩
  ·have hl:j≤s.data.toList.length:=by rw[←toList_data,size_list];have:=hj.1;omega
   have:=h2 j hl
   rw[(occ_at s j).2 hj]at this
   cases this
  ·obtain⟨e1,e2,e3⟩:=Lib.cutB_miss s ⟨#[45,62]⟩ h1
   have e1':(⟨(Lib.cut s.data.toList [45,62]).1.toArray⟩:ByteArray)=s:=e1
   have e2':(⟨(Lib.cut s.data.toList [45,62]).2.1.toArray⟩:ByteArray)=ByteArray.empty:=e2
   have e3':(Lib.cut s.data.toList [45,62]).2.2=false:=e3
   rw[e1',e2',e3']
   rfl
 ·left
  refine⟨i,(occ_at s i).1 h3,fun j hj hj2=>?_,?_⟩
  ·have:=h4 j hj
   rw[(occ_at s j).2 hj2]at this
   cases this
  ·obtain⟨e1,e2,e3⟩:=Lib.cutB_hit s ⟨#[45,62]⟩ i h1
   have e1':(⟨(Lib.cut s.data.toList [45,62]).1.toArray⟩:ByteArray)=s.extract 0 i:=e1
   have e2':(⟨(Lib.cut s.data.toList [45,62]).2.1.toArray⟩:ByteArray)=s.extract (i+2) s.size:=e2
   have e3':(Lib.cut s.data.toList [45,62]).2.2=true:=e3
   rw[e1',e2',e3']
theorem impl_ReadRule_at (t:Int) {s:ByteArray} (hs:s.size<4294967281):(∃k,at2 s k∧(∀j,j<k→¬at2 s j)∧Ev (fun n=>impl_ReadRule.f n t s) (ruleAt t s k))∨((∀j,¬at2 s j)∧Ev (fun n=>impl_ReadRule.f n t s) (0,0,false)):=by
 unfold impl_ReadRule.f
 rcases cut2_ev hs with⟨k,h1,h2,h3⟩|⟨h1,h3⟩
 ·refine Or.inl ⟨k,h1,h2,ev_bindc h3 (Ev.bind (impl_HoldsIn_ev t _) (Ev.bind (impl_HoldsIn_ev t _) (ev_tt ?_)))⟩
  unfold ruleAt tryAt
  by_cases a:(holds t (s.extract 0 k)).2=true
  ·refine ev_pos a ?_
   by_cases b:(holds t (s.extract (k+2) s.size)).2=true
   ·refine ev_pos b ?_
    by_cases c:(holds t (s.extract 0 k)).1=0
    ·exact ev_pos c (ev_eq (Ev.now _) (by simp only[a,b,c,if_true];rfl))
    ·exact ev_neg c (ev_eq (Ev.now _) (by simp only[a,b,c,if_true,if_false];rfl))
   ·exact ev_neg b (ev_eq (Ev.now _) (by simp only[a,b,if_true];rfl))
  ·exact ev_neg a (ev_eq (Ev.now _) (by simp only[a];rfl))
 ·exact Or.inr ⟨h1,ev_bindc h3 (Ev.bind (impl_HoldsIn_ev t _) (Ev.bind (impl_HoldsIn_ev t _) (ev_ff (Ev.now _))))⟩
theorem bt_head (s:ByteArray) {j k:Nat} (h:k<j) (hj:j≤s.size):bt (s.extract 0 j) (k:Int)=bt s (k:Int):=by
 have h1:k<(s.extract 0 j).size:=by rw[ByteArray.size_extract];omega
 rw[bt_get _ h1,bt_get s (by omega)]
 congr 2
 simp only[list_extract,List.drop_zero,List.getElem_take]
theorem l0_end (t:Int) {s:ByteArray} {i:Nat} (hs:s.size≤1000000000) (hi:i≤s.size) (h:¬i+1<s.size):Ev (fun n=>spec_ReadRule.l0 n t s (i:Int)) (0,0,false):=by
 have e1:wrap64 ((i:Int)+1)=((i+1:Nat):Int):=by rw[w64 (by omega) (by omega)];omega
 refine Ev.step (fun k=>rfl) (ev_neg ?_ (Ev.now _))
 rw[e1]
 omega
theorem l0_at (t:Int) {s:ByteArray} {i:Nat} {r:Int×Int×Bool} (hs:s.size≤1000000000) (h:i+1<s.size)
  (h1:¬at2 s i→Ev (fun n=>spec_ReadRule.l0 n t s ((i+1:Nat):Int)) r) (h2:at2 s i→tryAt t s i=none→Ev (fun n=>spec_ReadRule.l0 n t s ((i+1:Nat):Int)) r) (h3:∀v,at2 s i→tryAt t s i=some v→v=r):
  Ev (fun n=>spec_ReadRule.l0 n t s (i:Int)) r:=by
 have e1:wrap64 ((i:Int)+1)=((i+1:Nat):Int):=by rw[w64 (by omega) (by omega)];omega
 have e2:wrap64 ((i:Int)+2)=((i+2:Nat):Int):=by rw[w64 (by omega) (by omega)];omega
 refine Ev.step (fun k=>rfl) (ev_pos (by rw[e1];omega) (ev_pos (by omega) (ev_pos (by omega) ?_)))
 rw[e1]
 have skip:Ev (fun n=>spec_ReadRule.l0 n t s ((i+1:Nat):Int)) r→Ev (fun n=>spec_ReadRule.j1 n t s (i:Int) true) r:=by
  intro hr
  refine Ev.step (f:=fun n=>spec_ReadRule.l0 n t s (wrap64 ((i:Int)+1))) (fun k=>rfl) ?_
  rw[e1]
  exact hr
 by_cases a:bt s i=45
 ·refine ev_pos a (ev_pos (by omega) ?_)
  by_cases b:bt s ((i+1:Nat):Int)=62
  ·have ha:at2 s i:=⟨h,a,b⟩
   rw[show(bt s ((i+1:Nat):Int) !=62)=false from by rw[b];rfl]
   have st:∀{g:Nat→Option (Int×Int×Bool)} {r},(∀k,g k=(if 0≤(i:Int)then(if(i:Int)≤(s.size:Int)then((spec_HoldsIn.f k t (s.extract 0 ((i:Int):Int).toNat)).bind fun bt196=>(if 0≤(wrap64 ((i:Int)+2))then(if(wrap64 ((i:Int)+2))≤(s.size:Int)then((spec_HoldsIn.f k t (s.extract ((wrap64 ((i:Int)+2)):Int).toNat s.size)).bind fun bt198=>(if bt196.2=true then(if bt198.2=true then(if bt196.1=0 then(spec_ReadRule.l0 k t s (wrap64 ((i:Int)+1)))else(some (bt196.1,bt198.1,true)))else(spec_ReadRule.l0 k t s (wrap64 ((i:Int)+1))))else(spec_ReadRule.l0 k t s (wrap64 ((i:Int)+1)))))else(none))else(none)))else(none))else(none)))→Ev g r→Ev (fun k=>spec_ReadRule.j1 k t s (i:Int) false) r:=fun hg h=>Ev.step (fun k=>(hg k).symm) h
   refine st (fun k=>rfl) (ev_pos (by omega) (ev_pos (by omega) ?_))
   rw[e1,e2,Int.toNat_natCast,Int.toNat_natCast]
   refine Ev.bind (spec_HoldsIn_ev t _) (ev_pos (by omega) (ev_pos (by omega) (Ev.bind (spec_HoldsIn_ev t _) ?_)))
   by_cases x:(holds t (s.extract 0 i)).2=true
   ·refine ev_pos x ?_
    by_cases y:(holds t (s.extract (i+2) s.size)).2=true
    ·refine ev_pos y ?_
     by_cases c:(holds t (s.extract 0 i)).1=0
     ·exact ev_pos c (h2 ha (by unfold tryAt;simp only[x,y,c,if_true]))
     ·exact ev_neg c (ev_eq (Ev.now _) (h3 _ ha (by unfold tryAt;simp only[x,y,c,if_true,if_false])))
    ·exact ev_neg y (h2 ha (by unfold tryAt;simp only[x,y,if_true];rfl))
   ·exact ev_neg x (h2 ha (by unfold tryAt;simp only[x];rfl))
  ·rw[show(bt s ((i+1:Nat):Int) !=62)=true from bne_iff_ne.2 b]
   exact skip (h1 (fun k=>b k.2.2))
 ·exact ev_neg a (skip (h1 (fun k=>a k.2.1)))
theorem spec_none (t:Int) {s:ByteArray} (hs:s.size≤1000000000):∀(d i:Nat),s.size - i≤d→i≤s.size→(∀j,i≤j→at2 s j→tryAt t s j=none)→Ev (fun n=>spec_ReadRule.l0 n t s (i:Int)) (0,0,false):=by
 intro d
 induction d with
 |zero=>intro i hd hi _;exact l0_end t hs hi (by omega)
 |succ d ih=>
  intro i hd hi h
  by_cases h1:i+1<s.size
  ·have nx:=ih (i+1) (by omega) (by omega) (fun j hj=>h j (by omega))
   refine l0_at t hs h1 (fun _=>nx) (fun _ _=>nx) (fun v ha hv=>?_)
   rw[h i (Nat.le_refl _) ha]at hv
   cases hv
  ·exact l0_end t hs hi h1
theorem spec_ReadRule_none (t:Int) {s:ByteArray} (hs:s.size≤1000000000) (h:∀j,¬at2 s j):Ev (fun n=>spec_ReadRule.f n t s) (0,0,false):=
 spec_none t hs s.size 0 (by omega) (Nat.zero_le _) (fun j _ hj=>absurd hj (h j))
theorem later_none (t:Int) {s:ByteArray} {k j:Nat} (hk:at2 s k) (hj:k<j) (h:j≤s.size):tryAt t s j=none:=by
 unfold tryAt
 simp only
 rw[if_neg]
 intro hb
 have e:holds t (s.extract 0 j)=((holds t (s.extract 0 j)).1,true):=by rw[←hb]
 have:=holds_no e (j:=k) (by rw[ByteArray.size_extract];omega)
 rw[bt_head s hj h]at this
 exact this hk.2.1
theorem spec_ReadRule_at (t:Int) {s:ByteArray} (hs:s.size≤1000000000) {k:Nat} (hk:at2 s k) (hn:∀j,j<k→¬at2 s j):Ev (fun n=>spec_ReadRule.f n t s) (ruleAt t s k):=by
 have k1:=hk.1
 have after:Ev (fun n=>spec_ReadRule.l0 n t s ((k+1:Nat):Int)) (0,0,false):=spec_none t hs s.size (k+1) (by omega) (by omega) (fun j hj ha=>later_none t hk (by omega) (by have:=ha.1;omega))
 have at_k:Ev (fun n=>spec_ReadRule.l0 n t s (k:Int)) (ruleAt t s k):=by
  cases hv:tryAt t s k with
  |none=>
   have e:ruleAt t s k=(0,0,false):=by unfold ruleAt;rw[hv];rfl
   rw[e]
   refine l0_at t hs k1 (fun h=>absurd hk h) (fun _ _=>after) (fun v _ h=>?_)
   rw[hv]at h
   cases h
  |some v=>
   have e:ruleAt t s k=v:=by unfold ruleAt;rw[hv];rfl
   rw[e]
   refine l0_at t hs k1 (fun h=>absurd hk h) (fun _ h=>?_) (fun v' _ h=>?_)
   ·rw[hv]at h
    cases h
   ·rw[hv]at h
    exact(Option.some.inj h).symm
 have key:∀i,i≤k→Ev (fun n=>spec_ReadRule.l0 n t s (i:Int)) (ruleAt t s k):=by
  apply down
  ·exact at_k
  ·intro i hi ih
   exact l0_at t hs (by omega) (fun _=>ih) (fun h=>absurd h (hn i hi)) (fun v h=>absurd h (hn i hi))
 exact key 0 (Nat.zero_le _)
theorem ruleAt_cases (t:Int) (s:ByteArray) (k:Nat):ruleAt t s k=(0,0,false)∨∃a b:Nat,ruleAt t s k=((a:Int),(b:Int),true)∧(1≤t∧t≤3)∧a≠0∧a≤all t∧b≤all t:=by
 unfold ruleAt tryAt
 simp only
 by_cases a:(holds t (s.extract 0 k)).2=true
 ·by_cases b:(holds t (s.extract (k+2) s.size)).2=true
  ·by_cases c:(holds t (s.extract 0 k)).1=0
   ·left
    rw[if_pos a,if_pos b,if_pos c]
    rfl
   ·right
    have ea:holds t (s.extract 0 k)=((holds t (s.extract 0 k)).1,true):=by rw[←a]
    have eb:holds t (s.extract (k+2) s.size)=((holds t (s.extract (k+2) s.size)).1,true):=by rw[←b]
    obtain⟨h1,h2,h3⟩:=holds_range ea
    obtain⟨_,g2,g3⟩:=holds_range eb
    refine⟨(holds t (s.extract 0 k)).1.toNat,(holds t (s.extract (k+2) s.size)).1.toNat,?_,h1,by omega,by omega,by omega⟩
    rw[if_pos a,if_pos b,if_neg c,Int.toNat_of_nonneg h2,Int.toNat_of_nonneg g2]
    rfl
  ·left
   rw[if_pos a,if_neg b]
   rfl
 ·left
  rw[if_neg a]
  rfl
def tidyOk (t:Int) (l:List Int):Bool:=rankOk t l&&decide (tidyL l=l)
theorem l10Tidy_ev (t:Int) {l:List Int} (hn:l.length≤9223372036854775807):Ev (fun k=>spec_l10Tidy.f k t l) (tidyOk t l):=by
 unfold spec_l10Tidy.f tidyOk
 refine Ev.bind (RankOk_ev t hn) ?_
 cases h:rankOk t l with
 |false=>exact ev_ff (Ev.now _)
 |true=>
  have hlen:=tidyL_length l
  refine ev_tt (Ev.bind (TidyRank_ev h) ?_)
  have key:∀i,i≤l.length→Ev (fun k=>spec_l10Tidy.l0 k l (tidyL l) (i:Int)) (decide ((tidyL l).drop i=l.drop i)):=by
   apply down
   ·refine Ev.step (fun k=>rfl) (ev_neg (by omega) (ev_eq (Ev.now _) ?_))
    rw[List.drop_length,List.drop_of_length_le (by omega)]
    exact(decide_eq_true rfl).symm
   ·intro i hi ih
    refine Ev.step (fun k=>rfl) (ev_pos (by omega) (ev_pos (by omega) (ev_pos (by omega) ?_)))
    rw[rd_at hi,rd_at (l:=tidyL l) (by omega),List.drop_eq_getElem_cons hi,List.drop_eq_getElem_cons (l:=tidyL l) (by omega)]
    by_cases e:(tidyL l)[i]=l[i]
    ·refine ev_pos e ?_
     rw[w1 hi hn]
     refine ev_eq ih (decide_eq_decide.2 ?_)
     rw[List.cons.injEq]
     exact⟨fun h=>⟨e,h⟩,fun h=>h.2⟩
    ·refine ev_neg e (ev_eq (Ev.now _) ?_)
     rw[decide_eq_false (fun h=>e (List.cons.inj h).1)]
  have:=key 0 (Nat.zero_le _)
  rw[List.drop_zero,List.drop_zero]at this
  rw[Bool.true_and]
  exact this
def mindOk (t:Int) (l:List Int) (ls:List (List Int)):Bool:=tidyOk t l&&(decide (ls.length≤10)&&ls.all (tidyOk t))
theorem rdLL_at {l:List (List Int)} {i:Nat} (h:i<l.length):rd_L1 l (i:Int)=l[i]:=by
 unfold rd_L1
 rw[Int.toNat_natCast,List.getD_eq_getElem?_getD,List.getElem?_eq_getElem h]
 rfl
theorem spec_MindValid_ev (t:Int) {l:List Int} {ls:List (List Int)} (hn:l.length≤9223372036854775807) (hs:ls.length≤9223372036854775807) (hl:∀y∈ls,y.length≤9223372036854775807):Ev (fun k=>spec_MindValid.f k t l ls) (mindOk t l ls):=by
 unfold spec_MindValid.f
 have key:∀i,i≤ls.length→Ev (fun k=>spec_MindValid.l0 k (i:Int) t l ls) (tidyOk t l&&(decide (ls.length≤10)&&(ls.drop i).all (tidyOk t))):=by
  apply down
  ·refine Ev.step (fun k=>rfl) (ev_neg (by omega) (Ev.bind (l10Tidy_ev t hn) ?_))
   rw[List.drop_length,List.all_nil,Bool.and_true]
   cases tidyOk t l with
   |false=>exact ev_ff (Ev.now _)
   |true=>
    refine ev_tt (ev_eq (Ev.now _) ?_)
    rw[Bool.true_and]
    exact decide_eq_decide.2 (by omega)
  ·intro i hi ih
   refine Ev.step (fun k=>rfl) (ev_pos (by omega) (ev_pos (by omega) ?_))
   rw[rdLL_at hi,w1 hi hs]
   refine Ev.bind (l10Tidy_ev t (hl _ (List.getElem_mem hi))) ?_
   rw[List.drop_eq_getElem_cons hi,List.all_cons]
   cases tidyOk t ls[i]with
   |false=>exact ev_ff (ev_eq (Ev.now _) (by simp))
   |true=>
    refine ev_tt (ev_eq ih ?_)
    rw[Bool.true_and]
 have:=key 0 (Nat.zero_le _)
 rw[List.drop_zero]at this
 exact this
theorem isTidy_ev (t:Int) {l:List Int} (hn:l.length≤9223372036854775807):Ev (fun k=>impl_isTidy.f k t l) (tidyOk t l):=by
 unfold impl_isTidy.f tidyOk
 refine Ev.bind (isRank_ev t hn) ?_
 cases h:rankOk t l with
 |false=>exact ev_ff (Ev.now _)
 |true=>
  obtain⟨_,hl,hx,_⟩:=rankOk_iff.1 h
  have:=(wn_le t).1
  refine ev_tt (Ev.bind (tidy_ev (by omega) fun x hx'=>(hx x hx').1) (Ev.bind (Equal_ev (l:=tidyL l) (m:=l) (by rw[tidyL_length];omega)) (ev_eq (Ev.now _) ?_)))
  rw[Bool.true_and]
theorem contL_ev (t:Int):∀(ls:List (List Int)),(∀y∈ls,y.length≤9223372036854775807)→∀i:Int,0≤i→∃r,Ev (fun k=>Hof.idxL (impl_isMind.no k t) ls i) r∧decide (0≤r)= !ls.all (tidyOk t):=by
 intro ls
 induction ls with
 |nil=>exact fun _ i _=>⟨-1,Ev.now _,rfl⟩
 |cons y ys ih=>
  intro hl i hi
  have hy:=isTidy_ev t (hl y List.mem_cons_self)
  have hno:Ev (fun k=>impl_isMind.no k t y) (!tidyOk t y):=Ev.bind hy (Ev.now _)
  cases e:tidyOk t y with
  |true=>
   rw[e]at hno
   obtain⟨r,h1,h2⟩:=ih (fun z hz=>hl z (List.mem_cons_of_mem _ hz)) (i+1) (by omega)
   refine⟨r,Ev.bind hno (ev_ff h1),?_⟩
   rw[h2,List.all_cons,e,Bool.true_and]
  |false=>
   rw[e]at hno
   refine⟨i,Ev.bind hno (ev_tt (Ev.now _)),?_⟩
   rw[List.all_cons,e,decide_eq_true hi]
   rfl
theorem isMind_ev (t:Int) {l:List Int} {ls:List (List Int)} (hn:l.length≤9223372036854775807) (hl:∀y∈ls,y.length≤9223372036854775807):Ev (fun k=>impl_isMind.f k t l ls) (mindOk t l ls):=by
 unfold impl_isMind.f mindOk
 refine Ev.bind (isTidy_ev t hn) ?_
 cases tidyOk t l with
 |false=>exact ev_ff (Ev.now _)
 |true=>
  refine ev_tt ?_
  by_cases h:ls.length≤10
  ·obtain⟨r,h1,h2⟩:=contL_ev t ls hl 0 (by omega)
   refine ev_pos (by omega) (Ev.bind (Ev.bind h1 (Ev.now _)) (ev_eq (Ev.now _) ?_))
   rw[h2,decide_eq_true h,Bool.true_and,Bool.true_and,Bool.not_not]
  ·refine ev_neg (by omega) (ev_eq (Ev.now _) ?_)
   rw[decide_eq_false h]
   rfl
theorem l10Copy_ev (t:Int) {l:List Int} {ls:List (List Int)} (hn:l.length≤100) (hs:ls.length≤100) (hl:∀y∈ls,y.length≤100):Ev (fun k=>spec_l10Copy.f k t l ls) (t,l,ls):=by
 unfold spec_l10Copy.f
 have key:∀i:Nat,i≤ls.length→Ev (fun k=>spec_l10Copy.l0 k (i:Int) t l ls t l (ls.take i)) (t,l,ls):=by
  apply down
  ·refine Ev.step (fun k=>rfl) (ev_neg (by omega) (ev_eq (Ev.now _) ?_))
   rw[List.take_length]
  ·intro i hi ih
   have hy:=hl _ (List.getElem_mem hi)
   refine Ev.step (fun k=>rfl) (ev_pos (by omega) (ev_bindc rfl (ev_pos (by omega) (ev_pos (by rw[rdLL_at hi];simp only[List.length_nil];omega) (ev_pos (by rw[List.length_take];omega) ?_)))))
   rw[rdLL_at hi,w1 hi (by omega),List.nil_append]
   rw[List.take_succ_eq_append_getElem hi]at ih
   exact ih
 refine ev_bindc rfl (ev_pos (by simp only[List.length_nil];omega) ?_)
 rw[List.nil_append]
 exact key 0 (Nat.zero_le _)
theorem exists_min:∀{l:List Int},l≠ []→∃x∈l,∀y∈l,x≤y
 | [],h=>absurd rfl h
 | [x],_=>⟨x,List.mem_singleton.2 rfl,fun y hy=>by rw[List.mem_singleton.1 hy];exact Int.le_refl _⟩
 |x::z::l,_=>by
  obtain⟨m,hm,h⟩:=exists_min (l:=z::l) (by simp)
  by_cases hx:x≤m
  ·refine⟨x,List.mem_cons_self,fun y hy=>?_⟩
   rcases List.mem_cons.1 hy with rfl|hy
   ·exact Int.le_refl _
   ·exact Int.le_trans hx (h y hy)
  ·refine⟨m,List.mem_cons_of_mem _ hm,fun y hy=>?_⟩
   rcases List.mem_cons.1 hy with rfl|hy
   ·omega
   ·exact h y hy
theorem rankOk_raise {t:Int} {l:List Int} (h:rankOk t l=true) (F:Nat):rankOk t (tidyL (raise l F))=true:=by
 obtain⟨ht,hl,hx,h0⟩:=rankOk_iff.1 h
 have h8:=wn_le t
 have hn:∀y∈raise l F,0≤y:=fun y hy=>by obtain⟨x,h1,h2⟩:=raise_mem hy;have:=hx x h1;omega
 have hlen:(raise l F).length=wn t:=by rw[raise_length];exact hl
 refine rankOk_iff.2 ⟨ht,by rw[tidyL_length];exact hlen,fun y hy=>?_,?_⟩
 ·obtain⟨x,hx1,rfl⟩:=mem_tidyL.1 hy
  have:=lev_lt_length hx1 (hn x hx1)
  omega
 ·obtain⟨x,hx1,hx2⟩:=exists_min (l:=raise l F) (by intro e;rw[e]at hlen;simp at hlen;omega)
  refine mem_tidyL.2 ⟨x,hx1,?_⟩
  rw[lev_zero (fun y hy _=>hx2 y hy)]
  rfl
theorem chg_tidy {t:Int} {l:List Int} (h:rankOk t l=true) (a:Int) (s:Nat):tidyOk t (chg l a s)=true:=by
 unfold tidyOk chg
 have hx:=(rankOk_iff.1 h).2.2.1
 rw[rankOk_raise h,tidyL_tidyL (fun y hy=>by obtain⟨x,h1,h2⟩:=raise_mem hy;have:=hx x h1;omega),decide_eq_true rfl]
 rfl
theorem tidyOk_iff {t:Int} {l:List Int}:tidyOk t l=true↔rankOk t l=true∧tidyL l=l:=by
 unfold tidyOk
 rw[Bool.and_eq_true,decide_eq_true_iff]
theorem same_l0 {x y:List Int} (hl:x.length=y.length) (hn:x.length≤100):∀i,i≤x.length→Ev (fun k=>spec_SameOrder.l0 k x y (i:Int)) (decide (x.drop i=y.drop i)):=by
 apply down
 ·refine Ev.step (fun k=>rfl) (ev_neg (by omega) (ev_eq (Ev.now _) ?_))
  rw[List.drop_length,List.drop_of_length_le (by omega)]
  exact(decide_eq_true rfl).symm
 ·intro i hi ih
  refine Ev.step (fun k=>rfl) (ev_pos (by omega) (ev_pos (by omega) (ev_pos (by omega) ?_)))
  rw[rd_at hi,rd_at (by omega),List.drop_eq_getElem_cons hi,List.drop_eq_getElem_cons (l:=y) (by omega)]
  by_cases e:x[i]=y[i]
  ·refine ev_pos e ?_
   rw[w1 hi (by omega)]
   refine ev_eq ih (decide_eq_decide.2 ?_)
   rw[List.cons.injEq]
   exact⟨fun h=>⟨e,h⟩,fun h=>h.2⟩
  ·refine ev_neg e (ev_eq (Ev.now _) ?_)
   rw[decide_eq_false (fun h=>e (List.cons.inj h).1)]
theorem SameOrder_ev {t:Int} {x y:List Int} (hx:rankOk t x=true) (hy:rankOk t y=true):Ev (fun k=>spec_SameOrder.f k t x y) (decide (tidyL x=tidyL y)):=by
 have lx:=(rankOk_iff.1 hx).2.1
 have ly:=(rankOk_iff.1 hy).2.1
 have h8:=wn_le t
 have rx:=RankOk_ev t (l:=x) (by omega)
 have ry:=RankOk_ev t (l:=y) (by omega)
 rw[hx]at rx
 rw[hy]at ry
 unfold spec_SameOrder.f
 refine Ev.bind rx (ev_tt (Ev.bind ry ?_))
 refine Ev.step (f:=fun k=>if(!true)=true then(some false)else((spec_TidyRank.f k t x).bind fun t304=>((spec_TidyRank.f k t y).bind fun t307=>(spec_SameOrder.l0 k t304 t307 0)))) (fun k=>rfl) (ev_neg (by decide) (Ev.bind (TidyRank_ev hx) (Ev.bind (TidyRank_ev hy) ?_)))
 exact same_l0 (by rw[tidyL_length,tidyL_length,lx,ly]) (by rw[tidyL_length];omega) 0 (Nat.zero_le _)
theorem ChangedBy_ev {t:Int} {l:List Int} (h:rankOk t l=true) {v:Int} (h0:0≤v) (h1:v≤all t) {a:Int} (ha:a=0∨a=1):Ev (fun k=>spec_ChangedBy.f k t l a v) (if v=0 then([],false)else(chg l a v.toNat,true)):=by
 obtain⟨ht,hl,hx,_⟩:=rankOk_iff.1 h
 have h8:=wn_le t
 have r:=RankOk_ev t (l:=l) (by omega)
 rw[h]at r
 have hs:setOk t v=true:=decide_eq_true ⟨ht,h0,h1⟩
 have ha8:=all_lt t
 unfold spec_ChangedBy.f
 refine Ev.bind r (ev_tt (ev_bindc (SetOk_eq t v) ?_))
 rw[hs]
 refine ev_tt ?_
 by_cases e:v=0
 ·rw[if_pos e]
  exact ev_pos e (Ev.step (f:=fun _=>some ((([]:List Int)),false)) (fun k=>rfl) (Ev.now _))
 ·rw[if_neg e]
  refine ev_neg e (ev_bindc (l1In_eq _ _ _) ?_)
  rw[decide_eq_true (by omega)]
  obtain⟨n,rfl⟩:=Int.eq_ofNat_of_zero_le h0
  rw[Int.toNat_natCast]
  refine Ev.step (f:=fun k=>if(!true)=true then(some ((([]:List Int)),false))else(if a=0 then((spec_l2Least.f k l (n:Int)).bind fun t295=>((spec_l6Rise.f k l t295).bind fun t296=>(some (t296,true))))else((spec_l6Rise.f k l (n:Int)).bind fun t299=>(some (t299,true))))) (fun k=>rfl) (ev_neg (by decide) ?_)
  unfold chg
  by_cases a0:a=0
  ·rw[if_pos a0]
   exact ev_pos a0 (Ev.bind (l2Least_ev (by omega) n) (Ev.bind (l6Rise_ev (by omega) hx _) (Ev.now _)))
  ·rw[if_neg a0]
   exact ev_neg a0 (Ev.bind (l6Rise_ev (by omega) hx n) (Ev.now _))
/-! ### copies -/
theorem copyMind_ev (t:Int) {l:List Int} {ls:List (List Int)} (hn:l.length≤100) (hs:ls.length≤100) (hl:∀y∈ls,y.length≤100):Ev (fun k=>impl_copyMind.f k t l ls) (t,l,ls):=by
 unfold impl_copyMind.f
 refine ev_bindc rfl (ev_pos (by show 0+l.length<_;omega) ?_)
 rw[List.nil_append]
 have key:∀i,i≤ls.length→Ev (fun k=>impl_copyMind.l0 k ls (ls.length:Int) (i:Int) t l (ls.take i)) (t,l,ls):=by
  apply down
  ·refine Ev.step (fun k=>rfl) (ev_neg (by omega) (ev_eq (Ev.now _) ?_))
   rw[List.take_length]
  ·intro i hi ih
   have:=hl _ (List.getElem_mem hi)
   refine Ev.step (fun k=>rfl) (ev_pos (by omega) (ev_pos (by omega) (ev_pos (by omega) (ev_bindc rfl (ev_pos (by rw[rdLL_at hi];show 0+ls[i].length<_;omega) (ev_pos (by rw[List.length_take];omega) ?_))))))
   rw[rdLL_at hi,w1 hi (by omega),List.nil_append]
   rw[List.take_succ_eq_append_getElem hi]at ih
   exact ih
 exact key 0 (Nat.zero_le _)
theorem mem_dropLast {α:Type} {l:List α} {y:α} (h:y∈l.dropLast):y∈l:=by rw[List.dropLast_eq_take]at h;exact List.mem_of_mem_take h
/-! ### deeds -/
def nope (t:Int) (l:List Int) (ls:List (List Int)):Int×List Int×List (List Int)×Bool:=(t,l,ls,false)
/-- A row more of before; the first one is gone if there are too many. -/
def push (l:List Int) (ls:List (List Int)):List (List Int):=if ls.length+1>10 then(ls++ [l]).drop 1 else ls++ [l]
def mdo (t:Int) (l:List Int) (ls:List (List Int)) (a:Int) (s:ByteArray):Int×List Int×List (List Int)×Bool:=
 if a=2∧s.size=0 then(if ls= []then nope t l ls else(t,ls.getLastD [],ls.dropLast,true))
 else if a=0∨a=1 then
  (if(holds t s).2=true then(if(holds t s).1=0 then nope t l ls else(if chg l a (holds t s).1.toNat=l then nope t l ls else(t,chg l a (holds t s).1.toNat,push l ls,true)))else nope t l ls)
 else nope t l ls
theorem mindOk_iff {t:Int} {l:List Int} {ls:List (List Int)}:mindOk t l ls=true↔tidyOk t l=true∧ls.length≤10∧∀y∈ls,tidyOk t y=true:=by
 unfold mindOk
 rw[Bool.and_eq_true,Bool.and_eq_true,decide_eq_true_iff,List.all_eq_true]
theorem rd_last {ls:List (List Int)} (h:ls≠ []):rd_L1 ls (wrap64 ((ls.length:Int) - 1))=ls.getLastD []∧wrap64 ((ls.length:Int) - 1)=((ls.length - 1:Nat):Int)∧ls.take (wrap64 ((ls.length:Int) - 1)).toNat=ls.dropLast∨¬ls.length≤100:=by
 by_cases hn:ls.length≤100
 ·left
  have hp:0<ls.length:=List.length_pos_iff.2 h
  have e:wrap64 ((ls.length:Int) - 1)=((ls.length - 1:Nat):Int):=by rw[w64 (by omega) (by omega)];omega
  refine⟨?_,e,?_⟩
  ·rw[e,rdLL_at (by omega),List.getLastD_eq_getLast?,List.getLast?_eq_getElem?,List.getElem?_eq_getElem (by omega)]
   rfl
  ·rw[e,Int.toNat_natCast,List.dropLast_eq_take]
 ·exact Or.inr hn
theorem isNil (a:Int) (s:ByteArray):(a==2&&(s.toList==([]:List UInt8)))=true↔a=2∧s.size=0:=by
 rw[Bool.and_eq_true,beq_iff_eq,beq_iff_eq,toList_nil]
set_option maxHeartbeats 1000000 in
theorem impl_mindDo_ev {t:Int} {l:List Int} {ls:List (List Int)} (hm:mindOk t l ls=true) (a:Int) (s:ByteArray):Ev (fun k=>impl_mindDo.f k t l ls a s) (mdo t l ls a s):=by
 obtain⟨htl,h9,hls⟩:=mindOk_iff.1 hm
 obtain⟨hr,_⟩:=tidyOk_iff.1 htl
 obtain⟨ht,hl,hx,_⟩:=rankOk_iff.1 hr
 have h8:=(wn_le t).1
 have hlen:∀y∈ls,y.length≤100:=fun y hy=>by
  have:=(rankOk_iff.1 (tidyOk_iff.1 (hls y hy)).1).2.1
  omega
 have hc:=copyMind_ev t (l:=l) (ls:=ls) (by omega) (by omega) hlen
 unfold impl_mindDo.f mdo
 refine Ev.bind hc ?_
 by_cases hb:a=2∧s.size=0
 ·rw[if_pos hb]
  refine ev_pos ((isNil a s).2 hb) ?_
  by_cases he:ls= []
  ·rw[if_pos he]
   subst he
   exact ev_pos (show wrap64 (((([]:List (List Int)).length:Nat):Int) - 1)<0 by decide+kernel) (Ev.now _)
  ·rw[if_neg he]
   have hp:0<ls.length:=List.length_pos_iff.2 he
   obtain⟨r1,r2,r3⟩:=(rd_last he).resolve_right (fun k=>k (by omega))
   have hlast:ls.getLastD []∈ls:=by rw[List.getLastD_eq_getLast?,List.getLast?_eq_some_getLast he];exact List.getLast_mem he
   have hc2:=copyMind_ev t (l:=ls.getLastD []) (ls:=ls.dropLast) (hlen _ hlast) (by rw[List.length_dropLast];omega) (fun y hy=>hlen y (mem_dropLast hy))
   refine ev_neg (by dsimp only;rw[r2];omega) (ev_pos (by dsimp only;rw[r2];omega) (ev_pos (by dsimp only;rw[r2];omega) (ev_pos (by dsimp only;rw[r2];omega) ?_)))
   dsimp only
   rw[r1,r3]
   exact Ev.bind hc2 (Ev.now _)
 ·rw[if_neg hb]
  refine ev_neg (fun k=>hb ((isNil a s).1 k)) ?_
  have no:Ev (fun k=>impl_mindDo.j0 k true t l ls a s t l ls) (nope t l ls):=Ev.step (f:=fun _=>some (t,l,ls,false)) (fun k=>rfl) (Ev.now _)
  have no1:∀v:Int,Ev (fun k=>impl_mindDo.j1 k v true t l ls a s t l ls) (nope t l ls):=fun v=>Ev.step (f:=fun _=>some (t,l,ls,false)) (fun k=>rfl) (Ev.now _)
  have go:a=0∨a=1→Ev (fun k=>impl_mindDo.j0 k false t l ls a s t l ls) (if(holds t s).2=true then(if(holds t s).1=0 then nope t l ls else(if chg l a (holds t s).1.toNat=l then nope t l ls else(t,chg l a (holds t s).1.toNat,push l ls,true)))else nope t l ls):=by
   intro ha
   refine Ev.step (f:=fun k=>(impl_HoldsIn.f k t s).bind fun bt359=>(if bt359.2=true then(impl_mindDo.j1 k bt359.1 (bt359.1==0) t l ls a s t l ls)else(impl_mindDo.j1 k bt359.1 true t l ls a s t l ls))) (fun k=>rfl) (Ev.bind (impl_HoldsIn_ev t s) ?_)
   by_cases h2:(holds t s).2=true
   ·rw[if_pos h2]
    refine ev_pos h2 ?_
    have eh:holds t s=((holds t s).1,true):=by rw[←h2]
    obtain⟨_,v0,v1⟩:=holds_range eh
    obtain⟨v,ev⟩:=Int.eq_ofNat_of_zero_le v0
    have hv2:v<2^wn t:=by have:=all_wn ht;omega
    rw[ev,Int.toNat_natCast]
    by_cases e0:(v:Int)=0
    ·rw[if_pos e0,show((v:Int)==0)=true from by rw[e0];rfl]
     exact no1 _
    ·rw[if_neg e0,show((v:Int)==0)=false from beq_eq_false_iff_ne.2 e0]
     have hq:=chg_tidy hr a v
     have hql:(chg l a v).length≤100:=by have:=(rankOk_iff.1 (tidyOk_iff.1 hq).1).2.1;omega
     have two:Ev (fun k=>impl_mindDo.j2 k (v:Int) a t l ls t l ls) (if chg l a v=l then nope t l ls else(t,chg l a v,push l ls,true)):=by
      refine Ev.step (f:=fun k=>(impl_changedBy.f k t l a (v:Int)).bind fun t361=>((slices_Equal_int_int.f k t361 l).bind fun t364=>(if t364=true then(some (t,l,ls,false))else(if ls.length<5864062014805 then((some (ls++ [l]:List (List Int))).bind fun y365=>(if(y365.length:Int)>10 then(if 1≤(y365.length:Int)then((impl_copyMind.f k t t361 (y365.drop (1:Int).toNat)).bind fun bt368=>(some (bt368.1,bt368.2.1,bt368.2.2,true)))else(none))else((impl_copyMind.f k t t361 y365).bind fun bt368=>(some (bt368.1,bt368.2.1,bt368.2.2,true)))))else(none))))) (fun k=>rfl) (Ev.bind (changed_ev ht hl hx hv2 a) (Ev.bind (Equal_ev (by omega)) ?_))
      by_cases e:chg l a v=l
      ·rw[if_pos e]
       exact ev_pos (decide_eq_true e) (Ev.now _)
      ·rw[if_neg e]
       have hall:∀y∈ls++ [l],y.length≤100:=fun y hy=>by
        rcases List.mem_append.1 hy with hy|hy
        ·exact hlen y hy
        ·rw[List.mem_singleton.1 hy];omega
       have hln:(ls++ [l]).length=ls.length+1:=by rw[List.length_append,List.length_singleton]
       refine ev_neg (by rw[decide_eq_false e];decide) (ev_pos (by omega) (ev_bindc rfl ?_))
       unfold push
       by_cases h10:ls.length+1>10
       ·rw[if_pos h10]
        have hc3:=copyMind_ev t (l:=chg l a v) (ls:=(ls++ [l]).drop 1) hql (by rw[List.length_drop];omega) (fun y hy=>hall y (List.mem_of_mem_drop hy))
        exact ev_pos (by rw[hln];omega) (ev_pos (by rw[hln];omega) (Ev.bind hc3 (Ev.now _)))
       ·rw[if_neg h10]
        have hc3:=copyMind_ev t (l:=chg l a v) (ls:=ls++ [l]) hql (by omega) hall
        exact ev_neg (by rw[hln];omega) (Ev.bind hc3 (Ev.now _))
     refine Ev.step (f:=fun k=>if a=1 then(impl_mindDo.j2 k (v:Int) 1 t l ls t l ls)else(impl_mindDo.j2 k (v:Int) 0 t l ls t l ls)) (fun k=>rfl) ?_
     rcases ha with rfl|rfl
     ·exact ev_neg (by decide) two
     ·exact ev_pos rfl two
   ·rw[if_neg h2]
    exact ev_neg h2 (no1 _)
  by_cases a0:a=0
  ·rw[if_pos (Or.inl a0)]
   exact ev_pos a0 (go (Or.inl a0))
  ·refine ev_neg a0 ?_
   by_cases a1:a=1
   ·rw[if_pos (Or.inr a1),show(a !=1)=false from by rw[a1];rfl]
    exact go (Or.inr a1)
   ·rw[if_neg (by omega),show(a !=1)=true from bne_iff_ne.2 a1]
    exact no
theorem push_len {l:List Int} {ls:List (List Int)} (h:ls.length≤10):(push l ls).length≤10:=by
 unfold push
 split
 ·rw[List.length_drop,List.length_append,List.length_singleton];omega
 ·rw[List.length_append,List.length_singleton];omega
theorem push_mem {l y:List Int} {ls:List (List Int)} (h:y∈push l ls):y∈ls∨y=l:=by
 have:y∈ls++ [l]:=by
  unfold push at h
  split at h
  ·exact List.mem_of_mem_drop h
  ·exact h
 rcases List.mem_append.1 this with k|k
 ·exact Or.inl k
 ·exact Or.inr (List.mem_singleton.1 k)
theorem mdo_ok {t:Int} {l:List Int} {ls:List (List Int)} (hm:mindOk t l ls=true) (a:Int) (s:ByteArray):mindOk (mdo t l ls a s).1 (mdo t l ls a s).2.1 (mdo t l ls a s).2.2.1=true:=by
 obtain⟨htl,h10,hls⟩:=mindOk_iff.1 hm
 unfold mdo
 have no:mindOk (nope t l ls).1 (nope t l ls).2.1 (nope t l ls).2.2.1=true:=hm
 split
 ·split
  ·exact no
  ·rename_i he
   have hlast:ls.getLastD []∈ls:=by rw[List.getLastD_eq_getLast?,List.getLast?_eq_some_getLast he];exact List.getLast_mem he
   exact mindOk_iff.2 ⟨hls _ hlast,by rw[List.length_dropLast];omega,fun y hy=>hls y (mem_dropLast hy)⟩
 ·split
  ·split
   ·split
    ·exact no
    ·split
     ·exact no
     ·exact mindOk_iff.2 ⟨chg_tidy (tidyOk_iff.1 htl).1 _ _,push_len h10,fun y hy=>(push_mem hy).elim (hls y) (fun e=>e▸htl)⟩
   ·exact no
  ·exact no
theorem num_size {n:Nat} (h:n≤10):(num n).size≤5:=by
 have:∀m:Nat,m<11→(num m).size≤5:=by decide+kernel
 exact this n (by omega)
/-! ### the ranks' text -/
def texts (l:List Int):List ByteArray:=l.map fun x=>num x.toNat
def jn:ByteArray→List Int→ByteArray
 |c,[]=>c
 |c,x::r=>jn ((c++(⟨#[44]⟩:ByteArray))++num x.toNat) r
theorem jn_list:∀(r:List Int) (c:ByteArray),(jn c r).toList=c.toList++Lib.joinTail [44] ((texts r).map (·.data.toList))
 | [],c=>by simp[jn,texts,Lib.joinTail]
 |x::r,c=>by
  unfold jn
  rw[jn_list r,list_append,list_append,toList_data (num x.toNat),show(⟨#[44]⟩:ByteArray).toList= [44] from by decide+kernel]
  simp[texts,Lib.joinTail]
theorem jn_size:∀(r:List Int) (c:ByteArray),(∀x∈r,x.toNat≤10)→(jn c r).size≤c.size+6*r.length
 | [],c,_=>by simp[jn]
 |x::r,c,h=>by
  unfold jn
  have h1:=jn_size r ((c++(⟨#[44]⟩:ByteArray))++num x.toNat) (fun y hy=>h y (List.mem_cons_of_mem _ hy))
  have h2:=num_size (h x List.mem_cons_self)
  rw[ByteArray.size_append,ByteArray.size_append,show(⟨#[44]⟩:ByteArray).size=1 from rfl]at h1
  rw[List.length_cons]
  omega
theorem join_ranks {x:Int} {r:List Int} (h:∀y∈x::r,y.toNat≤10) (hr:r.length≤8):strings_Join.f (texts (x::r)) (⟨#[44]⟩:ByteArray)=some (jn (num x.toNat) r):=by
 have e:Lib.join ((texts (x::r)).map (·.data.toList)) (⟨#[44]⟩:ByteArray).data.toList=(jn (num x.toNat) r).toList:=by
  rw[jn_list]
  show Lib.join ((num x.toNat).data.toList::(texts r).map (·.data.toList)) [44]=_
  rw[Lib.join_cons,toList_data]
 have hs:=jn_size r (num x.toNat) (fun y hy=>h y (List.mem_cons_of_mem _ hy))
 have hn:=num_size (h x List.mem_cons_self)
 unfold strings_Join.f
 rw[e,size_list,if_pos (by simp[texts];omega),if_pos (by omega)]
 refine congrArg some (ext_list ?_)
 rw[toList_data]
theorem asked_l0_ev {l:List Int} (hl:l.length≤8) (hx:∀x∈l,0≤x∧x≤9) {r:ByteArray} (hj:strings_Join.f (texts l) (⟨#[44]⟩:ByteArray)=some r):Ev (fun k=>impl_asked.l0 k ([]:List ByteArray) l (l.length:Int) 0) r:=by
 have key:∀i,i≤l.length→Ev (fun k=>impl_asked.l0 k ((texts l).take i) l (l.length:Int) (i:Int)) r:=by
  apply down
  ·rw[List.take_of_length_le (by simp[texts])]
   exact Ev.step (fun k=>rfl) (ev_neg (by omega) (ev_bindc hj (Ev.now _)))
  ·intro i hi ih
   have hm:=hx _ (rd_mem hi)
   have e:texts l=texts l:=rfl
   have ht:(texts l).take (i+1)=(texts l).take i++ [num (rd l (i:Int)).toNat]:=by
    have hi':i<(texts l).length:=by simp[texts];exact hi
    rw[List.take_succ_eq_append_getElem hi',rd_at hi]
    simp[texts]
   rw[ht]at ih
   have hn:strconv_Itoa.f (rd l (i:Int))=some (num (rd l (i:Int)).toNat):=by
    have:=(num_facts (n:=(rd l (i:Int)).toNat) (by omega)).1
    rw[Int.toNat_of_nonneg hm.1]at this
    exact this
   refine Ev.step (fun k=>rfl) (ev_pos (by omega) (ev_pos (by omega) (ev_pos (by omega) (ev_bindc hn (ev_pos ?_ ?_)))))
   ·rw[List.length_take]
    omega
   ·rw[w1 hi (by omega)]
    exact ih
 exact key 0 (Nat.zero_le _)
theorem l1Number_at {x:Int} (h0:0≤x) (h:x.toNat≤10):Ev (fun k=>spec_l1Number.f k x) (num x.toNat):=by
 have:=l1Number_ev h
 rw[Int.toNat_of_nonneg h0]at this
 exact this
theorem spec_l0_ev {t:Int} {l:List Int} {ls:List (List Int)} {q:Int} {m:List Int} {ms:List (List Int)} (hl:l.length≤8) (hx:∀x∈l,0≤x∧x≤9):∀i,i≤l.length→∀c:ByteArray,c.size≤6*i→
  Ev (fun k=>spec_MindLine.l0 k c (i:Int) t l ls q m ms) (q,m,ms,jn c (l.drop i)):=by
 apply down
 ·intro c _
  rw[List.drop_length]
  exact Ev.step (fun k=>rfl) (ev_neg (by omega) (Ev.now _))
 ·intro i hi ih c hc
  have hm:=hx _ (rd_mem hi)
  have hs:=num_size (n:=(rd l (i:Int)).toNat) (by omega)
  have hc1:(c++(⟨#[44]⟩:ByteArray)).size=c.size+1:=by rw[ByteArray.size_append];rfl
  rw[List.drop_eq_getElem_cons hi,←rd_at hi]
  refine Ev.step (fun k=>rfl) (ev_pos (by omega) (ev_pos (by omega) (ev_pos (by omega) (Ev.bind (l1Number_at hm.1 (by omega)) (ev_pos (by omega) ?_)))))
  rw[w1 hi (by omega)]
  exact ih _ (by rw[ByteArray.size_append];omega)
/-! ### rules, yes and no -/
theorem yes_same (b:Bool):∃r,impl_yesNo.f b=some r∧spec_l10Yes.f b=some r:=by cases b<;>exact⟨_,rfl,rfl⟩
theorem rule_both (t:Int) {s:ByteArray} (hs:s.size≤1000000000):∃v:Int×Int×Bool,Ev (fun k=>impl_ReadRule.f k t s) v∧Ev (fun k=>spec_ReadRule.f k t s) v∧(v=(0,0,false)∨∃a b:Nat,v=((a:Int),(b:Int),true)∧a≠0∧a≤all t∧b≤all t):=by
 rcases impl_ReadRule_at t (s:=s) (by omega)with⟨k,h1,h2,h3⟩|⟨h1,h2⟩
 ·refine⟨_,h3,spec_ReadRule_at t hs h1 h2,?_⟩
  rcases ruleAt_cases t s k with e|⟨a,b,e,_,g1,g2,g3⟩
  ·exact Or.inl e
  ·exact Or.inr ⟨a,b,e,g1,g2,g3⟩
 ·exact⟨_,h2,spec_ReadRule_none t hs h1,Or.inl rfl⟩
/-! ### printable texts -/
def plain (s:ByteArray):Bool:=(List.range s.size).all fun(j:Nat)=>decide (32≤bt s (j:Int)∧bt s (j:Int)≤126)
def plainFrom (s:ByteArray) (i:Nat):Bool:=(List.range' i (s.size - i)).all fun(j:Nat)=>decide (32≤bt s (j:Int)∧bt s (j:Int)≤126)
theorem plainFrom_end (s:ByteArray):plainFrom s s.size=true:=by unfold plainFrom;rw[Nat.sub_self];rfl
theorem plainFrom_step (s:ByteArray) {i:Nat} (h:i<s.size):plainFrom s i=(decide (32≤bt s (i:Int)∧bt s (i:Int)≤126)&&plainFrom s (i+1)):=by
 unfold plainFrom
 rw[show s.size - i=(s.size - (i+1))+1 from by omega,List.range'_succ,List.all_cons]
theorem plainFrom_all (s:ByteArray):plainFrom s 0=plain s:=by
 unfold plainFrom plain
 rw[Nat.sub_zero,List.range_eq_range']
theorem l10Plain_ev {s:ByteArray} (hs:s.size≤9223372036854775807):Ev (fun k=>spec_l10Plain.f k s) (plain s&&decide (s.size≠0)):=by
 unfold spec_l10Plain.f
 rw[←plainFrom_all]
 have key:∀i,i≤s.size→Ev (fun k=>spec_l10Plain.l0 k s (i:Int)) (plainFrom s i&&decide (s.size≠0)):=by
  apply down
  ·refine Ev.step (fun k=>rfl) (ev_neg (by omega) (ev_eq (Ev.now _) ?_))
   rw[plainFrom_end,Bool.true_and]
   exact decide_eq_decide.2 (by omega)
  ·intro i hi ih
   refine Ev.step (fun k=>rfl) (ev_pos (by omega) (ev_pos (by omega) ?_))
   rw[plainFrom_step s hi]
   by_cases h1:bt s (i:Int)<32
   ·rw[decide_eq_false (by omega)]
    exact ev_pos h1 (Ev.now _)
   ·by_cases h2:bt s (i:Int)>126
    ·rw[decide_eq_false (by omega)]
     exact ev_neg h1 (ev_pos h2 (Ev.now _))
    ·rw[decide_eq_true (by omega),w1 hi hs]
     exact ev_neg h1 (ev_neg h2 ih)
 exact key 0 (Nat.zero_le _)
theorem isPrintable_ev {s:ByteArray} (hs:s.size≤9223372036854775807):Ev (fun k=>impl_isPrintable.f k s) (plain s):=by
 unfold impl_isPrintable.f
 rw[←plainFrom_all]
 have key:∀i,i≤s.size→Ev (fun k=>impl_isPrintable.l0 k s (s.size:Int) (i:Int)) (plainFrom s i):=by
  apply down
  ·refine Ev.step (fun k=>rfl) (ev_neg (by omega) (ev_eq (Ev.now _) ?_))
   rw[plainFrom_end]
  ·intro i hi ih
   refine Ev.step (fun k=>rfl) (ev_pos (by omega) (ev_pos (by omega) (ev_pos (by omega) ?_)))
   rw[plainFrom_step s hi]
   by_cases h1:bt s (i:Int)<32
   ·rw[decide_eq_false (by omega)]
    exact ev_pos h1 (Ev.now _)
   ·by_cases h2:bt s (i:Int)>126
    ·rw[decide_eq_false (by omega)]
     exact ev_neg h1 (ev_pos h2 (Ev.now _))
    ·rw[decide_eq_true (by omega),w1 hi hs]
     exact ev_neg h1 (ev_neg h2 ih)
 exact key 0 (Nat.zero_le _)

/-! ### the text of a deed -/
def sFirst:ByteArray:=⟨#[102,105,114,115,116,32]⟩
def sAll:ByteArray:=⟨#[97,108,108,32]⟩
def sBack:ByteArray:=⟨#[98,97,99,107]⟩
def deedT (kind:Int) (s:ByteArray):ByteArray:=
 if kind=2∧s.size=0 then sBack else if plain s=true∧s.size≠0 then(if kind=0 then sFirst++s else if kind=1 then sAll++s else⟨#[]⟩)else⟨#[]⟩
theorem nil_iff (kind:Int) (s:ByteArray):(kind==2&&(s.toList==([]:List UInt8)))=true↔kind=2∧s.size=0:=by
 rw[Bool.and_eq_true,beq_iff_eq,beq_iff_eq,toList_nil]
theorem first_cat (s:ByteArray):((⟨#[102,105,114,115,116]⟩:ByteArray)++(⟨#[32]⟩:ByteArray))++s=sFirst++s:=by congr 1
theorem all_cat (s:ByteArray):((⟨#[97,108,108]⟩:ByteArray)++(⟨#[32]⟩:ByteArray))++s=sAll++s:=by congr 1
theorem spec_DeedText_ev (kind:Int) {s:ByteArray} (hs:s.size≤9223372036854775000):Ev (fun k=>spec_DeedText.f k kind s) (deedT kind s):=by
 unfold spec_DeedText.f deedT
 refine ev_bindc (l1In_eq _ _ _) ?_
 have off:(¬(plain s=true∧s.size≠0)∨(kind≠0∧kind≠1))→Ev (fun k=>spec_DeedText.j0 k false kind s) (if kind=2∧s.size=0 then sBack else if plain s=true∧s.size≠0 then(if kind=0 then sFirst++s else if kind=1 then sAll++s else⟨#[]⟩)else⟨#[]⟩):=by
  intro h
  refine Ev.step (fun k=>rfl) ?_
  simp only[spec_DeedText.j0]
  refine ev_neg Bool.false_ne_true ?_
  by_cases h2:kind=2∧s.size=0
  ·rw[if_pos h2]
   exact ev_pos ((nil_iff kind s).2 h2) (Ev.now _)
  ·rw[if_neg h2]
   refine ev_neg (fun x=>h2 ((nil_iff kind s).1 x)) (ev_eq (Ev.now _) ?_)
   rcases h with h|h
   ·rw[if_neg h]
   ·rw[if_neg h.1,if_neg h.2,ite_self]
 by_cases h:0≤kind∧kind≤1
 ·refine ev_pos (decide_eq_true h) (Ev.bind (l10Plain_ev (by omega)) ?_)
  by_cases hp:plain s=true∧s.size≠0
  ·rw[hp.1,decide_eq_true hp.2,if_neg (by omega),if_pos ⟨rfl,hp.2⟩]
   refine Ev.step (fun k=>rfl) ?_
   simp only[spec_DeedText.j0]
   have hk:kind=0∨kind=1:=by omega
   rcases hk with rfl|rfl
   ·exact ev_pos rfl (ev_bindc rfl (ev_pos (by omega) (ev_pos (by decide) (ev_pos (by decide) (ev_pos (by rw[ByteArray.size_append];show 6+s.size≤_;omega) (ev_eq (Ev.now _) (first_cat s)))))))
   ·exact ev_pos rfl (ev_bindc rfl (ev_pos (by omega) (ev_pos (by decide) (ev_pos (by decide) (ev_pos (by rw[ByteArray.size_append];show 4+s.size≤_;omega) (ev_eq (Ev.now _) (all_cat s)))))))
  ·have e:(plain s&&decide (s.size≠0))=false:=by
    rw[Bool.eq_false_iff]
    intro x
    rw[Bool.and_eq_true,decide_eq_true_iff]at x
    exact hp x
   rw[e]
   exact off (Or.inl hp)
 ·exact ev_neg (by rw[decide_eq_false h];decide) (off (Or.inr (by omega)))
theorem impl_deedText_ev (kind:Int) {s:ByteArray} (hs:s.size≤9223372036854775000):Ev (fun k=>impl_deedText.f k kind s) (deedT kind s):=by
 unfold impl_deedText.f deedT
 by_cases h2:kind=2∧s.size=0
 ·rw[if_pos h2]
  exact ev_pos ((nil_iff kind s).2 h2) (Ev.now _)
 rw[if_neg h2]
 refine ev_neg (fun x=>h2 ((nil_iff kind s).1 x)) ?_
 by_cases h0:s.size=0
 ·rw[if_neg (fun x=>x.2 h0)]
  refine ev_pos ((toList_nil s).2 h0) (Ev.step (fun k=>rfl) ?_)
  simp only[impl_deedText.j0]
  exact ev_pos trivial (Ev.now _)
 ·refine ev_neg (fun x=>h0 ((toList_nil s).1 x)) (Ev.bind (isPrintable_ev (by omega)) ?_)
  cases hp:plain s with
  |false=>
   rw[if_neg (fun x=>Bool.false_ne_true x.1)]
   refine Ev.step (fun k=>rfl) ?_
   simp only[impl_deedText.j0,Bool.not_false]
   exact ev_pos trivial (Ev.now _)
  |true=>
   rw[if_pos ⟨rfl,h0⟩]
   refine Ev.step (fun k=>rfl) ?_
   simp only[impl_deedText.j0,Bool.not_true]
   refine ev_neg Bool.false_ne_true ?_
   by_cases k0:kind=0
   ·exact ev_pos k0 (ev_pos (by omega) (ev_eq (Ev.now _) (if_pos k0).symm))
   ·refine ev_neg k0 ?_
    by_cases k1:kind=1
    ·exact ev_pos k1 (ev_pos (by omega) (ev_eq (Ev.now _) ((if_neg k0).trans (if_pos k1)).symm))
    ·exact ev_neg k1 (ev_eq (Ev.now _) ((if_neg k0).trans (if_neg k1)).symm)
/-! ### bytes as lists -/
theorem mk_list (l:List UInt8):(⟨l.toArray⟩:ByteArray).toList=l:=by rw[toList_data]
/-- The place of a byte: the first one, or nowhere. -/
theorem indexByte_cases (l:List UInt8) (c:UInt8):(Lib.indexByte l c= -1∧c∉l)∨∃(a b:List UInt8),l=a++c::b∧c∉a∧Lib.indexByte l c=(a.length:Int):=by
 induction l with
 |nil=>exact Or.inl ⟨rfl,by simp⟩
 |cons x l ih=>
  unfold Lib.indexByte
  by_cases hx:(x==c)=true
  ·rw[if_pos hx]
   exact Or.inr ⟨[],l,by rw[beq_iff_eq.1 hx];rfl,by simp,rfl⟩
  ·rw[if_neg hx]
   have hxc:c≠x:=fun e=>hx (by rw[e];exact beq_self_eq_true x)
   rcases ih with⟨h1,h2⟩|⟨a,b,h1,h2,h3⟩
   ·rw[h1,if_pos (by decide)]
    exact Or.inl ⟨rfl,by rw[List.mem_cons];rintro(h|h);exact hxc h;exact h2 h⟩
   ·rw[h3,if_neg (by rw[beq_iff_eq];omega)]
    exact Or.inr ⟨x::a,b,by rw[h1];rfl,by rw[List.mem_cons];rintro(h|h);exact hxc h;exact h2 h,by rw[List.length_cons];omega⟩
/-- A text cut at the first byte c. -/
theorem cut_cases (s:ByteArray) (c:UInt8) (hs:s.size<9223372036854775807):
  (strings_Cut.f s ⟨#[c]⟩=some (s,(⟨#[]⟩:ByteArray),false)∧c∉s.toList)∨
  ∃a b:ByteArray,strings_Cut.f s ⟨#[c]⟩=some (a,b,true)∧s.toList=a.toList++c::b.toList∧c∉a.toList:=by
 have hbt:bt (⟨#[c]⟩:ByteArray) 0=(c.toNat:Int):=rfl
 have key:∀i:Int,stringslite_Index.f s ⟨#[c]⟩=some i→i=Lib.indexByte s.toList c→((strings_Cut.f s ⟨#[c]⟩=some (s,(⟨#[]⟩:ByteArray),false)∧c∉s.toList)∨
  ∃a b:ByteArray,strings_Cut.f s ⟨#[c]⟩=some (a,b,true)∧s.toList=a.toList++c::b.toList∧c∉a.toList):=by
  intro i hi hv
  unfold strings_Cut.f stringslite_Cut.f
  rw[hi,Option.bind_some]
  rcases indexByte_cases s.toList c with⟨h1,h2⟩|⟨a,b,h1,h2,h3⟩
  ·rw[hv,h1,if_pos (by decide)]
   exact Or.inl ⟨rfl,h2⟩
  ·have hl:a.length+(b.length+1)=s.size:=by rw[←size_list,h1,List.length_append,List.length_cons]
   rw[hv,h3,if_neg (by omega),Int.toNat_natCast,if_pos (by show a.length+1≤s.size;omega)]
   refine Or.inr ⟨_,_,rfl,?_,?_⟩
   ·rw[list_extract,List.drop_zero,Nat.sub_zero,list_from,h1,List.take_left]
    congr 1
    show c::b=c::(a++c::b).drop (a.length+1)
    rw[List.drop_append,List.drop_of_length_le (by omega),show a.length+1 - a.length=1 from by omega]
    rfl
   ·rw[list_extract,List.drop_zero,Nat.sub_zero,h1,List.take_left]
    exact h2
 unfold stringslite_Index.f at key
 rw[if_pos (show(⟨#[c]⟩:ByteArray).size=1 from rfl),if_pos hs]at key
 by_cases he:((⟨#[c]⟩:ByteArray).toList==s.toList)=true
 ·rw[if_pos he]at key
  refine key 0 rfl ?_
  have:s.toList= [c]:=by rw[←beq_iff_eq.1 he];exact mk_list [c]
  rw[this]
  show(0:Int)=if c==c then 0 else _
  rw[if_pos (beq_self_eq_true c)]
 ·rw[if_neg he]at key
  refine key _ rfl ?_
  show Lib.indexByte s.data.toList ((bt (⟨#[c]⟩:ByteArray) 0).toNat.toUInt8)=_
  rw[hbt,Int.toNat_natCast,toList_data]
  congr 1
  simp

/-! ### the deed of a text -/
def rdeed (s:ByteArray):Int×ByteArray×Bool:=
 if s.toList= [98,97,99,107]then(2,(⟨#[]⟩:ByteArray),true)
 else if[102,105,114,115,116,32]<+:s.toList∧plain (s.extract 6 s.size)=true∧6<s.size then(0,s.extract 6 s.size,true)
 else if[97,108,108,32]<+:s.toList∧plain (s.extract 4 s.size)=true∧4<s.size then(1,s.extract 4 s.size,true)
 else(0,(⟨#[]⟩:ByteArray),false)
theorem back_list:sBack.toList= [98,97,99,107]:=by decide+kernel
theorem first_list:sFirst.toList= [102,105,114,115,116,32]:=by decide+kernel
theorem all_list:sAll.toList= [97,108,108,32]:=by decide+kernel
theorem nil_list:(⟨#[]⟩:ByteArray).toList= []:=by decide+kernel
theorem prefix_ext {p:List UInt8} {s:ByteArray} (h:p<+:s.toList):s.toList=p++(s.extract p.length s.size).toList:=by
 obtain⟨t,ht⟩:=h
 rw[list_from,←ht,List.drop_left]
theorem extract_size (s:ByteArray) {i:Nat} (_:i≤s.size):(s.extract i s.size).size=s.size - i:=by rw[←size_list,list_from,List.length_drop,size_list]
/-- When the text of a deed with a sentence is a text. -/
theorem deedT0 (s t:ByteArray):(deedT 0 t).toList=s.toList↔(s.toList= [102,105,114,115,116,32]++t.toList∧plain t=true∧t.size≠0)∨(¬(plain t=true∧t.size≠0)∧s.toList= []):=by
 unfold deedT
 rw[if_neg (by omega)]
 by_cases h:plain t=true∧t.size≠0
 ·rw[if_pos h,if_pos rfl,list_append,first_list]
  exact⟨fun k=>Or.inl ⟨k.symm,h⟩,fun k=>k.elim (fun k=>k.1.symm) (fun k=>absurd h k.1)⟩
 ·rw[if_neg h,nil_list]
  exact⟨fun k=>Or.inr ⟨h,k.symm⟩,fun k=>k.elim (fun k=>absurd k.2 h) (fun k=>k.2.symm)⟩
theorem deedT1 (s t:ByteArray):(deedT 1 t).toList=s.toList↔(s.toList= [97,108,108,32]++t.toList∧plain t=true∧t.size≠0)∨(¬(plain t=true∧t.size≠0)∧s.toList= []):=by
 unfold deedT
 rw[if_neg (by omega)]
 by_cases h:plain t=true∧t.size≠0
 ·rw[if_pos h,if_neg (by omega),if_pos rfl,list_append,all_list]
  exact⟨fun k=>Or.inl ⟨k.symm,h⟩,fun k=>k.elim (fun k=>k.1.symm) (fun k=>absurd h k.1)⟩
 ·rw[if_neg h,nil_list]
  exact⟨fun k=>Or.inr ⟨h,k.symm⟩,fun k=>k.elim (fun k=>absurd k.2 h) (fun k=>k.2.symm)⟩
theorem rdeed_first {s t:ByteArray} (h:s.toList= [102,105,114,115,116,32]++t.toList) (hp:plain t=true) (h0:t.size≠0):rdeed s=(0,t,true):=by
 have e:s.extract 6 s.size=t:=ext_list (by rw[list_from,h];rfl)
 have hl:s.size=6+t.size:=by rw[←size_list,h,List.length_append,size_list];rfl
 unfold rdeed
 rw[if_neg (by rw[h];intro k;injection k with k _;exact absurd k (by decide)),if_pos ⟨⟨t.toList,h.symm⟩,by rw[e];exact hp,by omega⟩,e]
theorem rdeed_all {s t:ByteArray} (h:s.toList= [97,108,108,32]++t.toList) (hp:plain t=true) (h0:t.size≠0):rdeed s=(1,t,true):=by
 have e:s.extract 4 s.size=t:=ext_list (by rw[list_from,h];rfl)
 have hl:s.size=4+t.size:=by rw[←size_list,h,List.length_append,size_list];rfl
 unfold rdeed
 rw[if_neg (by rw[h];intro k;injection k with k _;exact absurd k (by decide)),
  if_neg (fun k=>by obtain⟨⟨u,hu⟩,_⟩:=k;rw[h]at hu;injection hu with hu _;exact absurd hu (by decide)),
  if_pos ⟨⟨t.toList,h.symm⟩,by rw[e];exact hp,by omega⟩,e]
theorem rdeed_back {s:ByteArray} (h:s.toList= [98,97,99,107]):rdeed s=(2,(⟨#[]⟩:ByteArray),true):=by unfold rdeed;rw[if_pos h]
theorem rdeed_none {s:ByteArray} (h1:s.toList≠ [98,97,99,107]) (h2:∀t:ByteArray,s.toList= [102,105,114,115,116,32]++t.toList→¬(plain t=true∧t.size≠0))
  (h3:∀t:ByteArray,s.toList= [97,108,108,32]++t.toList→¬(plain t=true∧t.size≠0)):rdeed s=(0,(⟨#[]⟩:ByteArray),false):=by
 unfold rdeed
 rw[if_neg h1,if_neg (fun k=>h2 _ (prefix_ext k.1) ⟨k.2.1,by show(s.extract 6 s.size).size≠0;rw[extract_size s (by omega)];omega⟩),
  if_neg (fun k=>h3 _ (prefix_ext k.1) ⟨k.2.1,by show(s.extract 4 s.size).size≠0;rw[extract_size s (by omega)];omega⟩)]
/-- Each text: what its deed is. -/
theorem rdeed_cases (s:ByteArray):(s.toList= [98,97,99,107]∧rdeed s=(2,(⟨#[]⟩:ByteArray),true))∨
  (∃t:ByteArray,s.toList= [102,105,114,115,116,32]++t.toList∧plain t=true∧t.size≠0∧rdeed s=(0,t,true))∨
  (∃t:ByteArray,s.toList= [97,108,108,32]++t.toList∧plain t=true∧t.size≠0∧rdeed s=(1,t,true))∨
  (s.toList≠ [98,97,99,107]∧(∀t:ByteArray,s.toList= [102,105,114,115,116,32]++t.toList→¬(plain t=true∧t.size≠0))∧(∀t:ByteArray,s.toList= [97,108,108,32]++t.toList→¬(plain t=true∧t.size≠0))∧rdeed s=(0,(⟨#[]⟩:ByteArray),false)):=by
 by_cases h1:s.toList= [98,97,99,107]
 ·exact Or.inl ⟨h1,rdeed_back h1⟩
 by_cases h2:∃t:ByteArray,s.toList= [102,105,114,115,116,32]++t.toList∧plain t=true∧t.size≠0
 ·obtain⟨t,a,b,c⟩:=h2
  exact Or.inr (Or.inl ⟨t,a,b,c,rdeed_first a b c⟩)
 by_cases h3:∃t:ByteArray,s.toList= [97,108,108,32]++t.toList∧plain t=true∧t.size≠0
 ·obtain⟨t,a,b,c⟩:=h3
  exact Or.inr (Or.inr (Or.inl ⟨t,a,b,c,rdeed_all a b c⟩))
 have k2:∀t:ByteArray,s.toList= [102,105,114,115,116,32]++t.toList→¬(plain t=true∧t.size≠0):=fun t a b=>h2 ⟨t,a,b⟩
 have k3:∀t:ByteArray,s.toList= [97,108,108,32]++t.toList→¬(plain t=true∧t.size≠0):=fun t a b=>h3 ⟨t,a,b⟩
 exact Or.inr (Or.inr (Or.inr ⟨h1,k2,k3,rdeed_none h1 k2 k3⟩))
theorem cut_unique {c:UInt8}:∀{a a' b b':List UInt8},c∉a→c∉a'→a++c::b=a'++c::b'→a=a'
 | [],[],_,_,_,_,_=>rfl
 | [],y::a',_,_,_,h2,e=>by injection e with e _;exact absurd (by rw[e];exact List.mem_cons_self) h2
 |x::a,[],_,_,h1,_,e=>by injection e with e _;exact absurd (by rw[←e];exact List.mem_cons_self) h1
 |x::a,y::a',_,_,h1,h2,e=>by
  injection e with e1 e2
  rw[e1,cut_unique (fun k=>h1 (List.mem_cons_of_mem _ k)) (fun k=>h2 (List.mem_cons_of_mem _ k)) e2]
theorem deedT2 (t:ByteArray) (h:t.size=0):(deedT 2 t).toList= [98,97,99,107]:=by unfold deedT;rw[if_pos ⟨rfl,h⟩,back_list]
theorem deedT2' (t:ByteArray) (h:t.size≠0):(deedT 2 t).toList= []:=by
 unfold deedT
 rw[if_neg (fun k=>h k.2)]
 split
 ·rw[if_neg (by omega),if_neg (by omega),nil_list]
 ·exact nil_list
theorem impl_readDeed_ev {s:ByteArray} (hs:s.size≤9223372036854774000):Ev (fun k=>impl_readDeed.f k s) (rdeed s):=by
 unfold impl_readDeed.f
 rcases cut_cases s 32 (by omega)with⟨hc,hn⟩|⟨a,b,hc,hl,hn⟩
 ·refine ev_bindc hc ?_
  show Ev (fun k=>if s.toList=_ then _ else _) _
  have n1:∀t:ByteArray,s.toList≠ [102,105,114,115,116,32]++t.toList:=fun t e=>hn (by rw[e];simp)
  have n2:∀t:ByteArray,s.toList≠ [97,108,108,32]++t.toList:=fun t e=>hn (by rw[e];simp)
  by_cases h1:s.toList= [102,105,114,115,116]
  ·refine ev_pos h1 (Ev.bind (impl_deedText_ev 0 (s:=⟨#[]⟩) (by decide)) (ev_neg ?_ ?_))
   ·show¬(deedT 0 (⟨#[]⟩:ByteArray)).toList=s.toList
    rw[deedT0]
    rintro(⟨e,_⟩|⟨_,e⟩)
    ·exact n1 _ e
    ·rw[h1]at e;cases e
   ·rw[rdeed_none (by rw[h1];decide) (fun t e=>absurd e (n1 t)) (fun t e=>absurd e (n2 t))]
    exact Ev.now _
  refine ev_neg h1 ?_
  by_cases h2:s.toList= [97,108,108]
  ·refine ev_pos h2 (Ev.bind (impl_deedText_ev 1 (s:=⟨#[]⟩) (by decide)) (ev_neg ?_ ?_))
   ·show¬(deedT 1 (⟨#[]⟩:ByteArray)).toList=s.toList
    rw[deedT1]
    rintro(⟨e,_⟩|⟨_,e⟩)
    ·exact n2 _ e
    ·rw[h2]at e;cases e
   ·rw[rdeed_none (by rw[h2];decide) (fun t e=>absurd e (n1 t)) (fun t e=>absurd e (n2 t))]
    exact Ev.now _
  refine ev_neg h2 ?_
  by_cases h3:s.toList= [98,97,99,107]
  ·refine ev_pos h3 (Ev.bind (impl_deedText_ev 2 (s:=⟨#[]⟩) (by decide)) (ev_pos ?_ ?_))
   ·show(deedT 2 (⟨#[]⟩:ByteArray)).toList=s.toList
    rw[deedT2 _ rfl,h3]
   ·rw[rdeed_back h3]
    exact Ev.now _
  refine ev_neg h3 ?_
  rw[rdeed_none h3 (fun t e=>absurd e (n1 t)) (fun t e=>absurd e (n2 t))]
  exact Ev.now _
 ·refine ev_bindc hc ?_
  show Ev (fun k=>if a.toList=_ then _ else _) _
  have hbs:b.size≤9223372036854775000:=by
   have:=congrArg List.length hl
   rw[List.length_append,List.length_cons,size_list,size_list,size_list]at this
   omega
  have nb:s.toList≠ [98,97,99,107]:=fun e=>by
   have:(32:UInt8)∈s.toList:=by rw[hl];simp
   rw[e]at this
   revert this
   decide
  by_cases h1:a.toList= [102,105,114,115,116]
  ·have hl1:s.toList= [102,105,114,115,116,32]++b.toList:=by rw[hl,h1];rfl
   refine ev_pos h1 (Ev.bind (impl_deedText_ev 0 hbs) ?_)
   by_cases hp:plain b=true∧b.size≠0
   ·rw[rdeed_first hl1 hp.1 hp.2]
    exact ev_pos ((deedT0 s b).2 (Or.inl ⟨hl1,hp⟩)) (Ev.now _)
   ·refine ev_neg (fun k=>?_) ?_
    ·rcases(deedT0 s b).1 k with k|k
     ·exact hp k.2
     ·rw[hl1]at k;cases k.2
    ·rw[rdeed_none nb (fun t e k=>hp (by
      have:t=b:=ext_list (List.append_cancel_left (e.symm.trans hl1))
      rwa [this]at k)) (fun t e=>by rw[hl1]at e;injection e with e _;exact absurd e (by decide))]
     exact Ev.now _
  refine ev_neg h1 ?_
  by_cases h2:a.toList= [97,108,108]
  ·have hl1:s.toList= [97,108,108,32]++b.toList:=by rw[hl,h2];rfl
   refine ev_pos h2 (Ev.bind (impl_deedText_ev 1 hbs) ?_)
   by_cases hp:plain b=true∧b.size≠0
   ·rw[rdeed_all hl1 hp.1 hp.2]
    exact ev_pos ((deedT1 s b).2 (Or.inl ⟨hl1,hp⟩)) (Ev.now _)
   ·refine ev_neg (fun k=>?_) ?_
    ·rcases(deedT1 s b).1 k with k|k
     ·exact hp k.2
     ·rw[hl1]at k;cases k.2
    ·rw[rdeed_none nb (fun t e=>by rw[hl1]at e;injection e with e _;exact absurd e (by decide)) (fun t e k=>hp (by
      have:t=b:=ext_list (List.append_cancel_left (e.symm.trans hl1))
      rwa [this]at k))]
     exact Ev.now _
  refine ev_neg h2 ?_
  have n1:∀t:ByteArray,s.toList≠ [102,105,114,115,116,32]++t.toList:=fun t e=>by
   have e2:a.toList++32::b.toList= [102,105,114,115,116]++32::t.toList:=hl.symm.trans e
   exact h1 (cut_unique hn (by decide) e2)
  have n2:∀t:ByteArray,s.toList≠ [97,108,108,32]++t.toList:=fun t e=>by
   have e2:a.toList++32::b.toList= [97,108,108]++32::t.toList:=hl.symm.trans e
   exact h2 (cut_unique hn (by decide) e2)
  by_cases h3:a.toList= [98,97,99,107]
  ·refine ev_pos h3 (Ev.bind (impl_deedText_ev 2 hbs) (ev_neg (fun k=>?_) ?_))
   ·have hk:(deedT 2 b).toList=s.toList:=k
    by_cases hb0:b.size=0
    ·rw[deedT2 b hb0]at hk;exact nb hk.symm
    ·rw[deedT2' b hb0,hl]at hk;simp at hk
   ·rw[rdeed_none nb (fun t e=>absurd e (n1 t)) (fun t e=>absurd e (n2 t))]
    exact Ev.now _
  refine ev_neg h3 ?_
  rw[rdeed_none nb (fun t e=>absurd e (n1 t)) (fun t e=>absurd e (n2 t))]
  exact Ev.now _
theorem ev_same {α:Type} {c:Prop} [Decidable c] {g:Nat→Option α} {r:α} (h:Ev g r):Ev (fun n=>if c then g n else g n) r:=by
 by_cases k:c
 ·exact ev_pos k h
 ·exact ev_neg k h
def what:ByteArray:=⟨#[119,104,97,116]⟩
def tailI (k:Nat) (t:Int) (l:List Int) (c:Int) (a b:ByteArray):Option ByteArray:=
 if a.toList=([110,111,114,109,97,108,108,121]:List UInt8)then((impl_ReadRule.f k t b).bind fun v=>(if v.2.2=true then((impl_accepts.f k t l v.1 v.2.1).bind fun x=>((impl_yesNo.f x).bind fun y=>(some y)))else(some (⟨#[119,104,97,116]⟩:ByteArray))))else((impl_HoldsIn.f k t b).bind fun h=>(if h.2=true then(if a.toList=([98,101,108,105,101,118,101]:List UInt8)then((impl_yesNo.f ((Go.bits .andNot .i64 c h.1)==0)).bind fun y=>(some y))else(if a.toList=([102,105,114,109]:List UInt8)then((impl_firmness.f k t l h.1).bind fun x=>((strconv_Itoa.f x).bind fun y=>(some y)))else(if a.toList=([103,105,118,101]:List UInt8)then((impl_givenUp.f k t l h.1).bind fun x=>((impl_sentenceOf.f k t x).bind fun y=>(some y)))else(if a.toList=([117,112,100,97,116,101]:List UInt8)then((impl_UpdatedBy.f k t c h.1).bind fun x=>((impl_sentenceOf.f k t x).bind fun y=>(some y)))else(if a.toList=([110,101,97,114]:List UInt8)then((impl_NearestOf.f k t c h.1).bind fun x=>((impl_sentenceOf.f k t x).bind fun y=>(some y)))else(some (⟨#[119,104,97,116]⟩:ByteArray)))))))else(some (⟨#[119,104,97,116]⟩:ByteArray))))
def tailS (k:Nat) (t:Int) (l:List Int) (ls:List (List Int)) (q:Int) (m:List Int) (ms:List (List Int)) (c:Int) (a b:ByteArray):Option (Int×List Int×(List (List Int))×ByteArray):=
 (spec_HoldsIn.f k t b).bind fun h=>((spec_ReadRule.f k t b).bind fun v=>(if a.toList=([98,101,108,105,101,118,101]:List UInt8)then(spec_MindLine.j3 k c a h.1 h.2 v.2.2 h.2 t l ls q m ms v.1 v.2.1)else(spec_MindLine.j3 k c a h.1 h.2 v.2.2 false t l ls q m ms v.1 v.2.1)))
section
variable {t:Int} {l:List Int} {ls:List (List Int)} {q:Int} {m:List Int} {ms:List (List Int)} {c x ra rb:Int} {a b s:ByteArray} {ok r9:Bool} {R:Int×List Int×(List (List Int))×ByteArray}
theorem j_norm (n:a.toList= [110,111,114,109,97,108,108,121]) (h:Ev (fun k=>spec_MindLine.j8 k r9 t l ls q m ms ra rb) R):Ev (fun k=>spec_MindLine.j3 k c a x ok r9 false t l ls q m ms ra rb) R:=
 Ev.step (fun _=>rfl) (ev_neg (by rw[n];decide) (Ev.step (fun _=>rfl) (ev_neg (by rw[n];decide) (Ev.step (fun _=>rfl) (ev_neg (by rw[n];decide) (Ev.step (fun _=>rfl) (ev_neg (by rw[n];decide) (Ev.step (fun _=>rfl) (ev_pos n h)))))))))
theorem j_no (n:a.toList≠ [110,111,114,109,97,108,108,121]):Ev (fun k=>spec_MindLine.j3 k c a x false r9 false t l ls q m ms ra rb) (q,m,ms,what):=
 Ev.step (fun _=>rfl) (ev_same (Ev.step (fun _=>rfl) (ev_same (Ev.step (fun _=>rfl) (ev_same (Ev.step (fun _=>rfl) (ev_same (Ev.step (fun _=>rfl) (ev_neg n (Ev.step (fun _=>rfl) (Ev.now _)))))))))))
theorem j_what (n:a.toList≠ [110,111,114,109,97,108,108,121]) (n1:a.toList≠ [102,105,114,109]) (n2:a.toList≠ [103,105,118,101]) (n3:a.toList≠ [117,112,100,97,116,101]) (n4:a.toList≠ [110,101,97,114]):Ev (fun k=>spec_MindLine.j3 k c a x ok r9 false t l ls q m ms ra rb) (q,m,ms,what):=
 Ev.step (fun _=>rfl) (ev_neg n1 (Ev.step (fun _=>rfl) (ev_neg n2 (Ev.step (fun _=>rfl) (ev_neg n3 (Ev.step (fun _=>rfl) (ev_neg n4 (Ev.step (fun _=>rfl) (ev_neg n (Ev.step (fun _=>rfl) (Ev.now _)))))))))))
theorem words_both (hr:rankOk t l=true) (a:ByteArray) {b:ByteArray} (hb:b.size≤1048576):∃r,Ev (fun k=>tailI k t l ((leastSet l (all t):Nat):Int) a b) r∧∀q m ms,Ev (fun k=>tailS k t l ls q m ms ((leastSet l (all t):Nat):Int) a b) (q,m,ms,r):=by
 obtain⟨v,ri,rs,rc⟩:=rule_both t (s:=b) (by omega)
 have hi:=impl_HoldsIn_ev t b
 have hs:=spec_HoldsIn_ev t b
 obtain⟨x,ok,hh⟩:∃x ok,holds t b=(x,ok):=⟨_,_,rfl⟩
 rw[hh]at hi hs
 unfold tailI tailS
 by_cases n:a.toList= [110,111,114,109,97,108,108,121]
 ·have nb:a.toList≠ [98,101,108,105,101,118,101]:=by rw[n];decide
  rcases rc with rfl|⟨A,B,rfl,g0,g1,g2⟩
  ·exact⟨_,ev_pos n (Ev.bind ri (ev_neg Bool.false_ne_true (Ev.now _))),fun q m ms=>Ev.bind hs (Ev.bind rs (ev_neg nb (j_norm n (Ev.step (fun _=>rfl) (Ev.now _)))))⟩
  ·obtain⟨y,y1,y2⟩:=yes_same (decide (leastSet l A&&& B=leastSet l A))
   exact⟨y,ev_pos n (Ev.bind ri (ev_pos rfl (Ev.bind (accepts_ev hr g1) (ev_bindc y1 (Ev.now _))))),fun q m ms=>Ev.bind hs (Ev.bind rs (ev_neg nb (j_norm n (Ev.step (fun _=>rfl) (Ev.bind (Accepts_ev hr g0 g1 g2) (ev_bindc y2 (Ev.now _)))))))⟩
 ·cases ok with
  |false=>exact⟨_,ev_neg n (Ev.bind hi (ev_neg Bool.false_ne_true (Ev.now _))),fun q m ms=>Ev.bind hs (Ev.bind rs (ev_same (j_no n)))⟩
  |true=>
   obtain⟨ht,h0,h1⟩:=holds_range hh
   obtain⟨s,rfl⟩:=Int.eq_ofNat_of_zero_le h0
   have hx:s≤all t:=by omega
   have hc:leastSet l (all t)≤all t:=leastSet_le ht (rankOk_iff.1 hr).2.1 _
   by_cases n0:a.toList= [98,101,108,105,101,118,101]
   ·obtain⟨y,y1,y2⟩:=yes_same (decide (leastSet l (all t)&&& s=leastSet l (all t)))
    exact⟨y,ev_neg n (Ev.bind hi (ev_pos rfl (ev_pos n0 (ev_bindc (by rw[less_beq (big (lt_256 hc))];exact y1) (Ev.now _))))),fun q m ms=>Ev.bind hs (Ev.bind rs (ev_pos n0 (Ev.step (fun _=>rfl) (Ev.bind (l1Both_ev (lt_256 hc)) (ev_bindc (by rw[and_beq];exact y2) (Ev.now _))))))⟩
   ·by_cases n1:a.toList= [102,105,114,109]
    ·obtain⟨z,ez,hz⟩:=least_bd hr (all t^^^s)
     have f1:=firmness_ev hr hx
     have f2:=FirmnessOf_ev hr hx
     rw[ez]at f1 f2
     exact⟨_,ev_neg n (Ev.bind hi (ev_pos rfl (ev_neg n0 (ev_pos n1 (Ev.bind f1 (ev_bindc (num_facts hz).1 (Ev.now _))))))),fun q m ms=>Ev.bind hs (Ev.bind rs (ev_neg n0 (Ev.step (fun _=>rfl) (ev_pos n1 (Ev.step (fun _=>rfl) (Ev.bind f2 (Ev.bind (l1Number_ev hz) (Ev.now _))))))))⟩
    ·by_cases n2:a.toList= [103,105,118,101]
     ·have hg:=given_le hr s
      exact⟨_,ev_neg n (Ev.bind hi (ev_pos rfl (ev_neg n0 (ev_neg n1 (ev_pos n2 (Ev.bind (givenUp_ev hr hx) (Ev.bind (sentenceOf_ev ht hg) (Ev.now _)))))))),fun q m ms=>Ev.bind hs (Ev.bind rs (ev_neg n0 (Ev.step (fun _=>rfl) (ev_neg n1 (Ev.step (fun _=>rfl) (ev_pos n2 (Ev.step (fun _=>rfl) (Ev.bind (GivenUp_ev hr hx) (Ev.bind (SentenceOf_ev ht hg) (Ev.now _))))))))))⟩
     ·by_cases n3:a.toList= [117,112,100,97,116,101]
      ·have hg:=updd_le ht (a:=leastSet l (all t)) hx
       exact⟨_,ev_neg n (Ev.bind hi (ev_pos rfl (ev_neg n0 (ev_neg n1 (ev_neg n2 (ev_pos n3 (Ev.bind (updatedBy_ev ht hc hx) (Ev.bind (sentenceOf_ev ht hg) (Ev.now _))))))))),fun q m ms=>Ev.bind hs (Ev.bind rs (ev_neg n0 (Ev.step (fun _=>rfl) (ev_neg n1 (Ev.step (fun _=>rfl) (ev_neg n2 (Ev.step (fun _=>rfl) (ev_pos n3 (Ev.step (fun _=>rfl) (Ev.bind (UpdatedBy_ev ht hc hx) (Ev.bind (SentenceOf_ev ht hg) (Ev.now _))))))))))))⟩
      ·by_cases n4:a.toList= [110,101,97,114]
       ·have hg:=near_le ht hc hx
        exact⟨_,ev_neg n (Ev.bind hi (ev_pos rfl (ev_neg n0 (ev_neg n1 (ev_neg n2 (ev_neg n3 (ev_pos n4 (Ev.bind (nearestOf_ev ht hc hx) (Ev.bind (sentenceOf_ev ht hg) (Ev.now _)))))))))),fun q m ms=>Ev.bind hs (Ev.bind rs (ev_neg n0 (Ev.step (fun _=>rfl) (ev_neg n1 (Ev.step (fun _=>rfl) (ev_neg n2 (Ev.step (fun _=>rfl) (ev_neg n3 (Ev.step (fun _=>rfl) (ev_pos n4 (Ev.step (fun _=>rfl) (Ev.bind (NearestOf_ev ht hc hx) (Ev.bind (SentenceOf_ev ht hg) (Ev.now _))))))))))))))⟩
       ·exact⟨what,ev_neg n (Ev.bind hi (ev_pos rfl (ev_neg n0 (ev_neg n1 (ev_neg n2 (ev_neg n3 (ev_neg n4 (Ev.now _)))))))),fun q m ms=>Ev.bind hs (Ev.bind rs (ev_neg n0 (j_what n n1 n2 n3 n4)))⟩
/-! ### where the first space is -/
theorem l1_to {p:Nat} (hp:p≤s.size) (hs:s.size≤1048576) (hn:∀j:Nat,j<p→bt s (j:Int)≠32) (he:p=s.size∨bt s (p:Int)=32) (h:Ev (fun k=>spec_MindLine.j2 k s c (p:Int) t l ls q m ms) R):Ev (fun k=>spec_MindLine.l1 k s c 0 t l ls q m ms) R:=by
 have key:∀i,i≤p→Ev (fun k=>spec_MindLine.l1 k s c (i:Int) t l ls q m ms) R:=by
  apply down
  ·by_cases e:p=s.size
   ·exact Ev.step (fun _=>rfl) (ev_neg (by omega) h)
   ·exact Ev.step (fun _=>rfl) (ev_pos (by omega) (ev_pos (by omega) (ev_pos (he.resolve_left e) h)))
  ·intro i hi ih
   refine Ev.step (fun _=>rfl) (ev_pos (by omega) (ev_pos (by omega) (ev_neg (hn i hi) ?_)))
   rw[w1 (n:=s.size) (by omega) (by omega)]
   exact ih
 exact key 0 (Nat.zero_le _)
theorem j2_end {p:Nat} (h:p=s.size):Ev (fun k=>spec_MindLine.j2 k s c ((p:Nat):Int) t l ls q m ms) (q,m,ms,what):=Ev.step (fun _=>rfl) (ev_pos (by omega) (Ev.now _))
theorem j2_at {p:Nat} (hp:p<s.size) (hs:s.size≤1048576) (ha:s.extract 0 p=a) (hb:s.extract (p+1) s.size=b) (h:Ev (fun k=>tailS k t l ls q m ms c a b) R):Ev (fun k=>spec_MindLine.j2 k s c (p:Int) t l ls q m ms) R:=by
 refine Ev.step (fun _=>rfl) (ev_neg (by omega) (ev_pos (by omega) (ev_pos (by omega) ?_)))
 rw[w1 (n:=s.size) (by omega) (by omega),Int.toNat_natCast,Int.toNat_natCast,ha,hb]
 exact ev_pos (by omega) (ev_pos (by omega) h)
theorem asked_both (hr:rankOk t l=true) (hls:ls.length≤10) (hs:s.size≤1048576):∃r,Ev (fun k=>impl_asked.f k t l ls s) r∧∀q m ms,Ev (fun k=>(spec_CoreOf.f k t l).bind fun c=>(if s.toList=([99,111,114,101]:List UInt8)then((spec_SentenceOf.f k t c).bind fun x=>(some (q,m,ms,x)))else(if s.toList=([114,97,110,107,115]:List UInt8)then(if 0<(l.length:Int)then((spec_l1Number.f k (rd l 0)).bind fun x=>(spec_MindLine.l0 k x 1 t l ls q m ms))else(none))else(if s.toList=([112,97,115,116]:List UInt8)then((spec_l1Number.f k (ls.length:Int)).bind fun x=>(some (q,m,ms,x)))else(spec_MindLine.l1 k s c 0 t l ls q m ms))))) (q,m,ms,r):=by
 obtain⟨ht,hl,hx,h0⟩:=rankOk_iff.1 hr
 have h8:=len8 hr
 have hc:leastSet l (all t)≤all t:=leastSet_le ht hl _
 have ci:=coreOf_eq hr
 have cs:=CoreOf_ev hr
 by_cases n1:s.toList= [99,111,114,101]
 ·exact⟨_,ev_bindc ci (ev_pos n1 (Ev.bind (sentenceOf_ev ht hc) (Ev.now _))),fun q m ms=>Ev.bind cs (ev_pos n1 (Ev.bind (SentenceOf_ev ht hc) (Ev.now _)))⟩
 ·by_cases n2:s.toList= [114,97,110,107,115]
  ·cases l with
   |nil=>cases h0
   |cons x r=>
    have hy:∀y∈x::r,y.toNat≤10:=fun y hy=>by have:=hx y hy;omega
    have hj:=join_ranks hy (by rw[List.length_cons]at h8;omega)
    have hx0:=hx x List.mem_cons_self
    refine⟨_,ev_bindc ci (ev_neg n1 (ev_pos n2 (asked_l0_ev h8 hx hj))),fun q m ms=>Ev.bind cs (ev_neg n1 (ev_pos n2 (ev_pos (by rw[List.length_cons];omega) (Ev.bind (l1Number_at (x:=rd (x::r) 0) hx0.1 (hy x List.mem_cons_self)) ?_))))⟩
    exact spec_l0_ev h8 hx 1 (by rw[List.length_cons];omega) (num x.toNat) (Nat.le_trans (num_size (hy x List.mem_cons_self)) (by decide))
  ·by_cases n3:s.toList= [112,97,115,116]
   ·exact⟨_,ev_bindc ci (ev_neg n1 (ev_neg n2 (ev_pos n3 (ev_bindc (num_facts hls).1 (Ev.now _))))),fun q m ms=>Ev.bind cs (ev_neg n1 (ev_neg n2 (ev_pos n3 (Ev.bind (l1Number_ev hls) (Ev.now _)))))⟩
   ·have none_at:∀{j:Nat} {d:List UInt8},j<d.length→d<+:s.toList→32∉d→bt s (j:Int)≠32:=by
     intro j d hj hp hn e
     have hjs:j<s.size:=by rw[←size_list];exact Nat.lt_of_lt_of_le hj hp.length_le
     rw[bt_get s hjs]at e
     have e2:s.toList[j]'(by rw[size_list];exact hjs)=32:=UInt8.toNat_inj.1 (by have:(32:UInt8).toNat=32:=rfl;omega)
     rw[←hp.getElem hj]at e2
     exact hn (e2▸List.getElem_mem hj)
    rcases cut_cases s 32 (by omega)with⟨hk,hn⟩|⟨a,b,hk,he,hn⟩
    ·refine⟨what,ev_bindc ci (ev_neg n1 (ev_neg n2 (ev_neg n3 (ev_bindc hk (ev_neg Bool.false_ne_true (Ev.now _)))))),fun q m ms=>Ev.bind cs (ev_neg n1 (ev_neg n2 (ev_neg n3 (l1_to (Nat.le_refl _) hs ?_ (Or.inl rfl) (j2_end rfl)))))⟩
     exact fun j hj=>none_at (d:=s.toList) (by rw[size_list];exact hj) (List.prefix_refl _) hn
    ·have hz:a.size+(b.size+1)=s.size:=by rw[←size_list s,he,List.length_append,List.length_cons,size_list,size_list]
     have hp:a.size<s.size:=by omega
     obtain⟨r,g1,g2⟩:=words_both (ls:=ls) hr a (b:=b) (by omega)
     refine⟨r,ev_bindc ci (ev_neg n1 (ev_neg n2 (ev_neg n3 (ev_bindc hk (ev_pos rfl g1))))),fun q m ms=>Ev.bind cs (ev_neg n1 (ev_neg n2 (ev_neg n3 (l1_to (p:=a.size) (by omega) hs ?_ (Or.inr ?_) (j2_at hp hs ?_ ?_ (g2 q m ms))))))⟩
     ·exact fun j hj=>none_at (d:=a.toList) (by rw[size_list];exact hj) ⟨_,he.symm⟩ hn
     ·rw[bt_get s hp]
      have:s.toList[a.size]?=some 32:=by rw[he,List.getElem?_append_right (by rw[size_list];omega),size_list,Nat.sub_self];rfl
      rw[List.getElem?_eq_getElem (by rw[size_list];exact hp)]at this
      rw[Option.some.inj this]
      rfl
     ·apply ext_list
      rw[list_extract,he,List.drop_zero,Nat.sub_zero,←size_list a,List.take_left']
      rfl
     ·apply ext_list
      rw[list_from,he,←size_list a,←List.drop_drop,List.drop_left']
      ·rfl
      ·rfl
end
set_option maxHeartbeats 1000000 in
theorem spec_MindDo_ev {t:Int} {l:List Int} {ls:List (List Int)} (hn:l.length≤9223372036854775807) (hs:ls.length≤9223372036854775807) (hl:∀y∈ls,y.length≤9223372036854775807) (a:Int) (s:ByteArray):
  Ev (fun k=>spec_MindDo.f k t l ls a s) (if mindOk t l ls=true then mdo t l ls a s else(0,[],[],false)):=by
 unfold spec_MindDo.f
 refine Ev.bind (spec_MindValid_ev t hn hs hl) ?_
 by_cases hm:mindOk t l ls=true
 ·rw[if_pos hm]
  refine ev_pos hm ?_
  obtain⟨htl,h9,hls⟩:=mindOk_iff.1 hm
  obtain⟨hr,htd⟩:=tidyOk_iff.1 htl
  obtain⟨ht,hll,hx,_⟩:=rankOk_iff.1 hr
  have h8:=(wn_le t).1
  have hlen:∀y∈ls,y.length≤100:=fun y hy=>by
   have:=(rankOk_iff.1 (tidyOk_iff.1 (hls y hy)).1).2.1
   omega
  refine Ev.bind (l10Copy_ev t (by omega) (by omega) hlen) ?_
  unfold mdo
  have no1:∀v:Int,Ev (fun k=>spec_MindDo.j1 k v true t l ls a s t l ls) (nope t l ls):=fun v=>Ev.step (f:=fun _=>some (t,l,ls,false)) (fun k=>rfl) (Ev.now _)
  have go:Ev (fun k=>spec_MindDo.j0 k false t l ls a s t l ls) (if a=0∨a=1 then(if(holds t s).2=true then(if(holds t s).1=0 then nope t l ls else(if chg l a (holds t s).1.toNat=l then nope t l ls else(t,chg l a (holds t s).1.toNat,push l ls,true)))else nope t l ls)else nope t l ls):=by
   refine Ev.step (f:=fun k=>(spec_HoldsIn.f k t s).bind fun bt325=>(if bt325.2=true then((spec_l1In.f a 0 1).bind fun t327=>(spec_MindDo.j1 k bt325.1 (!t327) t l ls a s t l ls))else(spec_MindDo.j1 k bt325.1 true t l ls a s t l ls))) (fun k=>rfl) (Ev.bind (spec_HoldsIn_ev t s) ?_)
   by_cases h2:(holds t s).2=true
   ·refine ev_pos h2 (ev_bindc (l1In_eq _ _ _) ?_)
    by_cases ha:a=0∨a=1
    ·rw[if_pos ha,if_pos h2,decide_eq_true (by omega)]
     have eh:holds t s=((holds t s).1,true):=by rw[←h2]
     obtain⟨_,v0,v1⟩:=holds_range eh
     have hch:=ChangedBy_ev hr v0 v1 ha
     obtain⟨v,ev⟩:=Int.eq_ofNat_of_zero_le v0
     rw[ev]at hch⊢
     rw[Int.toNat_natCast]at hch⊢
     have no2:∀q:List Int,Ev (fun k=>spec_MindDo.j2 k q true t l ls) (nope t l ls):=fun q=>Ev.step (f:=fun _=>some (t,l,ls,false)) (fun k=>rfl) (Ev.now _)
     refine Ev.step (f:=fun k=>(spec_ChangedBy.f k t l a (v:Int)).bind fun bt328=>(if bt328.2=true then((spec_SameOrder.f k t bt328.1 l).bind fun t332=>(spec_MindDo.j2 k bt328.1 t332 t l ls))else(spec_MindDo.j2 k bt328.1 true t l ls))) (fun k=>rfl) (Ev.bind hch ?_)
     by_cases e0:(v:Int)=0
     ·rw[if_pos e0,if_pos e0]
      exact ev_ff (no2 _)
     ·rw[if_neg e0,if_neg e0]
      have hq:=chg_tidy hr a v
      obtain⟨hq1,hq2⟩:=tidyOk_iff.1 hq
      have hso:=SameOrder_ev hq1 hr
      rw[hq2,htd]at hso
      refine ev_tt (Ev.bind hso ?_)
      by_cases e:chg l a v=l
      ·rw[if_pos e,decide_eq_true e]
       exact no2 _
      ·rw[if_neg e,decide_eq_false e]
       refine Ev.step (f:=fun k=>if ls.length<5864062014805 then((some (ls++ [l]:List (List Int))).bind fun y333=>(if(y333.length:Int)>10 then(some (t,chg l a v,y333.drop (1:Int).toNat,true))else(some (t,chg l a v,y333,true))))else(none)) (fun k=>rfl) (ev_pos (by omega) (ev_bindc rfl ?_))
       have hln:(ls++ [l]).length=ls.length+1:=by rw[List.length_append,List.length_singleton]
       unfold push
       by_cases h10:ls.length+1>10
       ·rw[if_pos h10]
        exact ev_pos (by rw[hln];omega) (Ev.now _)
       ·rw[if_neg h10]
        exact ev_neg (by rw[hln];omega) (Ev.now _)
    ·rw[if_neg ha,decide_eq_false (by omega)]
     exact no1 _
   ·refine ev_neg h2 ?_
    by_cases ha:a=0∨a=1
    ·rw[if_pos ha,if_neg h2]
     exact no1 _
    ·rw[if_neg ha]
     exact no1 _
  by_cases hb:a=2∧s.size=0
  ·rw[if_pos hb]
   refine ev_pos ((isNil a s).2 hb) ?_
   by_cases he:ls= []
   ·rw[if_pos he]
    rw[if_neg (by omega)]at go
    rw[show decide (((ls.length:Nat):Int)>0)=false from by rw[he];rfl]
    exact go
   ·rw[if_neg he]
    have hp:0<ls.length:=List.length_pos_iff.2 he
    obtain⟨r1,r2,r3⟩:=(rd_last he).resolve_right (fun k=>k (by omega))
    rw[decide_eq_true (by omega)]
    refine Ev.step (f:=fun k=>if 0≤(wrap64 ((ls.length:Int) - 1))then(if(wrap64 ((ls.length:Int) - 1))<(ls.length:Int)then(some (t,rd_L1 ls (wrap64 ((ls.length:Int) - 1)),ls.take (wrap64 ((ls.length:Int) - 1)).toNat,true))else(none))else(none)) (fun k=>rfl) (ev_pos (by rw[r2];omega) (ev_pos (by rw[r2];omega) ?_))
    rw[r1,r3]
    exact Ev.now _
  ·rw[if_neg hb]
   exact ev_neg (fun k=>hb ((isNil a s).1 k)) go
 ·rw[if_neg hm]
  exact ev_neg hm (Ev.now _)
theorem rd26_at {l:List S58} {i:Nat} (h:i<l.length):rd_T58 l (i:Int)=l[i]:=by
 unfold rd_T58
 rw[Int.toNat_natCast,List.getD_eq_getElem?_getD,List.getElem?_eq_getElem h]
 rfl
/-! ### the reference's search -/
def firstOf (s:ByteArray):List S58→Int×ByteArray×Bool
 | []=>(0,(⟨#[]⟩:ByteArray),false)
 |x::t=>if s.toList≠ []∧(deedT x.f0 x.f1).toList=s.toList then(x.f0,x.f1,true)else firstOf s t
theorem first_ev (s:ByteArray) {L:List S58} (hL:L.length≤1000) (hs:∀x∈L,x.f1.size≤9223372036854774000):
  ∀i,i≤L.length→Ev (fun k=>spec_ReadDeed.l0 k s L (i:Int)) (firstOf s (L.drop i)):=by
 apply down
 ·rw[List.drop_length]
  exact Ev.step (fun k=>rfl) (ev_neg (by omega) (Ev.now _))
 ·intro i hi ih
  rw[List.drop_eq_getElem_cons hi]
  refine Ev.step (fun k=>rfl) (ev_pos (by omega) ?_)
  by_cases h0:s.toList= []
  ·refine ev_pos h0 ?_
   rw[w1 hi (by omega)]
   unfold firstOf
   rw[if_neg (fun k=>k.1 h0)]
   exact ih
  ·refine ev_neg h0 (ev_pos (by omega) ?_)
   rw[rd26_at hi]
   refine Ev.bind (spec_DeedText_ev _ (s:=L[i].f1) (by have:=hs _ (List.getElem_mem hi);omega)) ?_
   unfold firstOf
   by_cases hd:(deedT L[i].f0 L[i].f1).toList=s.toList
   ·rw[if_pos ⟨h0,hd⟩]
    exact ev_pos hd (Ev.now _)
   ·rw[if_neg (fun k=>hd k.2),w1 hi (by omega)]
    exact ev_neg hd ih
def cands (s:ByteArray):List S58:=(⟨2,(⟨#[]⟩:ByteArray)⟩:S58)::((if 6<s.size then[(⟨0,s.extract 6 s.size⟩:S58)]else[])++(if 4<s.size then[(⟨1,s.extract 4 s.size⟩:S58)]else[]))
theorem first_rdeed (s:ByteArray):firstOf s (cands s)=rdeed s:=by
 have f0:∀L:List S58,(∀x∈L,s.toList= []∨(deedT x.f0 x.f1).toList≠s.toList)→firstOf s L=(0,(⟨#[]⟩:ByteArray),false):=by
  intro L h
  induction L with
  |nil=>rfl
  |cons x t ih=>
   unfold firstOf
   rw[if_neg (fun k=>by rcases h x List.mem_cons_self with h|h;exact k.1 h;exact h k.2)]
   exact ih (fun y hy=>h y (List.mem_cons_of_mem _ hy))
 have fb:s.toList≠ [98,97,99,107]→firstOf s (cands s)=firstOf s ((if 6<s.size then[(⟨0,s.extract 6 s.size⟩:S58)]else[])++(if 4<s.size then[(⟨1,s.extract 4 s.size⟩:S58)]else[])):=by
  intro h
  show(if _ then _ else _)=_
  rw[if_neg (fun k=>h (by rw[←k.2];exact deedT2 _ rfl))]
 rcases rdeed_cases s with⟨h,e⟩|⟨t,h,hp,h0,e⟩|⟨t,h,hp,h0,e⟩|⟨h1,h2,h3,e⟩
 ·rw[e]
  show(if _ then _ else _)=_
  rw[if_pos ⟨by rw[h];decide,by rw[h];exact deedT2 _ rfl⟩]
 ·have hl:s.size=6+t.size:=by rw[←size_list,h,List.length_append,size_list];rfl
  have ex:s.extract 6 s.size=t:=ext_list (by rw[list_from,h];rfl)
  rw[e,fb (by rw[h];intro k;injection k with k _;exact absurd k (by decide)),if_pos (by omega),ex]
  show(if _ then _ else _)=_
  rw[if_pos ⟨by rw[h];simp,(deedT0 s t).2 (Or.inl ⟨h,hp,h0⟩)⟩]
 ·have hl:s.size=4+t.size:=by rw[←size_list,h,List.length_append,size_list];rfl
  have ex:s.extract 4 s.size=t:=ext_list (by rw[list_from,h];rfl)
  have n6:firstOf s ((if 6<s.size then[(⟨0,s.extract 6 s.size⟩:S58)]else[])++ [(⟨1,t⟩:S58)])=firstOf s [(⟨1,t⟩:S58)]:=by
   by_cases c:6<s.size
   ·rw[if_pos c]
    show(if _ then _ else _)=_
    rw[if_neg (fun k=>by
     rcases(deedT0 s _).1 k.2 with⟨k,_⟩|⟨_,k⟩
     ·rw[h]at k;injection k with k _;exact absurd k (by decide)
     ·rw[h]at k;simp at k)]
    rfl
   ·rw[if_neg c];rfl
  rw[e,fb (by rw[h];intro k;injection k with k _;exact absurd k (by decide)),if_pos (c:=4<s.size) (by omega),ex,n6]
  show(if _ then _ else _)=_
  rw[if_pos ⟨by rw[h];simp,(deedT1 s t).2 (Or.inl ⟨h,hp,h0⟩)⟩]
 ·rw[e,fb h1]
  apply f0
  intro x hx
  by_cases hs0:s.toList= []
  ·exact Or.inl hs0
  refine Or.inr fun k=>?_
  rcases List.mem_append.1 hx with hx|hx
  ·by_cases c:6<s.size
   ·rw[if_pos c]at hx
    rw[List.mem_singleton.1 hx]at k
    rcases(deedT0 s _).1 k with⟨k,k2⟩|⟨_,k⟩
    ·exact h2 _ k k2
    ·exact hs0 k
   ·rw[if_neg c]at hx;simp at hx
  ·by_cases c:4<s.size
   ·rw[if_pos c]at hx
    rw[List.mem_singleton.1 hx]at k
    rcases(deedT1 s _).1 k with⟨k,k2⟩|⟨_,k⟩
    ·exact h3 _ k k2
    ·exact hs0 k
   ·rw[if_neg c]at hx;simp at hx
theorem spec_ReadDeed_ev {s:ByteArray} (hs:s.size≤9223372036854774000):Ev (fun k=>spec_ReadDeed.f k s) (rdeed s):=by
 have hx:∀i:Nat,(s.extract i s.size).size≤9223372036854774000:=fun i=>by rw[←size_list,list_from,List.length_drop,size_list];omega
 rw[←first_rdeed]
 have fin:∀L:List S58,L.length≤1000→(∀x∈L,x.f1.size≤9223372036854774000)→Ev (fun k=>spec_ReadDeed.j1 k s L) (firstOf s L):=by
  intro L h1 h2
  refine Ev.step (fun k=>rfl) ?_
  simp only[spec_ReadDeed.j1]
  exact first_ev s h1 h2 0 (Nat.zero_le _)
 unfold spec_ReadDeed.f
 refine ev_bindc rfl ?_
 have go:∀L:List S58,L.length≤900→(∀x∈L,x.f1.size≤9223372036854774000)→Ev (fun k=>spec_ReadDeed.j0 k s L) (firstOf s (L++(if 4<s.size then[(⟨1,s.extract 4 s.size⟩:S58)]else[]))):=by
  intro L h1 h2
  refine Ev.step (fun k=>rfl) ?_
  simp only[spec_ReadDeed.j0]
  by_cases c:4<s.size
  ·rw[if_pos c]
   refine ev_pos (by omega) (ev_pos (by omega) (ev_pos (by omega) (fin _ (by rw[List.length_append];exact Nat.add_le_add h1 (by decide:1≤100)) ?_)))
   intro x hm
   rcases List.mem_append.1 hm with hm|hm
   ·exact h2 x hm
   ·rw[List.mem_singleton.1 hm];exact hx 4
  ·rw[if_neg c,List.append_nil]
   exact ev_neg (by omega) (fin _ (by omega) h2)
 by_cases c:6<s.size
 ·refine ev_pos (by omega) (ev_pos (by omega) (ev_pos (by decide) ?_))
  have:=go ([(⟨2,(⟨#[]⟩:ByteArray)⟩:S58)]++ [(⟨0,s.extract 6 s.size⟩:S58)]) (by simp) (by
   intro x hm
   rcases List.mem_append.1 hm with hm|hm
   ·rw[List.mem_singleton.1 hm];exact(by decide:(0:Nat)≤9223372036854774000)
   ·rw[List.mem_singleton.1 hm];exact hx 6)
  unfold cands
  rw[if_pos c]
  exact this
 ·refine ev_neg (by omega) ?_
  have:=go [(⟨2,(⟨#[]⟩:ByteArray)⟩:S58)] (by decide) (by
   intro x hm
   rw[List.mem_singleton.1 hm];exact(by decide:(0:Nat)≤9223372036854774000))
  unfold cands
  rw[if_neg c,List.nil_append]
  exact this
theorem tidy_len {t:Int} {l:List Int} (h:tidyOk t l=true):l.length≤8:=len8 (tidyOk_iff.1 h).1
theorem MindLine_both {t:Int} {l:List Int} {ls:List (List Int)} (hn:l.length≤9223372036854775807) (hs:ls.length≤9223372036854775807) (hl:∀y∈ls,y.length≤9223372036854775807) {s:ByteArray} (hz:s.size≤1048576):
  ∃q m ms r,Ev (fun k=>impl_MindLine.f k t l ls s) (q,m,ms,r)∧Ev (fun k=>spec_MindLine.f k t l ls s) (q,m,ms,r)∧m.length≤1048576∧ms.length≤1048576∧∀y∈ms,y.length≤1048576:=by
 have im:=isMind_ev t hn hl
 have sm:=spec_MindValid_ev t hn hs hl
 by_cases h:mindOk t l ls=true
 ·rw[h]at im sm
  obtain⟨o1,o2,o3⟩:=mindOk_iff.1 h
  have l1:=tidy_len o1
  have l3:∀y∈ls,y.length≤8:=fun y hy=>tidy_len (o3 y hy)
  have sc:=l10Copy_ev t (l:=l) (ls:=ls) (by omega) (by omega) (fun y hy=>by have:=l3 y hy;omega)
  have ic:=copyMind_ev t (l:=l) (ls:=ls) (by omega) (by omega) (fun y hy=>by have:=l3 y hy;omega)
  have ir:=impl_readDeed_ev (s:=s) (by omega)
  have sr:=spec_ReadDeed_ev (s:=s) (by omega)
  obtain⟨a,d,b,e⟩:∃a d b,rdeed s=(a,d,b):=⟨_,_,_,rfl⟩
  rw[e]at ir sr
  cases b with
  |true=>
   have id:=impl_mindDo_ev h a d
   have sd:=spec_MindDo_ev (t:=t) (l:=l) (ls:=ls) hn hs hl a d
   rw[if_pos h]at sd
   have ok:=mdo_ok h a d
   generalize mdo t l ls a d=g at id sd ok
   obtain⟨q,m,ms,b⟩:=g
   obtain⟨p1,p2,p3⟩:=mindOk_iff.1 ok
   have q1:=tidy_len p1
   have q3:∀y∈ms,y.length≤8:=fun y hy=>tidy_len (p3 y hy)
   dsimp only at p2 q1
   cases b with
   |true=>exact⟨q,m,ms,_,Ev.bind im (ev_tt (Ev.bind (Ev.bind ir (ev_pos rfl (Ev.bind id (ev_pos rfl (Ev.now _))))) (Ev.now _))),Ev.bind sm (ev_tt (Ev.bind sc (Ev.bind sr (ev_pos rfl (Ev.bind sd (ev_pos rfl (Ev.now _))))))),by omega,by omega,fun y hy=>by have:=q3 y hy;omega⟩
   |false=>exact⟨q,m,ms,_,Ev.bind im (ev_tt (Ev.bind (Ev.bind ir (ev_pos rfl (Ev.bind id (ev_neg Bool.false_ne_true (Ev.now _))))) (Ev.now _))),Ev.bind sm (ev_tt (Ev.bind sc (Ev.bind sr (ev_pos rfl (Ev.bind sd (ev_neg Bool.false_ne_true (Ev.now _))))))),by omega,by omega,fun y hy=>by have:=q3 y hy;omega⟩
  |false=>
   obtain⟨r,g1,g2⟩:=asked_both (tidyOk_iff.1 o1).1 (ls:=ls) o2 hz
   exact⟨t,l,ls,r,Ev.bind im (ev_tt (Ev.bind (Ev.bind ir (ev_neg Bool.false_ne_true (Ev.bind ic (Ev.bind g1 (Ev.now _))))) (Ev.now _))),Ev.bind sm (ev_tt (Ev.bind sc (Ev.bind sr (ev_neg Bool.false_ne_true (g2 t l ls))))),by omega,by omega,fun y hy=>by have:=l3 y hy;omega⟩
 ·rw[Bool.not_eq_true]at h
  rw[h]at im sm
  exact⟨0,[],[],_,Ev.bind im (ev_neg Bool.false_ne_true (Ev.now _)),Ev.bind sm (ev_neg Bool.false_ne_true (Ev.now _)),by simp,by simp,by simp⟩
theorem toIntS_ev {l:List Int} (hn:l.length≤35184372088832):Ev (fun k=>laws_toIntS.f k l) l:=by
 unfold laws_toIntS.f
 refine ev_pos (by omega) (ev_pos (by simpa using hn) ?_)
 have key:∀i,i≤l.length→Ev (fun k=>laws_toIntS.l0 k l (l.take i++List.replicate (l.length - i) 0) (i:Int)) l:=by
  apply down
  ·refine Ev.step (fun k=>rfl) (ev_neg (by omega) (ev_eq (Ev.now _) ?_))
   rw[Nat.sub_self,List.replicate_zero,List.append_nil,List.take_length]
  ·intro i hi ih
   refine Ev.step (fun k=>rfl) (ev_pos (by omega) (ev_pos (by omega) (ev_pos ?_ ?_)))
   ·rw[List.length_append,List.length_take,List.length_replicate];omega
   ·rw[w1 hi (by omega),Int.toNat_natCast,rd_at hi]
    have e:(l.take i++List.replicate (l.length - i) 0).set i l[i]=l.take (i+1)++List.replicate (l.length - (i+1)) 0:=by
     rw[List.set_append_right _ _ (by rw[List.length_take];omega),List.length_take,show i - min i l.length=0 from by omega,show l.length - i=(l.length - (i+1))+1 from by omega,List.replicate_succ,List.set_cons_zero,List.take_succ_eq_append_getElem hi,List.append_assoc]
     rfl
    rw[e]
    exact ih
 have:=key 0 (Nat.zero_le _)
 simpa using this
theorem eqIntS_ev {l m:List Int} (hn:l.length≤9223372036854775807):Ev (fun k=>laws_eqIntS.f k l m) (decide (l=m)):=by
 unfold laws_eqIntS.f
 by_cases hl:l.length=m.length
 ·refine ev_pos (by omega) ?_
  have key:∀i,i≤l.length→Ev (fun k=>laws_eqIntS.l0 k l m (i:Int)) (decide (l.drop i=m.drop i)):=by
   apply down
   ·refine Ev.step (fun k=>rfl) (ev_neg (by omega) (ev_eq (Ev.now _) ?_))
    rw[List.drop_length,hl,List.drop_length,decide_eq_true rfl]
   ·intro i hi ih
    have hm:i<m.length:=by omega
    refine Ev.step (fun k=>rfl) (ev_pos (by omega) (ev_pos (by omega) (ev_pos (by omega) ?_)))
    rw[rd_at hi,rd_at hm,w1 hi hn,List.drop_eq_getElem_cons hi,List.drop_eq_getElem_cons hm]
    by_cases e:l[i]=m[i]
    ·refine ev_pos e (ev_eq ih ?_)
     exact decide_eq_decide.2 ⟨fun k=>by rw[e,k],fun k=>(List.cons.inj k).2⟩
    ·refine ev_neg e (ev_eq (Ev.now _) ?_)
     exact(decide_eq_false (fun k=>e (List.cons.inj k).1)).symm
  have:=key 0 (Nat.zero_le _)
  simpa using this
 ·refine ev_neg (by omega) (ev_eq (Ev.now _) ?_)
  exact(decide_eq_false (fun k=>hl (by rw[k]))).symm
theorem eqIntS_same {l:List Int} (hn:l.length≤9223372036854775807):Ev (fun k=>laws_eqIntS.f k l l) true:=ev_eq (eqIntS_ev hn) (decide_eq_true rfl)
/-! ### the laws' own helpers -/
theorem szIntS_c {l:List Int} {a:Int} (hn:l.length≤9223372036854775807) (h0:0≤a) (h1:a≤1048576):∃r,laws_szIntS.f l a=some r∧(r<0∨(0≤r∧r≤a∧(l.length:Int)≤a)):=by
 unfold laws_szIntS.f
 rw[w64 (n:=a - (l.length:Int)) (by omega) (by omega)]
 by_cases h:a - (l.length:Int)<0
 ·exact⟨-1,if_pos h,Or.inl (by omega)⟩
 ·exact⟨_,if_neg h,Or.inr (by omega)⟩
theorem szIntSS_c {ls:List (List Int)} {a:Int} (hs:ls.length≤9223372036854775807) (hl:∀y∈ls,y.length≤9223372036854775807) (h0:0≤a) (h1:a≤1048576):∃r,Ev (fun k=>laws_szIntSS.f k ls a) r∧(r<0∨(0≤r∧r≤a∧(ls.length:Int)≤a∧∀y∈ls,(y.length:Int)≤a)):=by
 unfold laws_szIntSS.f
 rw[w64 (n:=a - (ls.length:Int)) (by omega) (by omega)]
 by_cases h:a - (ls.length:Int)<0
 ·exact⟨-1,ev_pos h (Ev.now _),Or.inl (by omega)⟩
 ·have key:∀i,i≤ls.length→∀b:Int,0≤b→b≤a→∃r,Ev (fun k=>laws_szIntSS.l0 k ls b (i:Int)) r∧(r<0∨(0≤r∧r≤a∧∀y∈ls.drop i,(y.length:Int)≤a)):=by
   apply down
   ·intro b hb hb1
    exact⟨b,Ev.step (fun k=>rfl) (ev_neg (by omega) (Ev.now _)),Or.inr ⟨hb,hb1,fun y hy=>by rw[List.drop_length]at hy;simp at hy⟩⟩
   ·intro i hi ih b hb hb1
    obtain⟨c,e,hc⟩:=szIntS_c (a:=b) (hl _ (List.getElem_mem hi)) hb (by omega)
    by_cases hc0:c<0
    ·refine⟨-1,Ev.step (fun k=>rfl) (ev_pos (by omega) (ev_pos (by omega) ?_)),Or.inl (by omega)⟩
     rw[rdLL_at hi]
     exact ev_bindc e (ev_pos hc0 (Ev.now _))
    ·obtain⟨r,h2,h3⟩:=ih c (by omega) (by omega)
     refine⟨r,Ev.step (fun k=>rfl) (ev_pos (by omega) (ev_pos (by omega) ?_)),?_⟩
     ·rw[rdLL_at hi]
      refine ev_bindc e (ev_neg hc0 ?_)
      rw[w1 hi hs]
      exact h2
     ·rcases h3 with h3|⟨h3,h4,h5⟩
      ·exact Or.inl h3
      ·refine Or.inr ⟨h3,h4,fun y hy=>?_⟩
       rw[List.drop_eq_getElem_cons hi]at hy
       rcases List.mem_cons.1 hy with rfl|hy
       ·omega
       ·exact h5 y hy
  obtain⟨r,h2,h3⟩:=key 0 (Nat.zero_le _) (a - (ls.length:Int)) (by omega) (by omega)
  refine⟨r,ev_neg h h2,?_⟩
  rcases h3 with h3|⟨h3,h4,h5⟩
  ·exact Or.inl h3
  ·exact Or.inr ⟨h3,h4,by omega,by rw[List.drop_zero]at h5;exact h5⟩
theorem szMind_c (t:Int) {l:List Int} {ls:List (List Int)} (hn:l.length≤9223372036854775807) (hs:ls.length≤9223372036854775807) (hl:∀y∈ls,y.length≤9223372036854775807):∃r,Ev (fun k=>laws_szMind.f k t l ls 1048576) r∧(r<0∨(l.length≤1048576∧ls.length≤1048576∧∀y∈ls,y.length≤1048576)):=by
 unfold laws_szMind.f
 obtain⟨r,e,h⟩:=szIntS_c (l:=l) (a:=1048576) hn (by omega) (by omega)
 by_cases hr:r<0
 ·exact⟨-1,ev_bindc e (ev_pos hr (Ev.now _)),Or.inl (by omega)⟩
 ·obtain⟨q,e2,h2⟩:=szIntSS_c (ls:=ls) (a:=r) hs hl (by omega) (by omega)
  by_cases hq:q<0
  ·exact⟨-1,ev_bindc e (ev_neg hr (Ev.bind e2 (ev_pos hq (Ev.now _)))),Or.inl (by omega)⟩
  ·refine⟨q,ev_bindc e (ev_neg hr (Ev.bind e2 (ev_neg hq (Ev.now _)))),Or.inr ?_⟩
   rcases h2 with h2|⟨h3,h4,h5,h6⟩
   ·exact absurd h2 hq
   ·exact⟨by omega,by omega,fun y hy=>by have:=h6 y hy;omega⟩
theorem toIntSS_ev {l:List (List Int)} (hn:l.length≤11728124029610) (hl:∀y∈l,y.length≤35184372088832):Ev (fun k=>laws_toIntSS.f k l) l:=by
 unfold laws_toIntSS.f
 refine ev_pos (by omega) (ev_pos (by simpa using hn) ?_)
 have key:∀i,i≤l.length→Ev (fun k=>laws_toIntSS.l0 k l (l.take i++List.replicate (l.length - i) []) (i:Int)) l:=by
  apply down
  ·refine Ev.step (fun k=>rfl) (ev_neg (by omega) (ev_eq (Ev.now _) ?_))
   rw[Nat.sub_self,List.replicate_zero,List.append_nil,List.take_length]
  ·intro i hi ih
   refine Ev.step (fun k=>rfl) (ev_pos (by omega) (ev_pos (by omega) ?_))
   rw[rdLL_at hi]
   refine Ev.bind (toIntS_ev (hl _ (List.getElem_mem hi))) (ev_pos ?_ ?_)
   ·rw[List.length_append,List.length_take,List.length_replicate];omega
   ·rw[w1 hi (by omega),Int.toNat_natCast]
    have e:(l.take i++List.replicate (l.length - i) []).set i l[i]=l.take (i+1)++List.replicate (l.length - (i+1)) []:=by
     rw[List.set_append_right _ _ (by rw[List.length_take];omega),List.length_take,show i - min i l.length=0 from by omega,show l.length - i=(l.length - (i+1))+1 from by omega,List.replicate_succ,List.set_cons_zero,List.take_succ_eq_append_getElem hi,List.append_assoc]
     rfl
    rw[e]
    exact ih
 have:=key 0 (Nat.zero_le _)
 simpa using this
theorem toMind_ev (t:Int) {l:List Int} {ls:List (List Int)} (h1:l.length≤35184372088832) (h2:ls.length≤11728124029610) (h3:∀y∈ls,y.length≤35184372088832):Ev (fun k=>laws_toMind.f k t l ls) (t,l,ls):=by
 unfold laws_toMind.f
 exact Ev.bind (toIntS_ev h1) (Ev.bind (toIntSS_ev h2 h3) (Ev.now _))
theorem eqIntSS_ev {l m:List (List Int)} (hn:l.length≤9223372036854775807) (hl:∀y∈l,y.length≤9223372036854775807):Ev (fun k=>laws_eqIntSS.f k l m) (decide (l=m)):=by
 unfold laws_eqIntSS.f
 by_cases hlm:l.length=m.length
 ·refine ev_pos (by omega) ?_
  have key:∀i,i≤l.length→Ev (fun k=>laws_eqIntSS.l0 k l m (i:Int)) (decide (l.drop i=m.drop i)):=by
   apply down
   ·refine Ev.step (fun k=>rfl) (ev_neg (by omega) (ev_eq (Ev.now _) ?_))
    rw[List.drop_length,hlm,List.drop_length,decide_eq_true rfl]
   ·intro i hi ih
    have hm:i<m.length:=by omega
    refine Ev.step (fun k=>rfl) (ev_pos (by omega) (ev_pos (by omega) (ev_pos (by omega) ?_)))
    rw[rdLL_at hi,rdLL_at hm,w1 hi hn,List.drop_eq_getElem_cons hi,List.drop_eq_getElem_cons hm]
    refine Ev.bind (eqIntS_ev (m:=m[i]) (hl _ (List.getElem_mem hi))) ?_
    by_cases e:l[i]=m[i]
    ·rw[decide_eq_true e]
     refine ev_tt (ev_eq ih ?_)
     exact decide_eq_decide.2 ⟨fun k=>by rw[e,k],fun k=>(List.cons.inj k).2⟩
    ·rw[decide_eq_false e]
     refine ev_ff (ev_eq (Ev.now _) ?_)
     exact(decide_eq_false (fun k=>e (List.cons.inj k).1)).symm
  have:=key 0 (Nat.zero_le _)
  simpa using this
 ·refine ev_neg (by omega) (ev_eq (Ev.now _) ?_)
  exact(decide_eq_false (fun k=>hlm (by rw[k]))).symm
theorem eqMind_same (t:Int) {l:List Int} {ls:List (List Int)} (hn:l.length≤9223372036854775807) (hs:ls.length≤9223372036854775807) (hl:∀y∈ls,y.length≤9223372036854775807):Ev (fun k=>laws_eqMind.f k t l ls t l ls) true:=by
 unfold laws_eqMind.f
 refine ev_pos rfl (Ev.bind (eqIntS_same hn) (ev_tt (Ev.bind (eqIntSS_ev (m:=ls) hs hl) ?_)))
 rw[decide_eq_true rfl]
 exact ev_tt (Ev.now _)
def marksF (a:Int) (n:Nat):List Int:=(List.range n).map fun(j:Nat)=>a+(j:Int)
theorem marksF_length (a:Int) (n:Nat):(marksF a n).length=n:=by simp[marksF]
theorem marksF_succ (a:Int) (n:Nat):marksF a (n+1)=marksF a n++ [a+(n:Int)]:=by
 unfold marksF
 rw[List.range_succ,List.map_append]
 rfl
theorem rd_marksF {a:Int} {n i:Nat} (h:i<n):rd (marksF a n) (i:Int)=a+(i:Int):=by
 rw[rd_at (by rw[marksF_length];exact h)]
 simp[marksF]
theorem markIntS_at {l:List Int} {a:Int} (h0:0≤a) (hn:a+(l.length:Int)≤4611686018427387904):Ev (fun k=>laws_markIntS.f k l a) (a+(l.length:Int),marksF a l.length):=by
 unfold laws_markIntS.f
 have key:∀i,i≤l.length→Ev (fun k=>laws_markIntS.l0 k (marksF a i++l.drop i) (a+(i:Int)) (i:Int)) (a+(l.length:Int),marksF a l.length):=by
  apply down
  ·refine Ev.step (fun k=>rfl) (ev_neg (by rw[List.length_append,marksF_length,List.length_drop];omega) (ev_eq (Ev.now _) ?_))
   rw[List.drop_length,List.append_nil]
  ·intro i hi ih
   refine Ev.step (fun k=>rfl) (ev_pos (by rw[List.length_append,marksF_length,List.length_drop];omega) (ev_pos (by omega) ?_))
   have e:(marksF a i++l.drop i).set i (a+(i:Int))=marksF a (i+1)++l.drop (i+1):=by
    rw[List.set_append_right _ _ (by rw[marksF_length];omega),marksF_length,Nat.sub_self,List.drop_eq_getElem_cons hi,List.set_cons_zero,marksF_succ,List.append_assoc]
    rfl
   rw[Int.toNat_natCast,e,w1 hi (by omega),w64 (by omega) (by omega),show a+(i:Int)+1=a+((i+1:Nat):Int) from by omega]
   exact ih
 have:=key 0 (Nat.zero_le _)
 simpa [marksF] using this
theorem heldIntS_at {n:Nat} {a:Int} (h0:0≤a) (hn:a+(n:Int)≤4611686018427387904):Ev (fun k=>laws_heldIntS.f k (marksF a n) a) (a+(n:Int)):=by
 unfold laws_heldIntS.f
 have key:∀i,i≤n→Ev (fun k=>laws_heldIntS.l0 k (marksF a n) (a+(i:Int)) (i:Int)) (a+(n:Int)):=by
  apply down
  ·exact Ev.step (fun k=>rfl) (ev_neg (by rw[marksF_length];omega) (Ev.now _))
  ·intro i hi ih
   refine Ev.step (fun k=>rfl) (ev_pos (by rw[marksF_length];omega) (ev_pos (by omega) (ev_pos (rd_marksF hi) ?_)))
   rw[w1 hi (by omega),w64 (by omega) (by omega),show a+(i:Int)+1=a+((i+1:Nat):Int) from by omega]
   exact ih
 have:=key 0 (Nat.zero_le _)
 simpa using this
def rowsF:Int→List (List Int)→List (List Int)
 | _,[]=>[]
 |a,x::xs=>marksF a x.length::rowsF (a+(x.length:Int)) xs
def endF:Int→List (List Int)→Int
 |a,[]=>a
 |a,x::xs=>endF (a+(x.length:Int)) xs
theorem endF_ge:∀(ls:List (List Int)) (a:Int),a≤endF a ls
 | [],a=>Int.le_refl a
 |x::xs,a=>by have:=endF_ge xs (a+(x.length:Int));show a≤endF (a+(x.length:Int)) xs;omega
theorem endF_le:∀(ls:List (List Int)) (a:Int),(∀y∈ls,y.length≤1048576)→endF a ls≤a+1048576*(ls.length:Int)
 | [],a,_=>by show a≤_;simp
 |x::xs,a,h=>by
  have:=endF_le xs (a+(x.length:Int)) (fun y hy=>h y (List.mem_cons_of_mem _ hy))
  have:=h x (List.mem_cons_self ..)
  show endF (a+(x.length:Int)) xs≤_
  rw[List.length_cons]
  omega
theorem markIntSS_ev {ls:List (List Int)} {a:Int} (h0:0≤a) (hs:ls.length≤1048576) (hn:endF a ls≤4611686018427387904):Ev (fun k=>laws_markIntSS.f k ls a) (endF a ls,rowsF a ls):=by
 unfold laws_markIntSS.f
 have key:∀(rest done:List (List Int)) (b:Int),0≤b→endF b rest≤4611686018427387904→done.length+rest.length≤1048576→Ev (fun k=>laws_markIntSS.l0 k (done++rest) b (done.length:Int)) (endF b rest,done++rowsF b rest):=by
  intro rest
  induction rest with
  |nil=>
   intro done b hb hn hl
   refine Ev.step (fun k=>rfl) (ev_neg (by rw[List.append_nil];omega) ?_)
   exact Ev.now _
  |cons x xs ih=>
   intro done b hb hn hl
   have hx:=endF_ge xs (b+(x.length:Int))
   have hn':endF (b+(x.length:Int)) xs≤4611686018427387904:=hn
   rw[List.length_cons]at hl
   have hi:=ih (done++ [marksF b x.length]) (b+(x.length:Int)) (by omega) hn' (by rw[List.length_append,List.length_singleton];omega)
   refine Ev.step (fun k=>rfl) (ev_pos (by rw[List.length_append,List.length_cons];omega) (ev_pos (by omega) ?_))
   have e1:(done++x::xs).getD ((done.length:Int)).toNat []=x:=by
    rw[Int.toNat_natCast,List.getD_eq_getElem?_getD,List.getElem?_append_right (Nat.le_refl _),Nat.sub_self]
    rfl
   rw[e1]
   refine Ev.bind (markIntS_at hb (by omega)) ?_
   have e2:(done++x::xs).set ((done.length:Int)).toNat (marksF b x.length)=(done++ [marksF b x.length])++xs:=by
    rw[Int.toNat_natCast,List.set_append_right _ _ (Nat.le_refl _),Nat.sub_self,List.set_cons_zero,List.append_assoc]
    rfl
   show Ev (fun k=>laws_markIntSS.l0 k ((done++x::xs).set ((done.length:Int)).toNat (marksF b x.length)) (b+(x.length:Int)) (wrap64 ((done.length:Int)+1))) _
   rw[e2,w64 (by omega) (by omega),show(done.length:Int)+1=((done++ [marksF b x.length]).length:Int) from by rw[List.length_append,List.length_singleton];omega]
   refine ev_eq hi ?_
   rw[List.append_assoc]
   rfl
 have:=key ls [] a h0 hn (by simpa using hs)
 simpa using this
theorem heldIntSS_ev {ls:List (List Int)} {a:Int} (h0:0≤a) (hs:ls.length≤1048576) (hn:endF a ls≤4611686018427387904):Ev (fun k=>laws_heldIntSS.f k (rowsF a ls) a) (endF a ls):=by
 unfold laws_heldIntSS.f
 have key:∀(rest:List (List Int)) (done:List (List Int)) (b:Int),0≤b→endF b rest≤4611686018427387904→done.length+rest.length≤1048576→Ev (fun k=>laws_heldIntSS.l0 k (done++rowsF b rest) b (done.length:Int)) (endF b rest):=by
  intro rest
  induction rest with
  |nil=>
   intro done b hb hn hl
   refine Ev.step (fun k=>rfl) (ev_neg (by show¬(done.length:Int)<((done++([]:List (List Int))).length:Int);rw[List.append_nil];omega) ?_)
   exact Ev.now _
  |cons x xs ih=>
   intro done b hb hn hl
   have hx:=endF_ge xs (b+(x.length:Int))
   have hn':endF (b+(x.length:Int)) xs≤4611686018427387904:=hn
   rw[List.length_cons]at hl
   have hi:=ih (done++ [marksF b x.length]) (b+(x.length:Int)) (by omega) hn' (by rw[List.length_append,List.length_singleton];omega)
   show Ev (fun k=>laws_heldIntSS.l0 k (done++marksF b x.length::rowsF (b+(x.length:Int)) xs) b (done.length:Int)) _
   have hlen:done.length<(done++marksF b x.length::rowsF (b+(x.length:Int)) xs).length:=by rw[List.length_append,List.length_cons];omega
   refine Ev.step (fun k=>rfl) (ev_pos (by omega) (ev_pos (by omega) ?_))
   have e1:rd_L1 (done++marksF b x.length::rowsF (b+(x.length:Int)) xs) (done.length:Int)=marksF b x.length:=by
    rw[rdLL_at hlen,List.getElem_append_right (Nat.le_refl _)]
    simp
   rw[e1]
   refine Ev.bind (heldIntS_at hb (by omega)) (ev_neg (by omega) ?_)
   rw[w64 (by omega) (by omega),show(done.length:Int)+1=((done++ [marksF b x.length]).length:Int) from by rw[List.length_append,List.length_singleton];omega,show done++marksF b x.length::rowsF (b+(x.length:Int)) xs=(done++ [marksF b x.length])++rowsF (b+(x.length:Int)) xs from by rw[List.append_assoc];rfl]
   exact hi
 have:=key ls [] a h0 hn (by simpa using hs)
 simpa using this
theorem markMind_ev (q:Int) {l:List Int} {ls:List (List Int)} (hl:l.length≤1048576) (hs:ls.length≤1048576) (hy:∀y∈ls,y.length≤1048576):Ev (fun k=>laws_markMind.f k q l ls 1) (endF (1+(l.length:Int)) ls,marksF 1 l.length,rowsF (1+(l.length:Int)) ls):=by
 have:=endF_le ls (1+(l.length:Int)) hy
 unfold laws_markMind.f
 exact Ev.bind (markIntS_at (by omega) (by omega)) (Ev.bind (markIntSS_ev (by dsimp only;omega) hs (by dsimp only;omega)) (Ev.now _))
theorem heldMind_ev (q:Int) {l:List Int} {ls:List (List Int)} (hl:l.length≤1048576) (hs:ls.length≤1048576) (hy:∀y∈ls,y.length≤1048576):Ev (fun k=>laws_heldMind.f k q (marksF 1 l.length) (rowsF (1+(l.length:Int)) ls) 1) (endF (1+(l.length:Int)) ls):=by
 have:=endF_le ls (1+(l.length:Int)) hy
 have:=endF_ge ls (1+(l.length:Int))
 unfold laws_heldMind.f
 exact Ev.bind (heldIntS_at (by omega) (by omega)) (ev_neg (by omega) (Ev.bind (heldIntSS_ev (by omega) hs (by omega)) (ev_neg (by omega) (Ev.now _))))
end Go.Proofs.YtihgpkohglcijaaGreatDoor.Pl
