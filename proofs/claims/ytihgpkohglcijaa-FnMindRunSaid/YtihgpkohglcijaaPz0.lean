import Derived.Test.YtihgpkohglcijaaPx2
import Derived.Test.YtihgpkohglcijaaMath
import Derived.Test.YtihgpkohglcijaaPx13
import Derived.Test.YtihgpkohglcijaaPx14
import Derived.Test.YtihgpkohglcijaaPx3
import Derived.Test.YtihgpkohglcijaaPx15
import Derived.Test.YtihgpkohglcijaaPx5
import Derived.Test.YtihgpkohglcijaaPx17
import Derived.Test.YtihgpkohglcijaaPx18
import Derived.Test.YtihgpkohglcijaaPx4
import Derived.Test.YtihgpkohglcijaaPx16
import Derived.Test.YtihgpkohglcijaaPx6
import Derived.Test.YtihgpkohglcijaaPx19
import Derived.Test.YtihgpkohglcijaaPx7
import Derived.Test.YtihgpkohglcijaaPx8
import Derived.Test.YtihgpkohglcijaaPx10
import Derived.Test.YtihgpkohglcijaaPx9
import Derived.Test.YtihgpkohglcijaaPx11
import Derived.Test.YtihgpkohglcijaaPx0
import Derived.Test.YtihgpkohglcijaaPx12
import Derived.Test.YtihgpkohglcijaaPx20
import Derived.Test.YtihgpkohglcijaaPx21
/- The plain laws that this law's proof needs, packed into one text (mergep.py). -/
namespace Go.Proofs.Ytihgpkohglcijaa.Pl
open Go.RowKit Go.Proofs.YtihgpkohglcijaaW.PrintWords Go.Proofs.YtihgpkohglcijaaW.PrintLast Go.Proofs.YtihgpkohglcijaaW.PrintMore Go.Proofs.Ytihgpkohglcijaa.P Go.Proofs.Ytihgpkohglcijaa.Mt
theorem toList_loop (b:ByteArray):∀(n i:Nat) (r:List UInt8),b.size - i=n→ByteArray.toList.loop b i r=r.reverse++b.data.toList.drop i:=by
 intro n
 induction n with
 |zero=>
  intro i r h
  unfold ByteArray.toList.loop
  rw[if_neg (by omega),List.drop_eq_nil_of_le (by rw[Array.length_toList];show b.size≤i;omega),List.append_nil]
 |succ n ih=>
  intro i r h
  unfold ByteArray.toList.loop
  have hi:i<b.data.toList.length:=by rw[Array.length_toList];show i<b.size;omega
  rw[if_pos (by omega),ih (i+1) _ (by omega),List.drop_eq_getElem_cons hi,List.reverse_cons,List.append_assoc]
  congr 2
  have:b.get! i=b.data.toList[i]:=by
   show b.data[i]! =_
   rw[getElem!_pos _ i (by rw[Array.length_toList]at hi;exact hi)]
   simp
  rw[this]
  rfl
theorem toList_data (b:ByteArray):b.toList=b.data.toList:=by
 unfold ByteArray.toList
 rw[toList_loop b _ 0 [] rfl]
 rfl
theorem toList_nil (b:ByteArray):b.toList= []↔b.size=0:=by
 rw[toList_data,List.eq_nil_iff_length_eq_zero,Array.length_toList]
 rfl
theorem ext_list {a b:ByteArray} (h:a.toList=b.toList):a=b:=by
 rw[toList_data,toList_data]at h
 exact ByteArray.ext (Array.toList_inj.1 h)
theorem l1In_eq (a b c:Int):spec_l1In.f a b c=some (decide (b≤a∧a≤c)):=by
 unfold spec_l1In.f
 by_cases h:a≥b
 ·rw[if_pos h]
  congr 1
  exact decide_eq_decide.2 ⟨fun k=>⟨h,k⟩,fun k=>k.2⟩
 ·rw[if_neg h]
  congr 1
  symm
  exact decide_eq_false (fun k=>h k.1)
theorem rd_at {l:List Int} {i:Nat} (h:i<l.length):rd l (i:Int)=l[i]:=by
 unfold rd
 rw[Int.toNat_natCast,List.getD_eq_getElem?_getD,List.getElem?_eq_getElem h]
 rfl
theorem rd_mem {l:List Int} {i:Nat} (h:i<l.length):rd l (i:Int)∈l:=by rw[rd_at h];exact List.getElem_mem h
theorem down {P:Nat→Prop} {n:Nat} (h0:P n) (h1:∀i,i<n→P (i+1)→P i):∀i,i≤n→P i:=by
 have key:∀d i,i+d=n→P i:=by
  intro d
  induction d with
  |zero=>intro i hi;rw[show i=n from by omega];exact h0
  |succ d ih=>intro i hi;exact h1 i (by omega) (ih (i+1) (by omega))
 intro i hi
 exact key (n - i) i (by omega)
theorem w1 {i n:Nat} (h:i<n) (hn:n≤9223372036854775807):wrap64 ((i:Int)+1)=((i+1:Nat):Int):=by rw[w64 (by omega) (by omega)];rfl
theorem three {t:Int} (h:1≤t∧t≤3):t=1∨t=2∨t=3:=by omega
def wn (t:Int):Nat:=if t=1 then 2 else if t=2 then 4 else 8
theorem wn_le (t:Int):wn t≤8∧2≤wn t:=by unfold wn;split<;>(try split)<;>omega
theorem shl_wn {t:Int} (h:1≤t∧t≤3):shl .i64 1 t=(wn t:Int):=by rcases three h with rfl|rfl|rfl<;>decide+kernel
/-- How many of 0 .. n-1 are in l. -/
def cntB (l:List Int):Nat→Nat
 |0=>0
 |n+1=>cntB l n+(if(n:Int)∈l then 1 else 0)
def lev (l:List Int) (x:Int):Nat:=cntB l x.toNat
def tidyL (l:List Int):List Int:=l.map fun x=>(lev l x:Int)
theorem cntB_congr {l m:List Int}:∀n:Nat,(∀y:Int,0≤y→y<n→(y∈l↔y∈m))→cntB l n=cntB m n
 |0,_=>rfl
 |n+1,h=>by
  unfold cntB
  rw[cntB_congr n (fun y h0 h1=>h y h0 (by omega))]
  have:=h n (by omega) (by omega)
  by_cases hm:(n:Int)∈l
  ·rw[if_pos hm,if_pos (this.1 hm)]
  ·rw[if_neg hm,if_neg (fun k=>hm (this.2 k))]
theorem cntB_mono {l:List Int} {a b:Nat} (h:a≤b):cntB l a≤cntB l b:=by
 induction b with
 |zero=>rw[Nat.le_zero.1 h];exact Nat.le_refl _
 |succ b ih=>
  by_cases e:a=b+1
  ·rw[e];exact Nat.le_refl _
  ·have h2:cntB l (b+1)=cntB l b+(if(b:Int)∈l then 1 else 0):=rfl
   have:=ih (by omega)
   omega
theorem cntB_lt {l:List Int} {a b:Nat} (h:a<b) (ha:(a:Int)∈l):cntB l a<cntB l b:=by
 have h1:cntB l (a+1)≤cntB l b:=cntB_mono h
 have h2:cntB l (a+1)=cntB l a+1:=by show cntB l a+_=_;rw[if_pos ha]
 omega
theorem cntB_le (l:List Int):∀n,cntB l n≤n
 |0=>Nat.le_refl _
 |n+1=>by unfold cntB;have:=cntB_le l n;split<;>omega
/-- A list without repeats that has just the members of l below n: as many. -/
theorem nodup_cnt {l:List Int}:∀(n:Nat) (s:List Int),s.Nodup→(∀y,y∈s↔(y∈l∧0≤y∧y<n))→s.length=cntB l n
 |0,s,_,h=>by
  cases s with
  |nil=>rfl
  |cons y s=>have:=(h y).1 List.mem_cons_self;omega
 |n+1,s,hd,h=>by
  unfold cntB
  by_cases hn:(n:Int)∈l
  ·rw[if_pos hn]
   have hs:(n:Int)∈s:=(h n).2 ⟨hn,by omega,by omega⟩
   have:=nodup_cnt (l:=l) n (s.erase n) (hd.erase _) (fun y=>by
    rw[hd.mem_erase_iff]
    constructor
    ·rintro⟨a,b⟩
     obtain⟨b,c,d⟩:=(h y).1 b
     exact⟨b,c,by omega⟩
    ·rintro⟨b,c,d⟩
     exact⟨by omega,(h y).2 ⟨b,c,by omega⟩⟩)
   rw[List.length_erase_of_mem hs]at this
   have hp:0<s.length:=List.length_pos_of_mem hs
   omega
  ·rw[if_neg hn]
   exact nodup_cnt n s hd (fun y=>by
    rw[h y]
    constructor
    ·rintro⟨a,b,c⟩;exact⟨a,b,by have:y≠n:=fun e=>hn (e▸a);omega⟩
    ·rintro⟨a,b,c⟩;exact⟨a,b,by omega⟩)
theorem tidyL_length (l:List Int):(tidyL l).length=l.length:=List.length_map ..
theorem lev_lt {l:List Int} {x y:Int} (hx:x∈l) (h0:0≤x) (h:x<y):lev l x<lev l y:=by
 unfold lev
 exact cntB_lt (by omega) (by rw[Int.toNat_of_nonneg h0];exact hx)
theorem lev_inj {l:List Int} {x y:Int} (hx:x∈l) (hy:y∈l) (h0:0≤x) (h1:0≤y) (h:lev l x=lev l y):x=y:=by
 rcases(by omega:x<y∨x=y∨y<x)with k|k|k
 ·have:=lev_lt hx h0 k;omega
 ·exact k
 ·have:=lev_lt hy h1 k;omega
/-- Every level below one is taken. -/
theorem lev_full {l:List Int}:∀(n k:Nat),k<cntB l n→∃y∈l,0≤y∧y<n∧lev l y=k
 |0,k,h=>by simp[cntB]at h
 |n+1,k,h=>by
  unfold cntB at h
  by_cases hk:k<cntB l n
  ·obtain⟨y,hy,h0,h1,h2⟩:=lev_full n k hk
   exact⟨y,hy,h0,by omega,h2⟩
  ·by_cases hn:(n:Int)∈l
   ·rw[if_pos hn]at h
    exact⟨n,hn,by omega,by omega,by show cntB l ((n:Int).toNat)=k;rw[Int.toNat_natCast];omega⟩
   ·rw[if_neg hn]at h;omega
theorem mem_tidyL {l:List Int} {y:Int}:y∈tidyL l↔∃x∈l,(lev l x:Int)=y:=by unfold tidyL;rw[List.mem_map]
/-- Tidying twice is tidying once. -/
theorem lev_tidyL {l:List Int} {x:Int} (_:x∈l) (_:0≤x):lev (tidyL l) (lev l x)=lev l x:=by
 have key:∀n:Nat,n≤lev l x→cntB (tidyL l) n=n:=by
  intro n
  induction n with
  |zero=>intro _;rfl
  |succ n ih=>
   intro h
   unfold cntB
   obtain⟨y,hy,_,_,he⟩:=lev_full (l:=l) x.toNat n h
   rw[ih (by omega),if_pos (mem_tidyL.2 ⟨y,hy,by rw[he]⟩)]
 show cntB (tidyL l) ((lev l x:Int).toNat)=lev l x
 rw[Int.toNat_natCast]
 exact key _ (Nat.le_refl _)
theorem tidyL_tidyL {l:List Int} (h:∀x∈l,0≤x):tidyL (tidyL l)=tidyL l:=by
 show(tidyL l).map _=_
 conv=>lhs;arg 2;unfold tidyL
 rw[List.map_map]
 show _=l.map _
 apply List.map_congr_left
 intro x hx
 show((lev (tidyL l) (lev l x):Nat):Int)=_
 rw[lev_tidyL hx (h x hx)]
theorem cntB_cons (z:Int) (l:List Int):∀n:Nat,cntB (z::l) n≤cntB l n+(if 0≤z∧z<n then 1 else 0)
 |0=>by unfold cntB;omega
 |n+1=>by
  have ih:=cntB_cons z l n
  have e1:cntB (z::l) (n+1)=cntB (z::l) n+(if(n:Int)∈z::l then 1 else 0):=rfl
  have e2:cntB l (n+1)=cntB l n+(if(n:Int)∈l then 1 else 0):=rfl
  rw[e1,e2]
  by_cases hz:z=(n:Int)
  ·subst hz
   rw[if_neg (by omega)]at ih
   rw[if_pos (c:=0≤(n:Int)∧_) (by omega)]
   split<;>split<;>omega
  ·have hm:((n:Int)∈z::l)↔(n:Int)∈l:=by rw[List.mem_cons];exact⟨fun h=>h.resolve_left (fun e=>hz e.symm),Or.inr⟩
   by_cases hl:(n:Int)∈l
   ·rw[if_pos (hm.2 hl),if_pos hl]
    split at ih<;>split<;>omega
   ·rw[if_neg (fun k=>hl (hm.1 k)),if_neg hl]
    split at ih<;>split<;>omega
theorem cntB_le_length {l:List Int} {n:Nat}:cntB l n≤(l.filter fun y=>decide (y<(n:Int))).length:=by
 induction l with
 |nil=>
  have:∀n,cntB [] n=0:=by intro n;induction n with|zero=>rfl|succ n ih=>unfold cntB;rw[ih,if_neg (by simp)]
  rw[this];exact Nat.zero_le _
 |cons z l ih=>
  have:=cntB_cons z l n
  rw[List.filter_cons]
  by_cases h:z<(n:Int)
  ·rw[if_pos (by simpa using h),List.length_cons]
   split at this<;>omega
  ·rw[if_neg (by simpa using h)]
   rw[if_neg (by omega)]at this
   omega
theorem lev_lt_length {l:List Int} {x:Int} (hx:x∈l) (h0:0≤x):lev l x<l.length:=by
 have h1:=cntB_le_length (l:=l) (n:=x.toNat)
 have h2:(l.filter fun y=>decide (y<((x.toNat:Nat):Int))).length<l.length:=by
  rw[Int.toNat_of_nonneg h0]
  have hle:=List.length_filter_le (fun y=>decide (y<x)) l
  rcases Nat.lt_or_ge (l.filter fun y=>decide (y<x)).length l.length with h|h
  ·exact h
  ·have he:(l.filter fun y=>decide (y<x)).length=l.length:=by omega
   have:=List.length_filter_eq_length_iff.1 he x hx
   simp at this
 unfold lev
 omega
/-- The least one has level 0. -/
theorem lev_zero {l:List Int} {x:Int} (h:∀y∈l,0≤y→x≤y):lev l x=0:=by
 unfold lev
 have:∀n:Nat,n≤x.toNat→cntB l n=0:=by
  intro n
  induction n with
  |zero=>intro _;rfl
  |succ n ih=>
   intro hn
   unfold cntB
   rw[ih (by omega),if_neg (fun hm=>by have:=h n hm (by omega);omega)]
 exact this _ (Nat.le_refl _)
theorem lev_pos {l:List Int} {x y:Int} (hy:y∈l) (h0:0≤y) (h:y<x):0<lev l x:=by
 have:=lev_lt hy h0 h
 omega
/-- The place of a member in an ascending list without repeats: how many are less. -/
theorem idx_asc {c:List Int} (hs:c.Pairwise (·<·)) (h0:∀x∈c,0≤x) {i:Nat} (hi:i<c.length):lev c c[i]=i:=by
 have hx0:0≤c[i]:=h0 _ (List.getElem_mem hi)
 unfold lev
 have hn:(c.take i).Nodup:=by
  have:(c.take i).Pairwise (·<·):=hs.sublist (List.take_sublist ..)
  exact this.imp (fun h=>by omega)
 have hget:=List.pairwise_iff_getElem.1 hs
 rw[←nodup_cnt (l:=c) c[i].toNat (c.take i) hn (fun y=>by
  rw[Int.toNat_of_nonneg hx0]
  constructor
  ·intro hy
   obtain⟨j,hj,rfl⟩:=List.mem_iff_getElem.1 hy
   rw[List.length_take]at hj
   rw[List.getElem_take]
   refine⟨List.getElem_mem _,h0 _ (List.getElem_mem _),hget j i (by omega) hi (by omega)⟩
  ·rintro⟨hy,_,hlt⟩
   obtain⟨j,hj,rfl⟩:=List.mem_iff_getElem.1 hy
   have hji:j<i:=by
    rcases(by omega:j<i∨j=i∨i<j)with k|k|k
    ·exact k
    ·subst k;omega
    ·have:=hget i j hi hj k;omega
   rw[List.mem_iff_getElem]
   exact⟨j,by rw[List.length_take];omega,List.getElem_take⟩)]
 rw[List.length_take]
 omega
theorem lev_congr {l m:List Int} (h:∀y,y∈l↔y∈m) (x:Int):lev l x=lev m x:=cntB_congr _ (fun y _ _=>h y)
def rankOk (t:Int) (l:List Int):Bool:=decide ((1≤t∧t≤3)∧l.length=wn t∧(∀x∈l,0≤x∧x≤9)∧(0:Int)∈l)
theorem rankOk_iff {t:Int} {l:List Int}:rankOk t l=true↔(1≤t∧t≤3)∧l.length=wn t∧(∀x∈l,0≤x∧x≤9)∧(0:Int)∈l:=by unfold rankOk;exact decide_eq_true_iff
theorem rd_getD (l:List Int) (i:Nat):rd l (i:Int)=l.getD i 0:=by unfold rd;rw[Int.toNat_natCast]
theorem mn_cases (a b:Int):(mn a b=a∨mn a b=b)∧mn a b≤a∧mn a b≤b:=by unfold mn;split<;>omega
theorem mx_cases (a b:Int):(mx a b=a∨mx a b=b)∧a≤mx a b∧b≤mx a b:=by unfold mx;split<;>omega
theorem RankOk_ev (t:Int) {l:List Int} (hn:l.length≤9223372036854775807):Ev (fun k=>spec_RankOk.f k t l) (rankOk t l):=by
 unfold spec_RankOk.f
 have key:∀i,i≤l.length→∀m:Int,0≤m→m≤9→Ev (fun k=>spec_RankOk.l0 k t l m (i:Int)) (decide ((1≤t∧t≤3)∧l.length=wn t∧(∀x∈l.drop i,0≤x∧x≤9)∧(m=0∨(0:Int)∈l.drop i))):=by
  apply down
  ·intro m h0 h9
   refine Ev.step (fun k=>rfl) (ev_neg (by omega) (ev_bindc (l1In_eq _ _ _) ?_))
   rw[List.drop_length]
   by_cases ht:1≤t∧t≤3
   ·refine ev_pos (decide_eq_true ht) (ev_pos (by omega) ?_)
    rw[shl_wn ht]
    by_cases hl:l.length=wn t
    ·refine ev_pos (by omega) (ev_eq (Ev.now _) ?_)
     by_cases hm:m=0
     ·rw[hm,decide_eq_true ⟨ht,hl,fun x hx=>absurd hx (by simp),Or.inl rfl⟩];rfl
     ·rw[decide_eq_false (fun k=>by rcases k.2.2.2 with h|h;exact hm h;simp at h)]
      exact beq_eq_false_iff_ne.2 hm
    ·refine ev_neg (by omega) (ev_eq (Ev.now _) ?_)
     rw[decide_eq_false (fun k=>hl k.2.1)]
   ·refine ev_neg (by rw[decide_eq_false ht];decide) (ev_eq (Ev.now _) ?_)
    rw[decide_eq_false (fun k=>ht k.1)]
  ·intro i hi ih m h0 h9
   refine Ev.step (fun k=>rfl) (ev_pos (by omega) (ev_pos (by omega) (ev_bindc (l1In_eq _ _ _) ?_)))
   rw[rd_at hi]
   by_cases hr:0≤l[i]∧l[i]≤9
   ·obtain⟨m1,m2,m3⟩:=mn_cases m l[i]
    refine ev_pos (decide_eq_true hr) ?_
    rw[w1 hi hn]
    refine ev_eq (ih (mn m l[i]) (by omega) (by omega)) (decide_eq_decide.2 ?_)
    rw[List.drop_eq_getElem_cons hi]
    simp only[List.mem_cons,forall_eq_or_imp]
    constructor
    ·rintro⟨a,b,c,d⟩
     refine⟨a,b,⟨hr,c⟩,?_⟩
     rcases d with d|d
     ·rcases m1 with m1|m1
      ·exact Or.inl (by omega)
      ·exact Or.inr (Or.inl (by omega))
     ·exact Or.inr (Or.inr d)
    ·rintro⟨a,b,⟨_,c⟩,d⟩
     refine⟨a,b,c,?_⟩
     rcases d with d|d|d
     ·exact Or.inl (by omega)
     ·exact Or.inl (by omega)
     ·exact Or.inr d
   ·refine ev_neg (by rw[decide_eq_false hr];decide) (ev_eq (Ev.now _) ?_)
    rw[decide_eq_false (fun k=>hr (k.2.2.1 _ (by rw[List.drop_eq_getElem_cons hi];exact List.mem_cons_self)))]
 refine ev_eq (key 0 (Nat.zero_le _) 9 (by omega) (by omega)) (decide_eq_decide.2 ?_)
 rw[List.drop_zero]
 exact⟨fun⟨a,b,c,d⟩=>⟨a,b,c,d.resolve_left (by omega)⟩,fun⟨a,b,c,d⟩=>⟨a,b,c,Or.inr d⟩⟩
/-! ### tidy: the reference -/
theorem TidyRank_ev {t:Int} {l:List Int} (h:rankOk t l=true):Ev (fun k=>spec_TidyRank.f k t l) (tidyL l):=by
 obtain⟨ht,hl,hx,_⟩:=rankOk_iff.1 h
 have h8:=(wn_le t).1
 unfold spec_TidyRank.f
 have l2:∀(out:List Int) (w c:Nat) (r:Int) (res:List Int),∀v,v≤l.length→∀b:Bool,
   Ev (fun k=>spec_TidyRank.l1 k t l out (w:Int) (if(b=true∨r∈l.drop v)then wrap64 ((c:Int)+1)else(c:Int)) (wrap64 (r+1))) res→Ev (fun k=>spec_TidyRank.l2 k t l out (w:Int) (c:Int) r b (v:Int)) res:=by
  intro out w c r res
  apply down (P:=fun v=>∀b:Bool,Ev (fun k=>spec_TidyRank.l1 k t l out (w:Int) (if(b=true∨r∈l.drop v)then wrap64 ((c:Int)+1)else(c:Int)) (wrap64 (r+1))) res→Ev (fun k=>spec_TidyRank.l2 k t l out (w:Int) (c:Int) r b (v:Int)) res)
  ·intro b hb
   refine Ev.step (fun k=>rfl) (ev_neg (by omega) ?_)
   rw[List.drop_length]at hb
   cases b with
   |true=>rw[if_pos (Or.inl rfl)]at hb;exact ev_pos rfl hb
   |false=>rw[if_neg (by simp)]at hb;exact ev_neg (by decide) hb
  ·intro v hv ih b hb
   refine Ev.step (fun k=>rfl) (ev_pos (by omega) ?_)
   rw[List.drop_eq_getElem_cons hv]at hb
   cases b with
   |true=>
    refine ev_pos rfl ?_
    rw[w1 hv (by omega)]
    refine ih true ?_
    rw[if_pos (Or.inl rfl)]at hb⊢
    exact hb
   |false=>
    refine ev_neg (by decide) (ev_pos (by omega) ?_)
    rw[rd_at hv,w1 hv (by omega)]
    refine ih _ ?_
    have:((l[v]==r)=true∨r∈l.drop (v+1))↔(false=true∨r∈l[v]::l.drop (v+1)):=by
     rw[List.mem_cons,beq_iff_eq]
     constructor
     ·rintro(h|h)
      ·exact Or.inr (Or.inl h.symm)
      ·exact Or.inr (Or.inr h)
     ·rintro(h|h|h)
      ·cases h
      ·exact Or.inl h.symm
      ·exact Or.inr h
    simp only[this]
    exact hb
 have l1:∀(out:List Int) (w:Nat) (hw:w<l.length) (res:List Int),out.length≤8→Ev (fun k=>spec_TidyRank.l0 k t l (out++ [(lev l l[w]:Int)]) ((w+1:Nat):Int)) res→
   ∀r,r≤(l[w]).toNat→Ev (fun k=>spec_TidyRank.l1 k t l out (w:Int) (cntB l r:Int) (r:Int)) res:=by
  intro out w hw res ho hres
  have hxw:=hx _ (List.getElem_mem hw)
  apply down
  ·refine Ev.step (fun k=>rfl) (ev_pos (by omega) (ev_neg (by rw[rd_at hw];omega) (ev_pos (by omega) ?_)))
   rw[w1 hw (by omega)]
   exact hres
  ·intro r hr ih
   refine Ev.step (fun k=>rfl) (ev_pos (by omega) (ev_pos (by rw[rd_at hw];omega) ?_))
   refine l2 out w (cntB l r) (r:Int) res 0 (Nat.zero_le _) false ?_
   have hc:=cntB_le l r
   have e:(if(false=true∨(r:Int)∈l.drop 0)then wrap64 ((cntB l r:Int)+1)else(cntB l r:Int))=((cntB l (r+1):Nat):Int):=by
    show _=((cntB l r+(if(r:Int)∈l then 1 else 0):Nat):Int)
    rw[List.drop_zero]
    by_cases hm:(r:Int)∈l
    ·rw[if_pos (Or.inr hm),if_pos hm,w64 (by omega) (by omega)];rfl
    ·rw[if_neg (by rintro(k|k);cases k;exact hm k),if_neg hm];rfl
   rw[e,w64 (n:=(r:Int)+1) (by omega) (by omega)]
   exact ih
 have l0:∀w,w≤l.length→Ev (fun k=>spec_TidyRank.l0 k t l ((l.take w).map fun x=>(lev l x:Int)) (w:Int)) (tidyL l):=by
  apply down
  ·refine Ev.step (fun k=>rfl) (ev_neg (by omega) (Ev.step (fun k=>rfl) ?_))
   simp only[spec_TidyRank.j1]
   refine ev_neg (by decide) (ev_eq (Ev.now _) ?_)
   rw[List.take_length]
   rfl
  ·intro w hw ih
   have hr:=RankOk_ev t (l:=l) (by omega)
   rw[h]at hr
   refine Ev.step (fun k=>rfl) (ev_pos (by omega) (Ev.bind hr (Ev.step (fun k=>rfl) ?_)))
   simp only[spec_TidyRank.j1]
   refine ev_pos trivial (l1 _ w hw _ (by rw[List.length_map,List.length_take];omega) ?_ 0 (Nat.zero_le _))
   rw[List.take_succ_eq_append_getElem hw,List.map_append]at ih
   exact ih
 exact l0 0 (Nat.zero_le _)
theorem areThings_eq (a:Int):impl_areThings.f a=some (decide (1≤a∧a≤3)):=by
 unfold impl_areThings.f
 by_cases h:a≥1
 ·rw[if_pos h]
  congr 1
  exact decide_eq_decide.2 ⟨fun k=>⟨h,k⟩,fun k=>k.2⟩
 ·rw[if_neg h]
  congr 1
  symm
  exact decide_eq_false (fun k=>h k.1)
/-! ### insertion -/
def sw (l:List Int) (j:Nat):List Int:=(l.set (j+1) (l.getD j 0)).set j (l.getD (j+1) 0)
theorem sw_length (l:List Int) (j:Nat):(sw l j).length=l.length:=by unfold sw;rw[List.length_set,List.length_set]
theorem sw_get {l:List Int} {j:Nat} (h:j+1<l.length) (p:Nat):(sw l j).getD p 0=if p=j then l.getD (j+1) 0 else if p=j+1 then l.getD j 0 else l.getD p 0:=by
 unfold sw
 simp only[List.getD_eq_getElem?_getD,List.getElem?_set,List.length_set]
 by_cases h1:p=j
 ·subst h1
  rw[if_pos rfl,if_pos rfl,if_pos (by omega)];rfl
 ·by_cases h2:p=j+1
  ·subst h2
   simp[h]
  ·rw[if_neg (fun e=>h1 e.symm),if_neg (fun e=>h2 e.symm),if_neg h1,if_neg h2]
theorem mem_getD {l:List Int} {y:Int}:y∈l↔∃p,p<l.length∧l.getD p 0=y:=by
 rw[List.mem_iff_getElem]
 constructor
 ·rintro⟨p,hp,rfl⟩
  exact⟨p,hp,by simp[hp]⟩
 ·rintro⟨p,hp,rfl⟩
  exact⟨p,hp,by simp[hp]⟩
theorem sw_mem {l:List Int} {j:Nat} (h:j+1<l.length) (y:Int):y∈sw l j↔y∈l:=by
 rw[mem_getD,mem_getD,sw_length]
 constructor
 ·rintro⟨p,hp,e⟩
  rw[sw_get h]at e
  by_cases h1:p=j
  ·rw[if_pos h1]at e;exact⟨j+1,h,e⟩
  ·rw[if_neg h1]at e
   by_cases h2:p=j+1
   ·rw[if_pos h2]at e;exact⟨j,by omega,e⟩
   ·rw[if_neg h2]at e;exact⟨p,hp,e⟩
 ·rintro⟨p,hp,e⟩
  by_cases h1:p=j
  ·exact⟨j+1,h,by rw[sw_get h,if_neg (by omega),if_pos rfl,←h1];exact e⟩
  ·by_cases h2:p=j+1
   ·exact⟨j,by omega,by rw[sw_get h,if_pos rfl,←h2];exact e⟩
   ·exact⟨p,hp,by rw[sw_get h,if_neg h1,if_neg h2];exact e⟩
/-- The first i are in order. -/
def UpTo (l:List Int) (i:Nat):Prop:=∀p q,p<q→q<i→l.getD p 0≤l.getD q 0
def Ins (l:List Int) (i j:Nat):Prop:=(∀p q,p<q→q≤i→p≠j→q≠j→l.getD p 0≤l.getD q 0)∧∀q,j<q→q≤i→l.getD j 0≤l.getD q 0
theorem Ins.start {l:List Int} {i:Nat} (h:UpTo l i):Ins l i i:=⟨fun p q h1 h2 h3 h4=>h p q h1 (by omega),fun q h1 h2=>by omega⟩
theorem Ins.zero {l:List Int} {i:Nat} (h:Ins l i 0):UpTo l (i+1):=fun p q h1 h2=>by
 by_cases e:p=0
 ·subst e;exact h.2 q h1 (by omega)
 ·exact h.1 p q h1 (by omega) e (by omega)
theorem Ins.stop {l:List Int} {i j:Nat} (h:Ins l i (j+1)) (hle:l.getD j 0≤l.getD (j+1) 0):UpTo l (i+1):=fun p q h1 h2=>by
 by_cases e:p=j+1
 ·subst e;exact h.2 q h1 (by omega)
 ·by_cases e2:q=j+1
  ·subst e2
   by_cases e3:p=j
   ·rw[e3];exact hle
   ·have:=h.1 p j (by omega) (by omega) e (by omega);omega
  ·exact h.1 p q h1 (by omega) e e2
theorem Ins.next {l:List Int} {i j:Nat} (h:Ins l i (j+1)) (hj:j+1≤i) (hi:i<l.length) (hlt:l.getD (j+1) 0<l.getD j 0):Ins (sw l j) i j:=by
 have hl:j+1<l.length:=by omega
 constructor
 ·intro p q h1 h2 h3 h4
  rw[sw_get hl,sw_get hl,if_neg h3,if_neg h4]
  by_cases e:p=j+1
  ·rw[if_pos e,if_neg (by omega)]
   exact h.1 j q (by omega) h2 (by omega) (by omega)
  ·rw[if_neg e]
   by_cases e2:q=j+1
   ·rw[if_pos e2]
    exact h.1 p j (by omega) (by omega) e (by omega)
   ·rw[if_neg e2]
    exact h.1 p q h1 h2 e e2
 ·intro q h1 h2
  rw[sw_get hl,sw_get hl,if_pos rfl,if_neg (by omega)]
  by_cases e:q=j+1
  ·rw[if_pos e];omega
  ·rw[if_neg e]
   exact h.2 q (by omega) h2
/-! ### runs of the same -/
def cmpct:List Int→List Int
 | []=>[]
 | [x]=>[x]
 |x::y::t=>if x=y then cmpct (y::t)else x::cmpct (y::t)
theorem cmpct_mem (y:Int):∀l:List Int,y∈cmpct l↔y∈l
 | []=>Iff.rfl
 | [x]=>Iff.rfl
 |x::z::t=>by
  unfold cmpct
  by_cases h:x=z
  ·rw[if_pos h,cmpct_mem y (z::t),h]
   simp
  ·rw[if_neg h,List.mem_cons,cmpct_mem y (z::t)]
   exact List.mem_cons.symm
theorem cmpct_asc:∀{l:List Int},l.Pairwise (·≤·)→(cmpct l).Pairwise (·<·)
 | [],_=>List.Pairwise.nil
 | [x],_=>List.pairwise_singleton _ _
 |x::y::t,h=>by
  unfold cmpct
  have h2:=cmpct_asc (List.pairwise_cons.1 h).2
  by_cases e:x=y
  ·rw[if_pos e];exact h2
  ·rw[if_neg e]
   refine List.pairwise_cons.2 ⟨fun z hz=>?_,h2⟩
   have hz':=(cmpct_mem z _).1 hz
   have h1:=(List.pairwise_cons.1 h).1
   have hxy:=h1 y List.mem_cons_self
   rcases List.mem_cons.1 hz' with rfl|hz'
   ·omega
   ·have:=(List.pairwise_cons.1 (List.pairwise_cons.1 h).2).1 z hz'
    omega
theorem upTo_pairwise {l:List Int} (h:UpTo l l.length):l.Pairwise (·≤·):=by
 rw[List.pairwise_iff_getElem]
 intro i j hi hj hij
 have:=h i j hij hj
 simpa [hi,hj] using this
theorem cmpct_length:∀l:List Int,(cmpct l).length≤l.length
 | []=>Nat.le_refl _
 | [x]=>Nat.le_refl _
 |x::z::t=>by
  unfold cmpct
  have:=cmpct_length (z::t)
  split
  ·rw[List.length_cons];omega
  ·rw[List.length_cons,List.length_cons];omega
theorem Min_ev {l:List Int} (h:0<l.length) (hn:l.length≤9223372036854775807):∃r,Ev (fun k=>slices_Min_int_int.f k l) r∧r∈l∧∀y∈l,r≤y:=by
 unfold slices_Min_int_int.f
 have key:∀i,i≤l.length→∀m:Int,∃r,Ev (fun k=>slices_Min_int_int.l0 k l m (i:Int)) r∧(r=m∨r∈l.drop i)∧r≤m∧∀y∈l.drop i,r≤y:=by
  apply down
  ·intro m
   exact⟨m,Ev.step (fun k=>rfl) (ev_neg (by omega) (Ev.now _)),Or.inl rfl,Int.le_refl _,fun y hy=>by rw[List.drop_length]at hy;simp at hy⟩
  ·intro i hi ih m
   obtain⟨r,h1,h2,h3,h4⟩:=ih (mn m l[i])
   obtain⟨m1,m2,m3⟩:=mn_cases m l[i]
   refine⟨r,Ev.step (fun k=>rfl) (ev_pos (by omega) (ev_pos (by omega) (by rw[rd_at hi,w1 hi hn];exact h1))),?_,by omega,?_⟩
   ·rw[List.drop_eq_getElem_cons hi,List.mem_cons]
    rcases h2 with h2|h2
    ·rcases m1 with m1|m1
     ·exact Or.inl (by omega)
     ·exact Or.inr (Or.inl (by omega))
    ·exact Or.inr (Or.inr h2)
   ·rw[List.drop_eq_getElem_cons hi]
    intro y hy
    rcases List.mem_cons.1 hy with rfl|hy
    ·omega
    ·exact h4 y hy
 obtain⟨r,h1,h2,h3,h4⟩:=key 1 h (l[0])
 have e:rd l 0=l[0]:=rd_at (i:=0) h
 have hd:l=l[0]::l.drop 1:=by have:=List.drop_eq_getElem_cons h;rw[List.drop_zero]at this;exact this
 refine⟨r,ev_neg (by omega) (ev_pos (by omega) (by rw[e];exact h1)),?_,fun y hy=>?_⟩
 ·rcases h2 with h2|h2
  ·rw[h2];exact List.getElem_mem h
  ·exact List.mem_of_mem_drop h2
 ·rw[hd]at hy
  rcases List.mem_cons.1 hy with rfl|hy
  ·exact h3
  ·exact h4 y hy
theorem Max_ev {l:List Int} (h:0<l.length) (hn:l.length≤9223372036854775807):∃r,Ev (fun k=>slices_Max_int_int.f k l) r∧r∈l∧∀y∈l,y≤r:=by
 unfold slices_Max_int_int.f
 have key:∀i,i≤l.length→∀m:Int,∃r,Ev (fun k=>slices_Max_int_int.l0 k l m (i:Int)) r∧(r=m∨r∈l.drop i)∧m≤r∧∀y∈l.drop i,y≤r:=by
  apply down
  ·intro m
   exact⟨m,Ev.step (fun k=>rfl) (ev_neg (by omega) (Ev.now _)),Or.inl rfl,Int.le_refl _,fun y hy=>by rw[List.drop_length]at hy;simp at hy⟩
  ·intro i hi ih m
   obtain⟨r,h1,h2,h3,h4⟩:=ih (mx m l[i])
   obtain⟨m1,m2,m3⟩:=mx_cases m l[i]
   refine⟨r,Ev.step (fun k=>rfl) (ev_pos (by omega) (ev_pos (by omega) (by rw[rd_at hi,w1 hi hn];exact h1))),?_,by omega,?_⟩
   ·rw[List.drop_eq_getElem_cons hi,List.mem_cons]
    rcases h2 with h2|h2
    ·rcases m1 with m1|m1
     ·exact Or.inl (by omega)
     ·exact Or.inr (Or.inl (by omega))
    ·exact Or.inr (Or.inr h2)
   ·rw[List.drop_eq_getElem_cons hi]
    intro y hy
    rcases List.mem_cons.1 hy with rfl|hy
    ·omega
    ·exact h4 y hy
 obtain⟨r,h1,h2,h3,h4⟩:=key 1 h (l[0])
 have e:rd l 0=l[0]:=rd_at (i:=0) h
 have hd:l=l[0]::l.drop 1:=by have:=List.drop_eq_getElem_cons h;rw[List.drop_zero]at this;exact this
 refine⟨r,ev_neg (by omega) (ev_pos (by omega) (by rw[e];exact h1)),?_,fun y hy=>?_⟩
 ·rcases h2 with h2|h2
  ·rw[h2];exact List.getElem_mem h
  ·exact List.mem_of_mem_drop h2
 ·rw[hd]at hy
  rcases List.mem_cons.1 hy with rfl|hy
  ·exact h3
  ·exact h4 y hy
theorem isRank_ev (t:Int) {l:List Int} (hn:l.length≤9223372036854775807):Ev (fun k=>impl_isRank.f k t l) (rankOk t l):=by
 unfold impl_isRank.f
 refine ev_bindc (areThings_eq t) ?_
 by_cases ht:1≤t∧t≤3
 ·refine ev_pos (decide_eq_true ht) (ev_pos (by omega) ?_)
  rw[shl_wn ht]
  refine Ev.step (fun k=>rfl) ?_
  simp only[impl_isRank.j0]
  by_cases hl:l.length=wn t
  ·refine ev_neg (by rw[hl];simp) ?_
   have h2:=(wn_le t).2
   obtain⟨m,hm,hm1,hm2⟩:=Min_ev (l:=l) (by omega) hn
   obtain⟨M,hM,hM1,hM2⟩:=Max_ev (l:=l) (by omega) hn
   refine Ev.bind hm ?_
   by_cases h0:m=0
   ·refine ev_pos h0 (Ev.bind hM (ev_eq (Ev.now _) (decide_eq_decide.2 ?_)))
    subst h0
    constructor
    ·intro h9
     exact⟨ht,hl,fun x hx=>⟨hm2 x hx,Int.le_trans (hM2 x hx) h9⟩,hm1⟩
    ·intro h
     exact(h.2.2.1 M hM1).2
   ·refine ev_neg h0 (ev_eq (Ev.now _) ?_)
    unfold rankOk
    rw[decide_eq_false]
    rintro⟨_,_,h1,h2⟩
    have:=hm2 0 h2
    have:=(h1 m hm1).1
    omega
  ·refine ev_pos (by rw[bne_iff_ne];omega) (ev_eq (Ev.now _) ?_)
   unfold rankOk
   rw[decide_eq_false (fun k=>hl k.2.1)]
 ·refine ev_neg (by rw[decide_eq_false ht];decide) (Ev.step (fun k=>rfl) ?_)
  simp only[impl_isRank.j0]
  refine ev_pos trivial (ev_eq (Ev.now _) ?_)
  unfold rankOk
  rw[decide_eq_false (fun k=>ht k.1)]

/-! ### tidy: the program -/
theorem less_eq (a b:Int):cmp_Less_int.f a b=some (decide (a<b)):=by
 unfold cmp_Less_int.f cmp_isNaN_int.f
 rw[Option.bind_some,bne_self_eq_false,if_neg (by decide)]
theorem sort_ev {l:List Int} (hn:l.length≤8):∃r,Ev (fun k=>slices_Sort_int_int.f k l) r∧UpTo r r.length∧r.length=l.length∧∀y,y∈r↔y∈l:=by
 obtain⟨n,en⟩:∃n,n=l.length:=⟨_,rfl⟩
 have outer:∀i,i≤n→∀m:List Int,m.length=n→UpTo m i→∃r,Ev (fun k=>slices_insertionSortOrdered_int.l0 k m 0 (n:Int) (i:Int)) r∧UpTo r n∧r.length=n∧∀y,y∈r↔y∈m:=by
  apply down
  ·intro m hm hu
   exact⟨m,Ev.step (fun k=>rfl) (ev_neg (by omega) (Ev.now _)),hu,hm,fun y=>Iff.rfl⟩
  ·intro i hi ih m hm hu
   have inner:∀j,j≤i→∀m:List Int,m.length=n→Ins m i j→∃r,Ev (fun k=>slices_insertionSortOrdered_int.l1 k m 0 (n:Int) (i:Int) (j:Int)) r∧UpTo r n∧r.length=n∧∀y,y∈r↔y∈m:=by
    intro j
    induction j with
    |zero=>
     intro _ m hm hI
     obtain⟨r,h1,h2⟩:=ih m hm hI.zero
     refine⟨r,Ev.step (fun k=>rfl) (ev_neg (by omega) ?_),h2⟩
     rw[w1 hi (by omega)]
     exact h1
    |succ j ihj=>
     intro hj m hm hI
     have e1:wrap64 (((j+1:Nat):Int) - 1)=(j:Int):=by rw[w64 (by omega) (by omega)];omega
     have hrd1:rd m ((j+1:Nat):Int)=m.getD (j+1) 0:=rd_getD m (j+1)
     have hrd0:rd m (j:Int)=m.getD j 0:=rd_getD m j
     by_cases hlt:m.getD (j+1) 0<m.getD j 0
     ·obtain⟨r,h1,h2,h3,h4⟩:=ihj (by omega) (sw m j) (by rw[sw_length];exact hm) (hI.next hj (by omega) hlt)
      refine⟨r,Ev.step (fun k=>rfl) (ev_pos (by omega) (ev_pos (by omega) (ev_pos (by omega) (ev_pos (by rw[e1];omega) (ev_pos (by rw[e1];omega) (ev_bindc (less_eq _ _) ?_)))))),h2,h3,fun y=>(h4 y).trans (sw_mem (by omega) y)⟩
      rw[e1,hrd1,hrd0]
      refine ev_pos (decide_eq_true hlt) ?_
      rw[Int.toNat_natCast,Int.toNat_natCast]
      exact h1
     ·obtain⟨r,h1,h2⟩:=ih m hm (hI.stop (by omega))
      refine⟨r,Ev.step (fun k=>rfl) (ev_pos (by omega) (ev_pos (by omega) (ev_pos (by omega) (ev_pos (by rw[e1];omega) (ev_pos (by rw[e1];omega) (ev_bindc (less_eq _ _) ?_)))))),h2⟩
      rw[e1,hrd1,hrd0]
      refine ev_neg (by rw[decide_eq_false hlt];decide) ?_
      rw[w1 hi (by omega)]
      exact h1
   obtain⟨r,h1,h2⟩:=inner i (Nat.le_refl _) m hm (Ins.start hu)
   exact⟨r,Ev.step (fun k=>rfl) (ev_pos (by omega) h1),h2⟩
 have hu1:∀m:List Int,UpTo m 1:=fun m p q h1 h2=>by omega
 have hlen:∃v,bits_Len.f (IntKind.u64.wrap (l.length:Int))=some v:=by
  have:∀n:Fin 9,(bits_Len.f (IntKind.u64.wrap (n.val:Int))).isSome=true:=by decide+kernel
  exact Option.isSome_iff_exists.1 (this ⟨l.length,by omega⟩)
 obtain⟨v,hv⟩:=hlen
 have start:∃r,Ev (fun k=>slices_insertionSortOrdered_int.l0 k l 0 (n:Int) 1) r∧UpTo r n∧r.length=n∧∀y,y∈r↔y∈l:=by
  by_cases h1:1≤n
  ·exact outer 1 h1 l en.symm (hu1 l)
  ·exact⟨l,Ev.step (fun k=>rfl) (ev_neg (by omega) (Ev.now _)),fun p q h1 h2=>by omega,en.symm,fun y=>Iff.rfl⟩
 obtain⟨r,h1,h2,h3,h4⟩:=start
 refine⟨r,?_,by rw[h3];exact h2,by omega,h4⟩
 unfold slices_Sort_int_int.f
 refine ev_bindc hv (Ev.bind ?_ (Ev.now _))
 unfold slices_pdqsortOrdered_int.f
 refine ev_pos (by rw[w64 (by omega) (by omega)];omega) ?_
 unfold slices_insertionSortOrdered_int.f
 rw[show wrap64 ((0:Int)+1)=1 from by decide+kernel,←en]
 exact h1
theorem compact_spec {l:List Int} (hs:UpTo l l.length):(Lib.compact l).Pairwise (·<·)∧∀y,y∈Lib.compact l↔y∈l:=by
 have hd:∀m,m<l.length→l.toArray[m]! =l.getD m 0:=fun m hm=>by simp[hm]
 have key:∀m,m≤l.length→(Lib.compactUpTo l.toArray m).Pairwise (·<·)∧(∀y∈Lib.compactUpTo l.toArray m,∃p,p<m∧l.getD p 0=y)∧∀p,p<m→l.getD p 0∈Lib.compactUpTo l.toArray m:=by
  intro m
  induction m with
  |zero=>intro _;exact⟨List.Pairwise.nil,fun y hy=>by simp[Lib.compactUpTo]at hy,fun p hp=>by omega⟩
  |succ m ih=>
   intro hm
   obtain⟨h1,h2,h3⟩:=ih (by omega)
   rw[Lib.compactUpTo_succ]
   by_cases hk:Lib.keeps l.toArray m=true
   ·rw[if_pos hk,hd m (by omega)]
    refine⟨List.pairwise_append.2 ⟨h1,List.pairwise_singleton _ _,fun y hy z hz=>?_⟩,fun y hy=>?_,fun p hp=>?_⟩
    ·rw[List.mem_singleton.1 hz]
     obtain⟨p,hp,rfl⟩:=h2 y hy
     unfold Lib.keeps at hk
     rw[decide_eq_true_iff]at hk
     rcases hk with hk|hk
     ·omega
     ·rw[hd m (by omega),hd (m - 1) (by omega)]at hk
      have a:=hs (m - 1) m (by omega) (by omega)
      by_cases e:p=m - 1
      ·rw[e];omega
      ·have:=hs p (m - 1) (by omega) (by omega);omega
    ·rcases List.mem_append.1 hy with hy|hy
     ·obtain⟨p,hp,e⟩:=h2 y hy
      exact⟨p,by omega,e⟩
     ·exact⟨m,by omega,(List.mem_singleton.1 hy).symm⟩
    ·rw[List.mem_append]
     by_cases e:p=m
     ·rw[e];exact Or.inr (List.mem_singleton.2 rfl)
     ·exact Or.inl (h3 p (by omega))
   ·rw[if_neg hk,List.append_nil]
    refine⟨h1,fun y hy=>by obtain⟨p,hp,e⟩:=h2 y hy;exact⟨p,by omega,e⟩,fun p hp=>?_⟩
    by_cases e:p=m
    ·unfold Lib.keeps at hk
     rw[decide_eq_true_iff]at hk
     have hk2:l.toArray[m]! =l.toArray[m - 1]! :=by
      by_cases q:l.toArray[m]! =l.toArray[m - 1]!
      ·exact q
      ·exact absurd (Or.inr q) hk
     have hm0:m≠0:=fun q=>hk (Or.inl q)
     rw[hd m (by omega),hd (m - 1) (by omega)]at hk2
     rw[e,hk2]
     exact h3 (m - 1) (by omega)
    ·exact h3 p (by omega)
 obtain⟨h1,h2,h3⟩:=key l.length (Nat.le_refl _)
 refine⟨h1,fun y=>?_⟩
 rw[mem_getD (l:=l)]
 show y∈Lib.compactUpTo l.toArray l.length↔_
 constructor
 ·intro hy
  obtain⟨p,hp,e⟩:=h2 y hy
  exact⟨p,hp,e⟩
 ·rintro⟨p,hp,rfl⟩
  exact h3 p hp
theorem index_ev {c:List Int} (hc:c.Pairwise (·<·)) (h0:∀x∈c,0≤x) (hn:c.length≤100) {x:Int} (hx:x∈c):Ev (fun k=>slices_Index_int_int.f k c x) (lev c x:Int):=by
 unfold slices_Index_int_int.f
 obtain⟨p,hp,rfl⟩:=List.mem_iff_getElem.1 hx
 rw[idx_asc hc h0 hp]
 have hget:=List.pairwise_iff_getElem.1 hc
 have key:∀i,i≤p→Ev (fun k=>slices_Index_int_int.l0 k c c[p] (c.length:Int) (i:Int)) (p:Int):=by
  apply down
  ·exact Ev.step (fun k=>rfl) (ev_pos (by omega) (ev_pos (by omega) (ev_pos (by omega) (ev_pos (rd_at hp).symm (Ev.now _)))))
  ·intro i hi ih
   have hne:¬c[p]=rd c (i:Int):=by rw[rd_at (by omega)];have:=hget i p (by omega) hp hi;omega
   refine Ev.step (fun k=>rfl) (ev_pos (by omega) (ev_pos (by omega) (ev_pos (by omega) (ev_neg hne ?_))))
   rw[w1 (n:=c.length) (by omega) (by omega)]
   exact ih
 exact key 0 (Nat.zero_le _)
theorem tidy_ev {l:List Int} (hn:l.length≤8) (h0:∀x∈l,0≤x):Ev (fun k=>impl_tidy.f k l) (tidyL l):=by
 unfold impl_tidy.f
 obtain⟨r,h1,h2,h3,h4⟩:=sort_ev hn
 obtain⟨c1,c2⟩:=compact_spec h2
 have hcl:=slices_Compact_int_int.len r
 refine ev_bindc rfl (ev_pos (by show 0+l.length<_;omega) ?_)
 rw[List.nil_append]
 refine Ev.bind h1 (ev_bindc rfl ?_)
 obtain⟨c,ec⟩:∃c,c=Lib.compact r:=⟨_,rfl⟩
 rw[←ec]at c1 c2 hcl⊢
 have hcm:∀y,y∈c↔y∈l:=fun y=>(c2 y).trans (h4 y)
 have key:∀i,i≤l.length→Ev (fun k=>impl_tidy.l0 k c ((l.take i).map fun x=>(lev l x:Int)) l (l.length:Int) (i:Int)) (tidyL l):=by
  apply down
  ·refine Ev.step (fun k=>rfl) (ev_neg (by omega) (ev_eq (Ev.now _) ?_))
   rw[List.take_length]
   rfl
  ·intro i hi ih
   have hx:=index_ev c1 (fun x hx=>h0 x ((hcm x).1 hx)) (by omega) ((hcm l[i]).2 (List.getElem_mem hi))
   rw[lev_congr hcm]at hx
   refine Ev.step (fun k=>rfl) (ev_pos (by omega) (ev_pos (by omega) (ev_pos (by omega) ?_)))
   rw[rd_at hi]
   refine Ev.bind hx (ev_pos (by rw[List.length_map,List.length_take];omega) ?_)
   rw[w1 hi (by omega)]
   rw[List.take_succ_eq_append_getElem hi,List.map_append]at ih
   exact ih
 exact key 0 (Nat.zero_le _)
theorem Equal_ev {l m:List Int} (hn:l.length≤9223372036854775807):Ev (fun k=>slices_Equal_int_int.f k l m) (decide (l=m)):=by
 unfold slices_Equal_int_int.f
 by_cases hl:l.length=m.length
 ·refine ev_pos (by omega) ?_
  have key:∀i,i≤l.length→Ev (fun k=>slices_Equal_int_int.l0 k l m (l.length:Int) (i:Int)) (decide (l.drop i=m.drop i)):=by
   apply down
   ·refine Ev.step (fun k=>rfl) (ev_neg (by omega) (ev_eq (Ev.now _) ?_))
    rw[List.drop_length,List.drop_of_length_le (by omega)]
    exact(decide_eq_true rfl).symm
   ·intro i hi ih
    refine Ev.step (fun k=>rfl) (ev_pos (by omega) (ev_pos (by omega) (ev_pos (by omega) (ev_pos (by omega) ?_))))
    rw[rd_at hi,rd_at (by omega),List.drop_eq_getElem_cons hi,List.drop_eq_getElem_cons (l:=m) (by omega)]
    by_cases e:l[i]=m[i]
    ·refine ev_pos e ?_
     rw[w1 hi hn]
     refine ev_eq ih (decide_eq_decide.2 ?_)
     rw[List.cons.injEq]
     exact⟨fun h=>⟨e,h⟩,fun h=>h.2⟩
    ·refine ev_neg e (ev_eq (Ev.now _) ?_)
     rw[decide_eq_false (fun h=>e (List.cons.inj h).1)]
  have:=key 0 (Nat.zero_le _)
  rw[List.drop_zero,List.drop_zero]at this
  exact this
 ·refine ev_neg (by omega) (ev_eq (Ev.now _) ?_)
  rw[decide_eq_false (fun h=>hl (by rw[h]))]
def all (t:Int):Nat:=if t=1 then 3 else if t=2 then 15 else 255
theorem all_lt (t:Int):all t<256:=by unfold all;split<;>(try split)<;>omega
theorem l1All_eq {t:Int} (h:1≤t∧t≤3):spec_l1All.f t=some (all t:Int):=by
 rcases three h with rfl|rfl|rfl<;>decide+kernel
theorem allWorlds_eq {t:Int} (h:1≤t∧t≤3):impl_allWorlds.f t=some (all t:Int):=by
 rcases three h with rfl|rfl|rfl<;>decide+kernel
def setOk (t s:Int):Bool:=decide ((1≤t∧t≤3)∧0≤s∧s≤all t)
theorem setOk_nat {t s:Int} (h:setOk t s=true):∃n:Nat,s=n∧n<256∧n≤all t∧1≤t∧t≤3:=by
 have k:=of_decide_eq_true h
 have:=all_lt t
 exact⟨s.toNat,by omega,by omega,by omega,k.1.1,k.1.2⟩
theorem l1Bit_eq (s w:Nat) (h:w≤62):spec_l1Bit.f (s:Int) (w:Int)=some ((bi s w:Nat):Int):=by
 unfold spec_l1Bit.f
 rw[if_pos (by omega),mod_bit s w h]
theorem bi_mul (a b i:Nat):bi a i*bi b i=bi (a&&& b) i:=by
 rw[bi_bit,bi_bit,bi_bit,Nat.testBit_and]
 cases a.testBit i<;>cases b.testBit i<;>rfl
theorem bi_le (a i:Nat):bi a i≤1:=by
 have:bi a i<2:=Nat.mod_lt _ (by decide)
 omega
theorem l1Both_ev {a b:Nat} (ha:a<256):Ev (fun k=>spec_l1Both.f k (a:Int) (b:Int)) ((a&&& b:Nat):Int):=by
 unfold spec_l1Both.f
 have key:∀(i:Nat),i≤8→Ev (fun k=>spec_l1Both.l0 k (a:Int) (b:Int) (((a&&& b)%2^i:Nat):Int) (i:Int)) ((a&&& b:Nat):Int):=by
  apply down
  ·refine Ev.step (fun k=>rfl) (ev_neg (by omega) (ev_eq (Ev.now _) ?_))
   have:a&&& b<2^8:=Nat.lt_of_le_of_lt Nat.and_le_left ha
   rw[Nat.mod_eq_of_lt this]
  ·intro i hi ih
   refine Ev.step (fun k=>rfl) (ev_pos (by omega) (ev_bindc (l1Bit_eq a i (by omega)) (ev_bindc (l1Bit_eq b i (by omega)) (ev_pos (by omega) ?_))))
   have hp:(2:Nat)^i≤2^7:=Nat.pow_le_pow_right (by decide) (by omega)
   have hm:(a&&& b)%2^i<2^i:=Nat.mod_lt _ (Nat.two_pow_pos i)
   have hle:=bi_le (a&&& b) i
   have e1:wrap64 (((bi a i:Nat):Int)*((bi b i:Nat):Int))=((bi (a&&& b) i:Nat):Int):=by
    rw[←Int.natCast_mul,bi_mul]
    exact w64 (by omega) (by omega)
   have hmul:2^i*bi (a&&& b) i≤2^7:=by
    have:=Nat.mul_le_mul hp hle
    omega
   have e2:wrap64 ((((a&&& b)%2^i:Nat):Int)+shl .i64 ((bi (a&&& b) i:Nat):Int) (i:Int))=(((a&&& b)%2^(i+1):Nat):Int):=by
    rw[shlx _ i (by omega),←Int.natCast_mul,Nat.mul_comm,bit_mod]
    generalize 2^i*bi (a&&& b) i=z at hmul
    generalize(a&&& b)%2^i=y at hm
    generalize 2^i=p at hp hm
    rw[w64 (n:=((z:Nat):Int)) (by omega) (by omega),w64 (by omega) (by omega)]
    omega
   rw[e1,e2,w1 hi (by omega)]
   exact ih
 have:=key 0 (Nat.zero_le _)
 simpa [Nat.mod_one] using this
theorem add_pow {S i:Nat} (h:S<2^i):S+2^i=S|||2^i:=by
 have:=Nat.two_pow_add_eq_or_of_lt h 1
 rw[Nat.mul_one]at this
 rw[Nat.add_comm,this,Nat.or_comm]
theorem add_bit {S i:Nat} (h:S<2^i) (j:Nat):(S+2^i).testBit j=(S.testBit j||decide (i=j)):=by
 rw[add_pow h,Nat.testBit_or,Nat.testBit_two_pow]
theorem setThat_l {p:Int→Option Bool} {q:Nat→Bool}:∀(n x s:Nat),x+n≤8→s<2^x→(∀y:Nat,y<x+n→p (y:Int)=some (q y))→
  ∃r:Nat,impl_setThat.l p n (x:Int) (s:Int)=some (r:Int)∧r<2^(x+n)∧∀w,r.testBit w=true↔s.testBit w=true∨(x≤w∧w<x+n∧q w=true)
 |0,x,s,_,hs,_=>⟨s,rfl,hs,fun w=>⟨Or.inl,fun h=>h.resolve_right fun k=>by omega⟩⟩
 |n+1,x,s,h8,hs,hp=>by
  have hx:2^x≤2^7:=Nat.pow_le_pow_right (by decide) (by omega)
  have hx2:2^(x+1)=2^x+2^x:=by rw[Nat.pow_succ];omega
  have hcast:(x:Int)+1=((x+1:Nat):Int):=by omega
  by_cases hq:q x=true
  ·obtain⟨r,h1,h2,h3⟩:=setThat_l n (x+1) (s+2^x) (by omega) (by omega) (fun y hy=>hp y (by omega))
   refine⟨r,?_,by rw[show x+(n+1)=x+1+n from by omega];exact h2,fun w=>?_⟩
   ·show((p (x:Int)).bind fun b=>_)=_
    rw[hp x (by omega),Option.bind_some,hq,if_pos rfl,shl1 x (by omega),bor _ _ (by omega) (by omega),←add_pow hs,hcast]
    exact h1
   ·rw[h3,add_bit hs,Bool.or_eq_true,decide_eq_true_iff]
    constructor
    ·rintro((k|rfl)|k)
     ·exact Or.inl k
     ·exact Or.inr ⟨by omega,by omega,hq⟩
     ·exact Or.inr ⟨by omega,by omega,k.2.2⟩
    ·rintro(k|⟨k1,k2,k3⟩)
     ·exact Or.inl (Or.inl k)
     ·by_cases e:x=w
      ·exact Or.inl (Or.inr e)
      ·exact Or.inr ⟨by omega,by omega,k3⟩
  ·obtain⟨r,h1,h2,h3⟩:=setThat_l n (x+1) s (by omega) (by omega) (fun y hy=>hp y (by omega))
   refine⟨r,?_,by rw[show x+(n+1)=x+1+n from by omega];exact h2,fun w=>?_⟩
   ·show((p (x:Int)).bind fun b=>_)=_
    rw[hp x (by omega),Option.bind_some,if_neg hq,hcast]
    exact h1
   ·rw[h3]
    constructor
    ·rintro(k|k)
     ·exact Or.inl k
     ·exact Or.inr ⟨by omega,by omega,k.2.2⟩
    ·rintro(k|⟨k1,k2,k3⟩)
     ·exact Or.inl k
     ·by_cases e:x=w
      ·rw[←e]at k3;exact absurd k3 hq
      ·exact Or.inr ⟨by omega,by omega,k3⟩
/-! ### the least rank of a set's worlds -/
def minFrom (l:List Int) (s:Nat):Nat→Nat→Int→Int
 |0,_,m=>m
 |d+1,i,m=>minFrom l s d (i+1) (if s.testBit i=true then mn m (l.getD i 0)else m)
def leastOf (l:List Int) (s:Nat):Int:=minFrom l s l.length 0 10
def bset (q:Nat→Bool):Nat→Nat
 |0=>0
 |n+1=>bset q n+(if q n=true then 2^n else 0)
theorem bset_lt (q:Nat→Bool):∀n,bset q n<2^n
 |0=>Nat.one_pos
 |n+1=>by
  have h:=bset_lt q n
  unfold bset
  rw[Nat.pow_succ]
  split<;>omega
theorem bset_bit (q:Nat→Bool) (w:Nat):∀n,(bset q n).testBit w=(decide (w<n)&&q w)
 |0=>by simp[bset]
 |n+1=>by
  have h:=bset_bit q w n
  unfold bset
  by_cases hq:q n=true
  ·rw[if_pos hq,add_bit (bset_lt q n),h]
   by_cases e:n=w
   ·subst e;simp[hq]
   ·rw[decide_eq_false e,Bool.or_false]
    congr 1
    exact decide_eq_decide.2 (by omega)
  ·rw[if_neg hq,Nat.add_zero,h]
   by_cases e:n=w
   ·subst e
    have:q n=false:=by simpa using hq
    simp[this]
   ·congr 1
    exact decide_eq_decide.2 (by omega)
def leastSet (l:List Int) (s:Nat):Nat:=bset (fun w=>s.testBit w&&decide (l.getD w 0=leastOf l s)) l.length
theorem minFrom_bd (l:List Int) (s:Nat) (h:∀x∈l,0≤x):∀(d i:Nat) (m:Int),0≤m→m≤10→0≤minFrom l s d i m∧minFrom l s d i m≤10
 |0,_,m,h0,h1=>⟨h0,h1⟩
 |d+1,i,m,h0,h1=>by
  unfold minFrom
  have hg:0≤l.getD i 0:=by
   by_cases hi:i<l.length
   ·rw[List.getD_eq_getElem?_getD,List.getElem?_eq_getElem hi];exact h _ (List.getElem_mem hi)
   ·rw[List.getD_eq_getElem?_getD,List.getElem?_eq_none (by omega)];exact Int.le_refl _
  obtain⟨a,b,c⟩:=mn_cases m (l.getD i 0)
  split
  ·exact minFrom_bd l s h d (i+1) _ (by omega) (by omega)
  ·exact minFrom_bd l s h d (i+1) _ h0 h1
theorem surprise_ev {l:List Int} (hn:l.length≤60) {s:Nat} (hs:s<256):Ev (fun k=>impl_surpriseOf.f k l (s:Int)) (leastOf l s):=by
 unfold impl_surpriseOf.f leastOf
 have key:∀i,i≤l.length→∀m:Int,Ev (fun k=>impl_surpriseOf.l0 k (s:Int) m l (l.length:Int) (i:Int)) (minFrom l s (l.length - i) i m):=by
  apply down
  ·intro m
   rw[Nat.sub_self]
   exact Ev.step (fun k=>rfl) (ev_neg (by omega) (Ev.now _))
  ·intro i hi ih m
   rw[show l.length - i=(l.length - (i+1))+1 from by omega]
   unfold minFrom
   refine Ev.step (fun k=>rfl) (ev_pos (by omega) (ev_pos (by omega) (ev_pos (by omega) ?_)))
   rw[and_bit s i (by omega) (by omega),w1 hi (by omega),rd_getD]
   by_cases hb:s.testBit i=true
   ·rw[if_pos hb]
    exact ev_pos (bi_one.2 hb) (ih _)
   ·rw[if_neg hb]
    exact ev_neg (fun k=>hb (bi_one.1 k)) (ih _)
 exact key 0 (Nat.zero_le _) 10
theorem revised_ev {t:Int} (ht:1≤t∧t≤3) {l:List Int} (hl:l.length=wn t) {s:Nat} (hs:s<2^wn t):Ev (fun k=>impl_revisedBy.f k t l (s:Int)) ((leastSet l s:Nat):Int):=by
 have h8:=(wn_le t).1
 have hs8:s<256:=Nat.lt_of_lt_of_le hs (Nat.pow_le_pow_right (n:=2) (by decide) h8)
 unfold impl_revisedBy.f
 refine Ev.bind (surprise_ev (by omega) hs8) ?_
 have hp:∀y:Nat,y<0+wn t→impl_revisedBy.p l (leastOf l s) (y:Int)=some (decide (l.getD y 0=leastOf l s)):=by
  intro y hy
  unfold impl_revisedBy.p
  rw[if_pos (by omega),if_pos (by omega),rd_getD]
 obtain⟨r,h1,h2,h3⟩:=setThat_l (p:=impl_revisedBy.p l (leastOf l s)) (q:=fun y=>decide (l.getD y 0=leastOf l s)) (wn t) 0 0 (by omega) Nat.one_pos hp
 have hf:impl_setThat.f (impl_revisedBy.p l (leastOf l s)) t=some (r:Int):=by
  unfold impl_setThat.f
  rw[if_pos (by omega),if_pos (by omega),show 2^t.toNat=wn t from by rcases three ht with rfl|rfl|rfl<;>rfl]
  exact h1
 refine ev_bindc hf (ev_eq (Ev.now _) ?_)
 rw[Nat.zero_add]at h2
 have hr8:r<256:=Nat.lt_of_lt_of_le h2 (Nat.pow_le_pow_right (n:=2) (by decide) (by omega))
 rw[band s r (Nat.lt_trans hs8 (by decide)) (Nat.lt_trans hr8 (by decide))]
 congr 1
 apply Nat.eq_of_testBit_eq
 intro w
 unfold leastSet
 rw[Nat.testBit_and,bset_bit,hl]
 have hb:=h3 w
 rw[Nat.zero_testBit]at hb
 by_cases hw:w<wn t
 ·rw[decide_eq_true hw,Bool.true_and]
  congr 1
  rw[Bool.eq_iff_iff,hb]
  constructor
  ·rintro(k|k)
   ·cases k
   ·exact k.2.2
  ·intro k
   exact Or.inr ⟨Nat.zero_le _,by omega,k⟩
 ·have hf:r.testBit w=false:=by
   rw[Bool.eq_false_iff]
   intro k
   rcases hb.1 k with k|k
   ·cases k
   ·omega
  rw[decide_eq_false hw,hf,Bool.and_false,Bool.false_and]
theorem l2Least_ev {l:List Int} (hn:l.length≤8) (s:Nat):Ev (fun k=>spec_l2Least.f k l (s:Int)) ((leastSet l s:Nat):Int):=by
 unfold spec_l2Least.f
 have two:∀i,i≤l.length→Ev (fun k=>spec_l2Least.l1 k l (s:Int) (leastOf l s) ((bset (fun w=>s.testBit w&&decide (l.getD w 0=leastOf l s)) i:Nat):Int) (i:Int)) ((leastSet l s:Nat):Int):=by
  apply down
  ·exact Ev.step (fun k=>rfl) (ev_neg (by omega) (Ev.now _))
  ·intro i hi ih
   have hb:=bset_lt (fun w=>s.testBit w&&decide (l.getD w 0=leastOf l s)) i
   have hp:2^i≤2^7:=Nat.pow_le_pow_right (by decide) (by omega)
   refine Ev.step (fun k=>rfl) (ev_pos (by omega) (ev_bindc (l1Bit_eq s i (by omega)) ?_))
   rw[w1 hi (by omega)]
   unfold bset at ih
   by_cases hbit:s.testBit i=true
   ·refine ev_pos (bi_one.2 hbit) (ev_pos (by omega) ?_)
    rw[rd_getD]
    by_cases he:l.getD i 0=leastOf l s
    ·refine ev_pos he ?_
     rw[shl1 i (by omega),w64 (by omega) (by omega)]
     rw[if_pos (by rw[hbit,decide_eq_true he];rfl)]at ih
     exact ih
    ·refine ev_neg he ?_
     rw[if_neg (by rw[decide_eq_false he,Bool.and_false];decide)]at ih
     exact ih
   ·refine ev_neg (fun k=>hbit (bi_one.1 k)) ?_
    rw[if_neg (by simp[hbit])]at ih
    exact ih
 have one:∀i,i≤l.length→∀m:Int,minFrom l s (l.length - i) i m=leastOf l s→Ev (fun k=>spec_l2Least.l0 k l (s:Int) m (i:Int)) ((leastSet l s:Nat):Int):=by
  apply down
  ·intro m hm
   rw[Nat.sub_self]at hm
   have:m=leastOf l s:=hm
   rw[this]
   exact Ev.step (fun k=>rfl) (ev_neg (by omega) (two 0 (Nat.zero_le _)))
  ·intro i hi ih m hm
   rw[show l.length - i=(l.length - (i+1))+1 from by omega]at hm
   unfold minFrom at hm
   refine Ev.step (fun k=>rfl) (ev_pos (by omega) (ev_bindc (l1Bit_eq s i (by omega)) ?_))
   rw[w1 hi (by omega)]
   by_cases hbit:s.testBit i=true
   ·refine ev_pos (bi_one.2 hbit) (ev_pos (by omega) ?_)
    rw[rd_getD]
    rw[if_pos hbit]at hm
    exact ih _ hm
   ·refine ev_neg (fun k=>hbit (bi_one.1 k)) ?_
    rw[if_neg hbit]at hm
    exact ih _ hm
 exact one 0 (Nat.zero_le _) 10 rfl
/-! ### raised ranks -/
def raise (l:List Int) (F:Nat):List Int:=l.mapIdx fun w r=>if F.testBit w=true then r else r+10
theorem raise_length (l:List Int) (F:Nat):(raise l F).length=l.length:=List.length_mapIdx
theorem raise_at (l:List Int) (F:Nat) {i:Nat} (h:i<l.length):(raise l F)[i]'(by rw[raise_length];exact h)=if F.testBit i=true then l[i]else l[i]+10:=by
 unfold raise
 rw[List.getElem_mapIdx]
theorem raise_mem {l:List Int} {F:Nat} {y:Int} (h:y∈raise l F):∃x∈l,y=x∨y=x+10:=by
 obtain⟨i,hi,rfl⟩:=List.mem_iff_getElem.1 h
 rw[raise_length]at hi
 rw[raise_at l F hi]
 refine⟨l[i],List.getElem_mem hi,?_⟩
 split
 ·exact Or.inl rfl
 ·exact Or.inr rfl
def chg (l:List Int) (way:Int) (s:Nat):List Int:=tidyL (raise l (if way=0 then leastSet l s else s))
theorem leastSet_lt {l:List Int} (hn:l.length≤8) (s:Nat):leastSet l s<256:=Nat.lt_of_lt_of_le (bset_lt _ _) (Nat.pow_le_pow_right (n:=2) (by decide) hn)
theorem changed_ev {t:Int} (ht:1≤t∧t≤3) {l:List Int} (hl:l.length=wn t) (hx:∀x∈l,0≤x∧x≤9) {s:Nat} (hs:s<2^wn t) (way:Int):Ev (fun k=>impl_changedBy.f k t l way (s:Int)) (chg l way s):=by
 have h8:=(wn_le t).1
 have hs8:s<256:=Nat.lt_of_lt_of_le hs (Nat.pow_le_pow_right (n:=2) (by decide) h8)
 have go:∀F:Nat,F<256→Ev (fun k=>impl_changedBy.j0 k l (F:Int)) (tidyL (raise l F)):=by
  intro F hF
  have ht8:=tidy_ev (l:=raise l F) (by rw[raise_length];omega) (fun y hy=>by obtain⟨x,h1,h2⟩:=raise_mem hy;have:=hx x h1;omega)
  have key:∀i,i≤l.length→Ev (fun k=>impl_changedBy.l0 k (F:Int) ((raise l F).take i) l (l.length:Int) (i:Int)) (tidyL (raise l F)):=by
   apply down
   ·refine Ev.step (fun k=>rfl) (ev_neg (by omega) ?_)
    rw[List.take_of_length_le (by rw[raise_length];omega)]
    exact Ev.bind ht8 (Ev.now _)
   ·intro i hi ih
    have hi2:i<(raise l F).length:=by rw[raise_length];exact hi
    have hlen:((raise l F).take i).length<17592186044416:=by rw[List.length_take];omega
    have hxi:=hx _ (List.getElem_mem hi)
    rw[List.take_succ_eq_append_getElem hi2,raise_at l F hi]at ih
    refine Ev.step (fun k=>rfl) (ev_pos (by omega) (ev_pos (by omega) (ev_pos (by omega) ?_)))
    rw[and_bit F i (by omega) (by omega),w1 hi (by omega),rd_at hi]
    by_cases hb:F.testBit i=true
    ·rw[if_pos hb]at ih
     exact ev_neg (fun k=>by rw[bi_zero.1 k]at hb;cases hb) (ev_pos hlen ih)
    ·rw[if_neg hb]at ih
     refine ev_pos (bi_zero.2 (by simpa using hb)) (ev_pos hlen ?_)
     rw[w64 (by omega) (by omega)]
     exact ih
  exact Ev.step (f:=fun k=>impl_changedBy.l0 k (F:Int) (([]:List Int)) l (l.length:Int) 0) (fun k=>rfl) (key 0 (Nat.zero_le _))
 unfold impl_changedBy.f chg
 by_cases hw:way=0
 ·rw[if_pos hw]
  exact ev_pos hw (Ev.bind (revised_ev ht hl hs) (go _ (leastSet_lt (by omega) s)))
 ·rw[if_neg hw]
  exact ev_neg hw (go s hs8)
/-! ### the reference's tidying -/
theorem l6Tidy_ev {l:List Int} (hn:l.length≤8) (h0:∀x∈l,0≤x):Ev (fun k=>spec_l6Tidy.f k l) (tidyL l):=by
 unfold spec_l6Tidy.f
 have three_:∀(out:List Int) (w:Nat) (seen:List Int) (v:Nat) (hv:v<l.length) (res:List Int),seen.length≤100→∀j,j≤seen.length→∀b:Bool,
   Ev (fun k=>spec_l6Tidy.l1 k l out (w:Int) (if b=true∨l[v]∈seen.drop j then seen else seen++ [l[v]]) ((v+1:Nat):Int)) res→Ev (fun k=>spec_l6Tidy.l2 k l out (w:Int) seen (v:Int) b (j:Int)) res:=by
  intro out w seen v hv res hs
  apply down (P:=fun j=>∀b:Bool,Ev (fun k=>spec_l6Tidy.l1 k l out (w:Int) (if b=true∨l[v]∈seen.drop j then seen else seen++ [l[v]]) ((v+1:Nat):Int)) res→Ev (fun k=>spec_l6Tidy.l2 k l out (w:Int) seen (v:Int) b (j:Int)) res)
  ·intro b hb
   refine Ev.step (fun k=>rfl) (ev_neg (by omega) ?_)
   rw[List.drop_length]at hb
   cases b with
   |true=>
    refine ev_pos rfl ?_
    rw[w1 hv (by omega)]
    rw[if_pos (Or.inl rfl)]at hb
    exact hb
   |false=>
    refine ev_neg (by decide) (ev_pos (by omega) (ev_pos (by omega) (ev_pos (by omega) ?_)))
    rw[w1 hv (by omega),rd_at hv]
    rw[if_neg (by simp)]at hb
    exact hb
  ·intro j hj ih b hb
   rw[List.drop_eq_getElem_cons hj]at hb
   refine Ev.step (fun k=>rfl) (ev_pos (by omega) ?_)
   cases b with
   |true=>
    refine ev_pos rfl ?_
    rw[w1 hj (by omega)]
    refine ih true ?_
    rw[if_pos (Or.inl rfl)]at hb⊢
    exact hb
   |false=>
    refine ev_neg (by decide) (ev_pos (by omega) (ev_pos (by omega) (ev_pos (by omega) ?_)))
    rw[w1 hj (by omega),rd_at hj,rd_at hv]
    refine ih _ ?_
    have:((seen[j]==l[v])=true∨l[v]∈seen.drop (j+1))↔(false=true∨l[v]∈seen[j]::seen.drop (j+1)):=by
     rw[List.mem_cons,beq_iff_eq]
     constructor
     ·rintro(h|h)
      ·exact Or.inr (Or.inl h.symm)
      ·exact Or.inr (Or.inr h)
     ·rintro(h|h|h)
      ·cases h
      ·exact Or.inl h.symm
      ·exact Or.inr h
    simp only[this]
    exact hb
 have two:∀(out:List Int) (w:Nat) (hw:w<l.length) (res:List Int),out.length≤100→Ev (fun k=>spec_l6Tidy.l0 k l (out++ [(lev l l[w]:Int)]) ((w+1:Nat):Int)) res→
   ∀v,v≤l.length→∀seen:List Int,seen.Nodup→seen.length≤v→(∀y,y∈seen↔y∈l.take v∧y<l[w])→Ev (fun k=>spec_l6Tidy.l1 k l out (w:Int) seen (v:Int)) res:=by
  intro out w hw res ho hres
  have hw0:=h0 _ (List.getElem_mem hw)
  apply down
  ·intro seen hd _ hm
   refine Ev.step (fun k=>rfl) (ev_neg (by omega) (ev_pos (by omega) ?_))
   rw[w1 hw (by omega)]
   have e:seen.length=lev l l[w]:=nodup_cnt _ seen hd (fun y=>by
    rw[hm y,List.take_length]
    constructor
    ·rintro⟨a,b⟩;exact⟨a,h0 y a,by omega⟩
    ·rintro⟨a,b,c⟩;exact⟨a,by omega⟩)
   rw[e]
   exact hres
  ·intro v hv ih seen hd hsl hm
   have hv0:=h0 _ (List.getElem_mem hv)
   refine Ev.step (fun k=>rfl) (ev_pos (by omega) (ev_pos (by omega) (ev_pos (by omega) (ev_pos (by omega) ?_))))
   rw[rd_at hv,rd_at hw]
   refine three_ out w seen v hv res (by omega) 0 (Nat.zero_le _) _ ?_
   rw[List.drop_zero]
   have hmem:∀y,y∈l.take (v+1)↔y∈l.take v∨y=l[v]:=fun y=>by rw[List.take_succ_eq_append_getElem hv,List.mem_append,List.mem_singleton]
   by_cases hc:decide (l[v]≥l[w])=true∨l[v]∈seen
   ·rw[if_pos hc]
    refine ih seen hd (by omega) (fun y=>?_)
    rw[hm y,hmem y]
    constructor
    ·rintro⟨a,b⟩;exact⟨Or.inl a,b⟩
    ·rintro⟨a|a,b⟩
     ·exact⟨a,b⟩
     ·rcases hc with hc|hc
      ·have:=of_decide_eq_true hc;omega
      ·have:=(hm _).1 hc;rw[a];exact⟨this.1,by omega⟩
   ·rw[if_neg hc]
    have h1:¬l[v]≥l[w]:=fun k=>hc (Or.inl (decide_eq_true k))
    have h2:l[v]∉seen:=fun k=>hc (Or.inr k)
    refine ih (seen++ [l[v]]) ?_ (by rw[List.length_append,List.length_singleton];omega) (fun y=>?_)
    ·rw[List.nodup_append]
     refine⟨hd,by simp,fun a ha b hb=>?_⟩
     rw[List.mem_singleton.1 hb]
     intro e
     exact h2 (e▸ha)
    ·rw[List.mem_append,List.mem_singleton,hm y,hmem y]
     constructor
     ·rintro(⟨a,b⟩|a)
      ·exact⟨Or.inl a,b⟩
      ·exact⟨Or.inr a,by omega⟩
     ·rintro⟨a|a,b⟩
      ·exact Or.inl ⟨a,b⟩
      ·exact Or.inr a
 have one:∀w,w≤l.length→Ev (fun k=>spec_l6Tidy.l0 k l ((l.take w).map fun x=>(lev l x:Int)) (w:Int)) (tidyL l):=by
  apply down
  ·refine Ev.step (fun k=>rfl) (ev_neg (by omega) (ev_eq (Ev.now _) ?_))
   rw[List.take_length]
   rfl
  ·intro w hw ih
   rw[List.take_succ_eq_append_getElem hw,List.map_append]at ih
   exact Ev.step (fun k=>rfl) (ev_pos (by omega) (two _ w hw _ (by rw[List.length_map,List.length_take];omega) ih 0 (Nat.zero_le _) [] List.nodup_nil (Nat.le_refl _) (fun y=>by simp)))
 exact one 0 (Nat.zero_le _)
theorem l6Rise_ev {l:List Int} (hn:l.length≤8) (hx:∀x∈l,0≤x∧x≤9) (F:Nat):Ev (fun k=>spec_l6Rise.f k l (F:Int)) (tidyL (raise l F)):=by
 unfold spec_l6Rise.f
 have ht8:=l6Tidy_ev (l:=raise l F) (by rw[raise_length];omega) (fun y hy=>by obtain⟨x,h1,h2⟩:=raise_mem hy;have:=hx x h1;omega)
 have key:∀i,i≤l.length→Ev (fun k=>spec_l6Rise.l0 k l (F:Int) ((raise l F).take i) (i:Int)) (tidyL (raise l F)):=by
  apply down
  ·refine Ev.step (fun k=>rfl) (ev_neg (by omega) ?_)
   rw[List.take_of_length_le (by rw[raise_length];omega)]
   exact Ev.bind ht8 (Ev.now _)
  ·intro i hi ih
   have hi2:i<(raise l F).length:=by rw[raise_length];exact hi
   have hlen:((raise l F).take i).length<17592186044416:=by rw[List.length_take];omega
   have hxi:=hx _ (List.getElem_mem hi)
   rw[List.take_succ_eq_append_getElem hi2,raise_at l F hi]at ih
   refine Ev.step (fun k=>rfl) (ev_pos (by omega) (ev_pos (by omega) (ev_bindc (l1Bit_eq F i (by omega)) (ev_pos hlen ?_))))
   rw[w1 hi (by omega),rd_at hi,bi_bit]
   by_cases hb:F.testBit i=true
   ·rw[if_pos hb]at ih⊢
    rw[show wrap64 (l[i]+wrap64 (wrap64 (1 - ((1:Nat):Int))*10))=l[i] from by rw[w64 (n:=1 - ((1:Nat):Int)) (by omega) (by omega),w64 (n:=(1 - ((1:Nat):Int))*10) (by omega) (by omega),w64 (by omega) (by omega)];omega]
    exact ih
   ·rw[if_neg hb]at ih⊢
    rw[show wrap64 (l[i]+wrap64 (wrap64 (1 - ((0:Nat):Int))*10))=l[i]+10 from by rw[w64 (n:=1 - ((0:Nat):Int)) (by omega) (by omega),w64 (n:=(1 - ((0:Nat):Int))*10) (by omega) (by omega),w64 (by omega) (by omega)];omega]
    exact ih
 exact key 0 (Nat.zero_le _)
theorem SetOk_eq (t s:Int):spec_SetOk.f t s=some (setOk t s):=by
 unfold spec_SetOk.f setOk
 rw[l1In_eq,Option.bind_some]
 by_cases h:1≤t∧t≤3
 ·rw[decide_eq_true h,if_pos rfl,l1All_eq h,Option.bind_some,l1In_eq,Option.bind_some]
  congr 1
  exact decide_eq_decide.2 ⟨fun k=>⟨h,k⟩,fun k=>k.2⟩
 ·rw[decide_eq_false h,if_neg (by decide)]
  congr 1
  symm
  exact decide_eq_false (fun k=>h k.1)
def tset (c:Nat):Nat→Nat
 |0=>0
 |w+1=>tset c w+2^w*bi w c
theorem tset_lt (c:Nat):∀w,tset c w<2^w
 |0=>Nat.one_pos
 |w+1=>by
  have h:=tset_lt c w
  have hb:bi w c≤1:=bi_le w c
  show tset c w+2^w*bi w c<_
  rw[Nat.pow_succ]
  have:2^w*bi w c≤2^w*1:=Nat.mul_le_mul_left _ hb
  omega
theorem all_wn {t:Int} (h:1≤t∧t≤3):all t+1=2^wn t:=by rcases three h with rfl|rfl|rfl<;>decide
theorem wn_8 (t:Int):2^wn t≤256:=Nat.pow_le_pow_right (n:=2) (by decide) (wn_le t).1
def opS (t:Int) (b:Int) (x y:Nat):Option Nat:=if b=38 then some (x&&& y)else if b=124 then some (x|||y)else if b=62 then some ((all t^^^x)|||y)else none
def rdS (t:Int) (s:ByteArray):Nat→Nat→Option (Nat×Nat)
 |0,_=>none
 |n+1,i=>if i<s.size then
   (if bt s i=49 then some (all t,i+1)else if bt s i=48 then some (0,i+1)
   else if 97≤bt s i∧bt s i - 97<t then some (tset (bt s i - 97).toNat (wn t),i+1)
   else if bt s i=33 then(rdS t s n (i+1)).map fun x=>(all t^^^x.1,x.2)
   else if bt s i=40 then(rdS t s n (i+1)).bind fun x=>if x.2<s.size then(rdS t s n (x.2+1)).bind fun y=>if y.2<s.size∧bt s y.2=41 then(opS t (bt s x.2) x.1 y.1).map fun z=>(z,y.2+1)else none else none
   else none)else none
theorem xor_lt {t:Int} (h:1≤t∧t≤3) {a:Nat} (ha:a<2^wn t):all t^^^a<2^wn t:=Nat.xor_lt_two_pow (by have:=all_wn h;omega) ha
theorem opS_lt {t:Int} (h:1≤t∧t≤3) {b:Int} {x y z:Nat} (hx:x<2^wn t) (hy:y<2^wn t) (hz:opS t b x y=some z):z<2^wn t:=by
 unfold opS at hz
 split at hz
 ·cases hz;exact Nat.lt_of_le_of_lt Nat.and_le_left hx
 split at hz
 ·cases hz;exact Nat.or_lt_two_pow hx hy
 split at hz
 ·cases hz;exact Nat.or_lt_two_pow (xor_lt h hx) hy
 ·cases hz
theorem rdS_range {t:Int} (ht:1≤t∧t≤3) (s:ByteArray):∀(n i:Nat) (x:Nat×Nat),rdS t s n i=some x→x.1<2^wn t∧i<x.2∧x.2≤s.size:=by
 intro n
 induction n with
 |zero=>intro i x h;cases h
 |succ n ih=>
  intro i x h
  unfold rdS at h
  by_cases hlt:i<s.size
  ·rw[if_pos hlt]at h
   split at h
   ·cases h;exact⟨by have:=all_wn ht;show all t<_;omega,by show i<i+1;omega,by show i+1≤_;omega⟩
   split at h
   ·cases h;exact⟨Nat.two_pow_pos _,by show i<i+1;omega,by show i+1≤_;omega⟩
   split at h
   ·cases h;exact⟨tset_lt _ _,by show i<i+1;omega,by show i+1≤_;omega⟩
   split at h
   ·obtain⟨y,hy,rfl⟩:=Option.map_eq_some_iff.1 h
    obtain⟨a,b,c⟩:=ih _ _ hy
    exact⟨xor_lt ht a,by show i<y.2;omega,c⟩
   split at h
   ·obtain⟨y,hy,h⟩:=Option.bind_eq_some_iff.1 h
    obtain⟨a,b,c⟩:=ih _ _ hy
    split at h
    ·obtain⟨z,hz,h⟩:=Option.bind_eq_some_iff.1 h
     obtain⟨a',b',c'⟩:=ih _ _ hz
     split at h
     ·rename_i hc
      obtain⟨v,hv,rfl⟩:=Option.map_eq_some_iff.1 h
      exact⟨opS_lt ht a a' hv,by show i<z.2+1;omega,by show z.2+1≤_;omega⟩
     ·cases h
    ·cases h
   ·cases h
  ·rw[if_neg hlt]at h
   cases h
theorem sub_xor {t:Int} (ht:1≤t∧t≤3) {a:Nat} (ha:a<2^wn t):all t - a=all t^^^a:=by
 rcases three ht with rfl|rfl|rfl
 ·exact(by decide:∀a:Fin 4,3 - a.val=3^^^a.val) ⟨a,ha⟩
 ·exact(by decide:∀a:Fin 16,15 - a.val=15^^^a.val) ⟨a,ha⟩
 ·exact(by decide+kernel:∀a:Fin 256,255 - a.val=255^^^a.val) ⟨a,ha⟩
theorem add_and_or {a b:Nat} (ha:a<256) (hb:b<256):a+b - (a&&& b)=a|||b:=
 (by decide+kernel:∀a b:Fin 256,a.val+b.val - (a.val&&& b.val)=a.val|||b.val) ⟨a,ha⟩ ⟨b,hb⟩
theorem either_ev {a b:Nat} (ha:a<256) (hb:b<256):Ev (fun k=>spec_l1Either.f k (a:Int) (b:Int)) ((a|||b:Nat):Int):=by
 refine Ev.bind (l1Both_ev (b:=b) ha) (ev_eq (Ev.now _) ?_)
 have h1:a&&& b≤a:=Nat.and_le_left
 rw[←add_and_or ha hb,w64 (n:=(a:Int)+b) (by omega) (by omega),w64 (by omega) (by omega)]
 omega
def outS:Option (Nat×Nat)→Int×Int
 |some x=>((x.1:Int),(x.2:Int))
 |none=>(-1, -1)
theorem tset_step:∀c:Fin 3,∀w:Fin 8,wrap64 ((tset c.val w.val:Nat)+(shl .i64 (Int.tmod (shr .i64 (w.val:Int) (((97+(c.val:Int)) - 97)%256)) 2) (w.val:Int)))=((tset c.val (w.val+1):Nat):Int):=by decide+kernel
theorem sub9 {z i m n:Nat} (h:z - i≤n+1) (h1:i<m):z - (m+1)≤n:=by omega
theorem le9 {z:Nat} (h:z≤1000000000):z≤9223372036854775807:=by omega
set_option maxHeartbeats 2000000 in
theorem l1Read_ev {t:Int} (ht:1≤t∧t≤3) (s:ByteArray) (hs:s.size≤1000000000):∀(n:Nat) (i:Nat),s.size - i≤n→Ev (fun k=>spec_l1Read.f k t s (i:Int)) (outS (rdS t s n i)):=by
 intro n
 induction n with
 |zero=>
  intro i hi
  exact Ev.step (fun k=>rfl) (ev_pos (by omega) (Ev.now _))
 |succ n ih=>
  intro i hi
  unfold rdS
  by_cases hge:(i:Int)≥(s.size:Int)
  ·rw[if_neg (by omega)]
   exact Ev.step (fun k=>rfl) (ev_pos hge (Ev.now _))
  have hlt:i<s.size:=by omega
  obtain⟨al,eal⟩:∃al:Int,al=((all t:Nat):Int):=⟨_,rfl⟩
  have hal:spec_l1All.f t=some al:=by rw[eal];exact l1All_eq ht
  have e1:wrap64 ((i:Int)+1)=((i+1:Nat):Int):=w1 hlt (by omega)
  rw[if_pos hlt]
  by_cases h49:bt s i=49
  ·rw[if_pos h49]
   refine Ev.step (fun k=>rfl) (ev_neg hge (ev_bindc (hal) (ev_pos (by omega) (ev_pos (by omega) (ev_pos h49 ?_)))))
   rw[e1,eal]
   exact Ev.now _
  rw[if_neg h49]
  by_cases h48:bt s i=48
  ·rw[if_pos h48]
   refine Ev.step (fun k=>rfl) (ev_neg hge (ev_bindc (hal) (ev_pos (by omega) (ev_pos (by omega) (ev_neg h49 (ev_pos h48 ?_))))))
   rw[e1]
   exact Ev.now _
  rw[if_neg h48]
  have hb:=bt_range s i
  by_cases hth:97≤bt s i∧bt s i - 97<t
  ·rw[if_pos hth]
   refine Ev.step (fun k=>rfl) (ev_neg hge (ev_bindc (hal) (ev_pos (by omega) (ev_pos (by omega) (ev_neg h49 (ev_neg h48 (ev_pos (by omega) ?_)))))))
   rw[decide_eq_true (by omega)]
   obtain⟨c,hc⟩:∃c:Nat,bt s i=97+(c:Int):=⟨(bt s i - 97).toNat,by omega⟩
   have hc3:c<3:=by omega
   rw[show(bt s i - 97).toNat=c from by omega]
   have loop:∀w,w≤wn t→Ev (fun k=>spec_l1Read.l0 k t s (i:Int) ((tset c w:Nat):Int) (w:Int)) (((tset c (wn t):Nat):Int),((i+1:Nat):Int)):=by
    have hw:=wn_le t
    apply down
    ·refine Ev.step (fun k=>rfl) (ev_pos (by omega) (ev_neg (by rw[shl_wn ht];omega) ?_))
     rw[e1]
     exact Ev.now _
    ·intro w hw' ih2
     refine Ev.step (fun k=>rfl) (ev_pos (by omega) (ev_pos (by rw[shl_wn ht];omega) (ev_pos (by omega) (ev_pos (by omega) (ev_pos (by omega) ?_)))))
     rw[w1 hw' (by omega),hc,tset_step ⟨c,hc3⟩ ⟨w,by omega⟩]
     exact ih2
   exact Ev.step (f:=fun k=>spec_l1Read.l0 k t s (i:Int) 0 0) (fun k=>rfl) (loop 0 (Nat.zero_le _))
  rw[if_neg hth]
  have st:∀{g:Nat→Option (Int×Int)} {r} {al:Int},(∀k,g k=(if 0≤(i:Int)then(if(i:Int)<(s.size:Int)then(if(bt s i)=33 then((spec_l1Read.f k t s (wrap64 ((i:Int)+1))).bind fun bt324=>(if bt324.2<0 then(some ((-1),(-1)))else(some (wrap64 (al - bt324.1),bt324.2))))else(if(bt s i)=40 then((spec_l1Read.f k t s (wrap64 ((i:Int)+1))).bind fun bt326=>(if bt326.2<0 then(spec_l1Read.j2 k t s al bt326.1 bt326.2 true)else(spec_l1Read.j2 k t s al bt326.1 bt326.2 (decide (bt326.2≥(s.size:Int))))))else(some ((-1),(-1)))))else(none))else(none)))→Ev g r→Ev (fun k=>spec_l1Read.j0 k t s (i:Int) al false) r:=fun hg h=>Ev.step (fun k=>(hg k).symm) h
  have go:∀{r},Ev (fun k=>spec_l1Read.j0 k t s (i:Int) al false) r→Ev (fun k=>spec_l1Read.f k t s (i:Int)) r:=by
   intro r h
   refine Ev.step (fun k=>rfl) (ev_neg hge (ev_bindc (hal) (ev_pos (by omega) (ev_pos (by omega) (ev_neg h49 (ev_neg h48 ?_))))))
   by_cases h97:bt s i≥97
   ·refine ev_pos h97 ?_
    rw[decide_eq_false (by omega)]
    exact h
   ·exact ev_neg h97 h
  refine go ?_
  have h1:=ih (i+1) (by omega)
  by_cases h33:bt s i=33
  ·rw[if_pos h33]
   refine st (fun k=>rfl) (ev_pos (by omega) (ev_pos (by omega) (ev_pos h33 ?_)))
   rw[e1]
   refine Ev.bind h1 ?_
   cases hr:rdS t s n (i+1)with
   |none=>exact ev_pos (by show(-1:Int)<0;omega) (Ev.now _)
   |some x=>
    obtain⟨a,b,c⟩:=rdS_range ht s _ _ _ hr
    refine ev_neg (by show¬((x.2:Int)<0);clear a;omega) (ev_eq (Ev.now _) ?_)
    show(wrap64 (al - (x.1:Int)),(x.2:Int))=(((all t^^^x.1:Nat):Int),(x.2:Int))
    have hle:x.1≤all t:=Nat.le_of_lt_succ (Nat.lt_of_lt_of_eq a (all_wn ht).symm)
    have ha8:=all_lt t
    rw[eal,←sub_xor ht a,w64 (by clear a;omega) (by clear a;omega)]
    clear a
    congr 1
    omega
  rw[if_neg h33]
  by_cases h40:bt s i=40
  ·rw[if_pos h40]
   refine st (fun k=>rfl) (ev_pos (Int.natCast_nonneg i) (ev_pos (Int.ofNat_lt.2 hlt) (ev_neg h33 (ev_pos h40 ?_))))
   rw[e1]
   refine Ev.bind h1 ?_
   have bad2:∀a e:Int,Ev (fun k=>spec_l1Read.j2 k t s al a e true) (-1, -1):=fun a e=>Ev.step (f:=fun _=>some (-1, -1)) (fun k=>rfl) (Ev.now _)
   have bad3:∀a e a2 e2:Int,Ev (fun k=>spec_l1Read.j3 k s al a e a2 e2 true) (-1, -1):=fun a e a2 e2=>Ev.step (f:=fun _=>some (-1, -1)) (fun k=>rfl) (Ev.now _)
   cases hr:rdS t s n (i+1)with
   |none=>exact ev_pos (by decide) (bad2 _ _)
   |some x=>
    obtain⟨ra,rb,rc⟩:=rdS_range ht s _ _ _ hr
    obtain⟨a1,m⟩:=x
    simp only at ra rb rc
    have ra8:a1<256:=Nat.lt_of_lt_of_le ra (wn_8 t)
    replace ra:Asd (a1<2^wn t):=⟨ra⟩
    refine ev_neg (Int.not_lt.2 (Int.natCast_nonneg m)) ?_
    show Ev (fun k=>spec_l1Read.j2 k t s al (a1:Int) (m:Int) (decide ((m:Int)≥(s.size:Int)))) (outS (if m<s.size then(rdS t s n (m+1)).bind fun y=>if y.2<s.size∧bt s y.2=41 then(opS t (bt s m) a1 y.1).map fun z=>(z,y.2+1)else none else none))
    by_cases hm:m<s.size
    ·have hm1:¬((m:Int)≥(s.size:Int)):=Int.not_le.2 (Int.ofNat_lt.2 hm)
     rw[if_pos hm,decide_eq_false hm1]
     have em:wrap64 ((m:Int)+1)=((m+1:Nat):Int):=w1 hm (le9 hs)
     have h2:=ih (m+1) (sub9 hi (Nat.lt_of_succ_lt rb))
     refine Ev.step (f:=fun k=>(spec_l1Read.f k t s (wrap64 ((m:Int)+1))).bind fun bt328=>(if bt328.2<0 then(spec_l1Read.j3 k s al (a1:Int) (m:Int) bt328.1 bt328.2 true)else(if bt328.2≥(s.size:Int)then(spec_l1Read.j3 k s al (a1:Int) (m:Int) bt328.1 bt328.2 true)else(if 0≤bt328.2 then(if bt328.2<(s.size:Int)then(spec_l1Read.j3 k s al (a1:Int) (m:Int) bt328.1 bt328.2 ((bt s bt328.2) !=41))else(none))else(none))))) (fun k=>rfl) ?_
     rw[em]
     refine Ev.bind h2 ?_
     cases hr2:rdS t s n (m+1)with
     |none=>exact ev_pos (by decide) (bad3 _ _ _ _)
     |some y=>
      obtain⟨sa,sb,sc⟩:=rdS_range ht s _ _ _ hr2
      obtain⟨a2,e⟩:=y
      simp only at sa sb sc
      have sa8:a2<256:=Nat.lt_of_lt_of_le sa (wn_8 t)
      clear sa
      refine ev_neg (Int.not_lt.2 (Int.natCast_nonneg e)) ?_
      show Ev (fun k=>if(e:Int)≥(s.size:Int)then(spec_l1Read.j3 k s al (a1:Int) (m:Int) (a2:Int) (e:Int) true)else(if 0≤(e:Int)then(if(e:Int)<(s.size:Int)then(spec_l1Read.j3 k s al (a1:Int) (m:Int) (a2:Int) (e:Int) ((bt s e) !=41))else(none))else(none))) (outS (if e<s.size∧bt s e=41 then(opS t (bt s m) a1 a2).map fun z=>(z,e+1)else none))
      by_cases he:e<s.size
      ·refine ev_neg (Int.not_le.2 (Int.ofNat_lt.2 he)) (ev_pos (Int.natCast_nonneg e) (ev_pos (Int.ofNat_lt.2 he) ?_))
       by_cases h41:bt s e=41
       ·rw[if_pos ⟨he,h41⟩,show(bt s e !=41)=false from by rw[h41];rfl]
        have ee:wrap64 ((e:Int)+1)=((e+1:Nat):Int):=w1 he (le9 hs)
        have st3:∀{g:Nat→Option (Int×Int)} {r},(∀k,g k=(if 0≤(m:Int)then(if(m:Int)<(s.size:Int)then(if(bt s m)=38 then((spec_l1Both.f k (a1:Int) (a2:Int)).bind fun t330=>(some (t330,wrap64 ((e:Int)+1))))else(if(bt s m)=124 then((spec_l1Either.f k (a1:Int) (a2:Int)).bind fun t331=>(some (t331,wrap64 ((e:Int)+1))))else(if(bt s m)=62 then((spec_l1Either.f k (wrap64 (al - (a1:Int))) (a2:Int)).bind fun t332=>(some (t332,wrap64 ((e:Int)+1))))else(some ((-1),(-1))))))else(none))else(none)))→Ev g r→Ev (fun k=>spec_l1Read.j3 k s al (a1:Int) (m:Int) (a2:Int) (e:Int) false) r:=fun hg h=>Ev.step (fun k=>(hg k).symm) h
        refine st3 (fun k=>rfl) (ev_pos (Int.natCast_nonneg m) (ev_pos (Int.ofNat_lt.2 hm) ?_))
        rw[ee]
        unfold opS
        by_cases q1:bt s m=38
        ·rw[if_pos q1]
         exact ev_pos q1 (Ev.bind (l1Both_ev ra8) (Ev.now _))
        rw[if_neg q1]
        refine ev_neg q1 ?_
        by_cases q2:bt s m=124
        ·rw[if_pos q2]
         exact ev_pos q2 (Ev.bind (either_ev ra8 sa8) (Ev.now _))
        rw[if_neg q2]
        refine ev_neg q2 ?_
        by_cases q3:bt s m=62
        ·rw[if_pos q3]
         refine ev_pos q3 ?_
         have hx:=xor_lt ht ra.out
         have hle:a1≤all t:=Nat.le_of_lt_succ (Nat.lt_of_lt_of_eq ra.out (all_wn ht).symm)
         have ha8:=all_lt t
         have ew:wrap64 (al - (a1:Int))=((all t^^^a1:Nat):Int):=by rw[eal,←sub_xor ht ra.out,w64 (by clear hx;omega) (by clear hx;omega)];clear hx;omega
         rw[ew]
         exact Ev.bind (either_ev (Nat.lt_of_lt_of_le hx (wn_8 t)) sa8) (Ev.now _)
        rw[if_neg q3]
        exact ev_neg q3 (Ev.now _)
       ·rw[if_neg (fun k=>h41 k.2),show(bt s e !=41)=true from bne_iff_ne.2 h41]
        exact bad3 _ _ _ _
      ·rw[if_neg (fun k=>he k.1)]
       exact ev_pos (Int.ofNat_le.2 (Nat.le_of_not_lt he)) (bad3 _ _ _ _)
    ·have hm2:(m:Int)≥(s.size:Int):=Int.ofNat_le.2 (Nat.le_of_not_lt hm)
     rw[if_neg hm,decide_eq_true hm2]
     exact bad2 _ _
  rw[if_neg h40]
  exact st (fun k=>rfl) (ev_pos (Int.natCast_nonneg i) (ev_pos (Int.ofNat_lt.2 hlt) (ev_neg h33 (ev_neg h40 (Ev.now _)))))
def holds (t:Int) (s:ByteArray):Int×Bool:=if(1≤t∧t≤3)∧s.size≤120 then(match rdS t s s.size 0 with|some x=>if x.2=s.size then((x.1:Int),true)else(-1,false)|none=>(-1,false))else(-1,false)
theorem holds_range {t:Int} {s:ByteArray} {a:Int} (h:holds t s=(a,true)):(1≤t∧t≤3)∧0≤a∧a≤all t:=by
 unfold holds at h
 split at h
 ·rename_i hc
  split at h
  ·rename_i x hx
   split at h
   ·obtain⟨ra,_,_⟩:=rdS_range hc.1 s _ _ _ hx
    have:=all_wn hc.1
    have:(x.1:Int)=a:=congrArg Prod.fst h
    exact⟨hc.1,by omega,by omega⟩
   ·cases h
  ·cases h
 ·cases h
theorem spec_HoldsIn_ev (t:Int) (s:ByteArray):Ev (fun k=>spec_HoldsIn.f k t s) (holds t s):=by
 unfold spec_HoldsIn.f holds
 have bad:Ev (fun k=>spec_HoldsIn.j0 k t s true) (-1,false):=Ev.step (f:=fun _=>some (-1,false)) (fun k=>rfl) (Ev.now _)
 by_cases ht:1≤t∧t≤3
 ·by_cases hs:(s.size:Int)>120
  ·rw[if_neg (by omega)]
   refine ev_bindc (l1In_eq _ _ _) (ev_pos (by simpa using ht) ?_)
   rw[decide_eq_true hs]
   exact bad
  ·rw[if_pos ⟨ht,by omega⟩]
   have h:=l1Read_ev ht s (by omega) s.size 0 (by omega)
   refine ev_bindc (l1In_eq _ _ _) (ev_pos (by simpa using ht) ?_)
   rw[decide_eq_false hs]
   refine Ev.step (f:=fun k=>(spec_l1Read.f k t s 0).bind fun bt334=>(if bt334.2=(s.size:Int)then(some (bt334.1,true))else(some ((-1),false)))) (fun k=>rfl) (Ev.bind h ?_)
   cases hr:rdS t s s.size 0 with
   |none=>exact ev_neg (by show¬((-1:Int)=_);omega) (Ev.now _)
   |some x=>
    show Ev (fun k=>if(x.2:Int)=(s.size:Int)then(some ((x.1:Int),true))else(some ((-1),false))) (if x.2=s.size then((x.1:Int),true)else(-1,false))
    by_cases he:x.2=s.size
    ·rw[if_pos he]
     exact ev_pos (by omega) (Ev.now _)
    ·rw[if_neg he]
     exact ev_neg (by omega) (Ev.now _)
 ·rw[if_neg (fun k=>ht k.1)]
  exact ev_bindc (l1In_eq _ _ _) (ev_neg (by simpa using ht) bad)
theorem next_at {t:Int} {s:ByteArray} {i:Nat} (hs:s.size≤1000000000) (h:i<s.size):impl_sentenceReader_next.f t s (i:Int)=some (bt s i,t,s,((i+1:Nat):Int)):=by
 unfold impl_sentenceReader_next.f
 have e1:wrap64 ((i:Int)+1)=((i+1:Nat):Int):=w1 h (by omega)
 have e2:wrap64 (((i+1:Nat):Int) - 1)=(i:Int):=by rw[w64 (by omega) (by omega)];omega
 rw[if_neg (by omega),e1,e2,if_pos (by omega),if_pos (by omega)]
theorem next_end {t:Int} {s:ByteArray}:impl_sentenceReader_next.f t s (s.size:Int)=some (0,t,s,(s.size:Int)):=by
 unfold impl_sentenceReader_next.f
 rw[if_pos rfl]
theorem thing_set:∀t:Fin 3,∀c:Fin 3,impl_setThat.f (impl_sentenceReader_sentence.p (c.val:Int)) ((t.val:Int)+1)=some ((tset c.val (wn ((t.val:Int)+1)):Nat):Int):=by decide+kernel
theorem thing_ev {t:Int} (ht:1≤t∧t≤3) (c:Nat) (hc:c<3):impl_setThat.f (impl_sentenceReader_sentence.p (c:Int)) t=some ((tset c (wn t):Nat):Int):=by
 have:=thing_set ⟨(t - 1).toNat,by omega⟩ ⟨c,hc⟩
 rw[show(((t - 1).toNat:Nat):Int)+1=t from by omega]at this
 exact this
theorem sub8 {z i n:Nat} (h:z - i≤n+1):z - (i+1)≤n:=by omega
theorem small {a:Nat} (h:a<256):a<2^62:=Nat.lt_trans h (by decide)
/-- What the program's reader gives at a place: the set and the place behind, or no sentence. -/
def Got (o:Option (Nat×Nat)) (_s:ByteArray) (x:Int) (b:Bool) (p:Int):Prop:=match o with
 |some y=>x=(y.1:Int)∧b=true∧p=(y.2:Int)
 |none=>b=false
set_option maxHeartbeats 2000000 in
theorem rsent_ev {t:Int} (ht:1≤t∧t≤3) (s:ByteArray) (hs:s.size≤1000000000):∀(n:Nat) (i:Nat),i≤s.size→s.size - i≤n→∃x b p,Ev (fun k=>impl_sentenceReader_sentence.f k t s (i:Int)) (x,b,t,s,p)∧Got (rdS t s n i) s x b p:=by
 have last:∀(i:Nat),i=s.size→Ev (fun k=>impl_sentenceReader_sentence.f k t s (i:Int)) (0,false,t,s,(i:Int)):=by
  rintro i rfl
  exact Ev.step (fun k=>rfl) (ev_bindc (allWorlds_eq ht) (ev_bindc next_end (ev_neg (show¬((0:Int)=48) by decide) (ev_neg (show¬((0:Int)=49) by decide) (ev_neg (show¬((0:Int)=97) by decide) (ev_neg (show¬((0:Int)=98) by decide) (ev_neg (show¬((0:Int)=99) by decide) (ev_neg (show¬((0:Int)=33) by decide) (ev_neg (show¬((0:Int)=40) by decide) (Ev.now _))))))))))
 intro n
 induction n with
 |zero=>intro i hi hn;exact⟨0,false,_,last i (by omega),rfl⟩
 |succ n ih=>
  intro i hi hn
  by_cases hge:i=s.size
  ·refine⟨0,false,_,last i hge,?_⟩
   unfold rdS
   rw[if_neg (by omega)]
   rfl
  have hlt:i<s.size:=by omega
  unfold rdS
  rw[if_pos hlt]
  have st:∀{r},Ev (fun k=>(fun(al:Int) (b:Int×Int×ByteArray×Int)=>
   if b.1=48 then some (0,true,b.2.1,b.2.2.1,b.2.2.2)
   else if b.1=49 then some (al,true,b.2.1,b.2.2.1,b.2.2.2)
   else if b.1=97 then(impl_setThat.f (impl_sentenceReader_sentence.p 0) b.2.1).bind fun x=>some (x,decide (0<b.2.1),b.2.1,b.2.2.1,b.2.2.2)
   else if b.1=98 then(impl_setThat.f (impl_sentenceReader_sentence.p 1) b.2.1).bind fun x=>some (x,decide (1<b.2.1),b.2.1,b.2.2.1,b.2.2.2)
   else if b.1=99 then(impl_setThat.f (impl_sentenceReader_sentence.p 2) b.2.1).bind fun x=>some (x,decide (2<b.2.1),b.2.1,b.2.2.1,b.2.2.2)
   else if b.1=33 then(impl_sentenceReader_sentence.f k b.2.1 b.2.2.1 b.2.2.2).bind fun c=>some (Go.bits .xor .i64 al c.1,c.2.1,c.2.2.1,c.2.2.2.1,c.2.2.2.2)
   else if b.1=40 then(impl_sentenceReader_sentence.f k b.2.1 b.2.2.1 b.2.2.2).bind fun c=>
    if c.2.1=true then(impl_sentenceReader_next.f c.2.2.1 c.2.2.2.1 c.2.2.2.2).bind fun sg=>(impl_sentenceReader_sentence.f k sg.2.1 sg.2.2.1 sg.2.2.2).bind fun d=>
     if d.2.1=true then(impl_sentenceReader_next.f d.2.2.1 d.2.2.2.1 d.2.2.2.2).bind fun e=>
      if e.1=41 then
       (if sg.1=38 then some (Go.bits .and .i64 c.1 d.1,true,e.2.1,e.2.2.1,e.2.2.2)
       else if sg.1=124 then some (Go.bits .or .i64 c.1 d.1,true,e.2.1,e.2.2.1,e.2.2.2)
       else if sg.1=62 then some (Go.bits .or .i64 (Go.bits .xor .i64 al c.1) d.1,true,e.2.1,e.2.2.1,e.2.2.2)
       else some (0,false,e.2.1,e.2.2.1,e.2.2.2))
      else some (0,false,e.2.1,e.2.2.1,e.2.2.2)
     else some (0,false,d.2.2.1,d.2.2.2.1,d.2.2.2.2)
    else some (0,false,c.2.2.1,c.2.2.2.1,c.2.2.2.2)
   else some (0,false,b.2.1,b.2.2.1,b.2.2.2)) ((all t:Nat):Int) (bt s i,t,s,((i+1:Nat):Int))) r→Ev (fun k=>impl_sentenceReader_sentence.f k t s (i:Int)) r:=by
   intro r h
   exact Ev.step (fun k=>rfl) (ev_bindc (allWorlds_eq ht) (ev_bindc (next_at hs hlt) h))
  by_cases h49:bt s i=49
  ·rw[if_pos h49]
   exact⟨_,true,_,st (ev_neg (by show¬bt s i=48;omega) (ev_pos h49 (Ev.now _))),rfl,rfl,rfl⟩
  rw[if_neg h49]
  by_cases h48:bt s i=48
  ·rw[if_pos h48]
   exact⟨_,true,_,st (ev_pos h48 (Ev.now _)),rfl,rfl,rfl⟩
  rw[if_neg h48]
  by_cases h97:bt s i=97
  ·refine⟨_,decide ((0:Int)<t),_,st (ev_neg h48 (ev_neg h49 (ev_pos h97 (ev_bindc (thing_ev ht 0 (by decide)) (Ev.now _))))),?_⟩
   rw[if_pos (by omega),decide_eq_true (by omega),h97]
   exact⟨rfl,rfl,rfl⟩
  by_cases h98:bt s i=98
  ·refine⟨_,decide ((1:Int)<t),_,st (ev_neg h48 (ev_neg h49 (ev_neg h97 (ev_pos h98 (ev_bindc (thing_ev ht 1 (by decide)) (Ev.now _)))))),?_⟩
   by_cases h:1<t
   ·rw[if_pos (by omega),decide_eq_true h,h98]
    exact⟨rfl,rfl,rfl⟩
   ·rw[if_neg (by omega),decide_eq_false h,if_neg (by omega),if_neg (by omega)]
    rfl
  by_cases h99:bt s i=99
  ·refine⟨_,decide ((2:Int)<t),_,st (ev_neg h48 (ev_neg h49 (ev_neg h97 (ev_neg h98 (ev_pos h99 (ev_bindc (thing_ev ht 2 (by decide)) (Ev.now _))))))),?_⟩
   by_cases h:2<t
   ·rw[if_pos (by omega),decide_eq_true h,h99]
    exact⟨rfl,rfl,rfl⟩
   ·rw[if_neg (by omega),decide_eq_false h,if_neg (by omega),if_neg (by omega)]
    rfl
  rw[if_neg (show¬(97≤bt s i∧bt s i - 97<t) by omega)]
  obtain⟨x1,b1,p1,hx1,hg1⟩:=ih (i+1) hlt (sub8 hn)
  have pre:∀{g:Nat→Option (Int×Bool×Int×ByteArray×Int)} {r},Ev g r→Ev (fun k=>if bt s i=48 then some (0,true,t,s,((i+1:Nat):Int))else if bt s i=49 then some (((all t:Nat):Int),true,t,s,((i+1:Nat):Int))else if bt s i=97 then(impl_setThat.f (impl_sentenceReader_sentence.p 0) t).bind fun x=>some (x,decide (0<t),t,s,((i+1:Nat):Int))else if bt s i=98 then(impl_setThat.f (impl_sentenceReader_sentence.p 1) t).bind fun x=>some (x,decide (1<t),t,s,((i+1:Nat):Int))else if bt s i=99 then(impl_setThat.f (impl_sentenceReader_sentence.p 2) t).bind fun x=>some (x,decide (2<t),t,s,((i+1:Nat):Int))else g k) r:=fun h=>ev_neg h48 (ev_neg h49 (ev_neg h97 (ev_neg h98 (ev_neg h99 h))))
  by_cases h33:bt s i=33
  ·rw[if_pos h33]
   refine⟨_,b1,p1,st (pre (ev_pos h33 (Ev.bind hx1 (Ev.now _)))),?_⟩
   cases hr:rdS t s n (i+1)with
   |none=>rw[hr]at hg1;exact hg1
   |some y=>
    rw[hr]at hg1
    obtain⟨rfl,rfl,rfl⟩:=hg1
    obtain⟨ra,_,_⟩:=rdS_range ht s _ _ _ hr
    exact⟨bxor _ _ (small (all_lt t)) (small (Nat.lt_of_lt_of_le ra (wn_8 t))),rfl,rfl⟩
  rw[if_neg h33]
  by_cases h40:bt s i=40
  ·rw[if_pos h40]
   have go:∀{x b p},Ev (fun k=>if b1=true then(impl_sentenceReader_next.f t s p1).bind fun sg=>(impl_sentenceReader_sentence.f k sg.2.1 sg.2.2.1 sg.2.2.2).bind fun d=>
     if d.2.1=true then(impl_sentenceReader_next.f d.2.2.1 d.2.2.2.1 d.2.2.2.2).bind fun e=>
      if e.1=41 then
       (if sg.1=38 then some (Go.bits .and .i64 x1 d.1,true,e.2.1,e.2.2.1,e.2.2.2)
       else if sg.1=124 then some (Go.bits .or .i64 x1 d.1,true,e.2.1,e.2.2.1,e.2.2.2)
       else if sg.1=62 then some (Go.bits .or .i64 (Go.bits .xor .i64 ((all t:Nat):Int) x1) d.1,true,e.2.1,e.2.2.1,e.2.2.2)
       else some (0,false,e.2.1,e.2.2.1,e.2.2.2))
      else some (0,false,e.2.1,e.2.2.1,e.2.2.2)
     else some (0,false,d.2.2.1,d.2.2.2.1,d.2.2.2.2)
    else some (0,false,t,s,p1)) (x,b,t,s,p)→Ev (fun k=>impl_sentenceReader_sentence.f k t s (i:Int)) (x,b,t,s,p):=by
    intro x b p h
    exact st (pre (ev_neg h33 (ev_pos h40 (Ev.bind hx1 h))))
   cases hr:rdS t s n (i+1)with
   |none=>
    rw[hr]at hg1
    have:b1=false:=hg1
    subst this
    exact⟨0,false,p1,go (ev_ff (Ev.now _)),rfl⟩
   |some y=>
    rw[hr]at hg1
    obtain⟨a1,m⟩:=y
    obtain⟨rfl,rfl,rfl⟩:=hg1
    obtain⟨ra,rb,rc⟩:=rdS_range ht s _ _ _ hr
    simp only at ra rb rc
    have ra8:=small (Nat.lt_of_lt_of_le ra (wn_8 t))
    have rx8:=small (Nat.lt_of_lt_of_le (xor_lt ht ra) (wn_8 t))
    clear ra
    by_cases hm:m<s.size
    ·obtain⟨x2,b2,p2,hx2,hg2⟩:=ih (m+1) hm (sub9 hn (Nat.lt_of_succ_lt rb))
     show∃x b p,Ev _ _∧Got (if m<s.size then(rdS t s n (m+1)).bind fun y=>if y.2<s.size∧bt s y.2=41 then(opS t (bt s m) a1 y.1).map fun z=>(z,y.2+1)else none else none) s x b p
     rw[if_pos hm]
     have go2:∀{x b p},Ev (fun k=>if b2=true then(impl_sentenceReader_next.f t s p2).bind fun e=>
       if e.1=41 then
        (if bt s m=38 then some (Go.bits .and .i64 ((a1:Nat):Int) x2,true,e.2.1,e.2.2.1,e.2.2.2)
        else if bt s m=124 then some (Go.bits .or .i64 ((a1:Nat):Int) x2,true,e.2.1,e.2.2.1,e.2.2.2)
        else if bt s m=62 then some (Go.bits .or .i64 (Go.bits .xor .i64 ((all t:Nat):Int) ((a1:Nat):Int)) x2,true,e.2.1,e.2.2.1,e.2.2.2)
        else some (0,false,e.2.1,e.2.2.1,e.2.2.2))
       else some (0,false,e.2.1,e.2.2.1,e.2.2.2)
      else some (0,false,t,s,p2)) (x,b,t,s,p)→Ev (fun k=>impl_sentenceReader_sentence.f k t s (i:Int)) (x,b,t,s,p):=by
      intro x b p h
      exact go (ev_tt (ev_bindc (next_at hs hm) (Ev.bind hx2 h)))
     cases hr2:rdS t s n (m+1)with
     |none=>
      rw[hr2]at hg2
      have:b2=false:=hg2
      subst this
      exact⟨0,false,p2,go2 (ev_ff (Ev.now _)),rfl⟩
     |some z=>
      rw[hr2]at hg2
      obtain⟨a2,e⟩:=z
      obtain⟨rfl,rfl,rfl⟩:=hg2
      obtain⟨sa,sb,sc⟩:=rdS_range ht s _ _ _ hr2
      simp only at sa sb sc
      have sa8:=small (Nat.lt_of_lt_of_le sa (wn_8 t))
      clear sa
      show∃x b p,Ev _ _∧Got (if e<s.size∧bt s e=41 then(opS t (bt s m) a1 a2).map fun z=>(z,e+1)else none) s x b p
      by_cases he:e<s.size
      ·by_cases h41:bt s e=41
       ·rw[if_pos ⟨he,h41⟩]
        have go3:∀{x b p},Ev (fun _=>if bt s m=38 then some (Go.bits .and .i64 ((a1:Nat):Int) ((a2:Nat):Int),true,t,s,((e+1:Nat):Int))
          else if bt s m=124 then some (Go.bits .or .i64 ((a1:Nat):Int) ((a2:Nat):Int),true,t,s,((e+1:Nat):Int))
          else if bt s m=62 then some (Go.bits .or .i64 (Go.bits .xor .i64 ((all t:Nat):Int) ((a1:Nat):Int)) ((a2:Nat):Int),true,t,s,((e+1:Nat):Int))
          else some (0,false,t,s,((e+1:Nat):Int))) (x,b,t,s,p)→Ev (fun k=>impl_sentenceReader_sentence.f k t s (i:Int)) (x,b,t,s,p):=by
         intro x b p h
         exact go2 (ev_tt (ev_bindc (next_at hs he) (ev_pos h41 h)))
        unfold opS
        by_cases q1:bt s m=38
        ·rw[if_pos q1]
         exact⟨_,true,_,go3 (ev_pos q1 (Ev.now _)),band _ _ ra8 sa8,rfl,rfl⟩
        rw[if_neg q1]
        by_cases q2:bt s m=124
        ·rw[if_pos q2]
         exact⟨_,true,_,go3 (ev_neg q1 (ev_pos q2 (Ev.now _))),bor _ _ ra8 sa8,rfl,rfl⟩
        rw[if_neg q2]
        by_cases q3:bt s m=62
        ·rw[if_pos q3]
         refine⟨_,true,_,go3 (ev_neg q1 (ev_neg q2 (ev_pos q3 (Ev.now _)))),?_,rfl,rfl⟩
         rw[bxor _ _ (small (all_lt t)) ra8]
         exact bor _ _ rx8 sa8
        rw[if_neg q3]
        exact⟨0,false,_,go3 (ev_neg q1 (ev_neg q2 (ev_neg q3 (Ev.now _)))),rfl⟩
       ·rw[if_neg (fun k=>h41 k.2)]
        exact⟨0,false,_,go2 (ev_tt (ev_bindc (next_at hs he) (ev_neg h41 (Ev.now _)))),rfl⟩
      ·rw[if_neg (fun k=>he k.1)]
       have ez:e=s.size:=Nat.le_antisymm sc (Nat.le_of_not_lt he)
       subst ez
       exact⟨0,false,_,go2 (ev_tt (ev_bindc next_end (ev_neg (show¬((0:Int)=41) by decide) (Ev.now _)))),rfl⟩
    ·show∃x b p,Ev _ _∧Got (if m<s.size then(rdS t s n (m+1)).bind fun y=>if y.2<s.size∧bt s y.2=41 then(opS t (bt s m) a1 y.1).map fun z=>(z,y.2+1)else none else none) s x b p
     rw[if_neg hm]
     have ez:m=s.size:=Nat.le_antisymm rc (Nat.le_of_not_lt hm)
     subst ez
     exact⟨0,false,_,go (ev_tt (ev_bindc next_end (Ev.bind (last _ rfl) (ev_ff (Ev.now _))))),rfl⟩
  rw[if_neg h40]
  exact⟨0,false,_,st (pre (ev_neg h33 (ev_neg h40 (Ev.now _)))),rfl⟩
theorem holdsIn_ev {t:Int} (ht:1≤t∧t≤3) (s:ByteArray) (hs:s.size≤120):Ev (fun k=>impl_holdsIn.f k t s) (holds t s):=by
 obtain⟨x,b,p,hx,hg⟩:=rsent_ev ht s (by omega) s.size 0 (Nat.zero_le _) (by omega)
 unfold holds impl_holdsIn.f
 rw[if_pos ⟨ht,hs⟩]
 refine Ev.bind hx ?_
 cases hr:rdS t s s.size 0 with
 |none=>
  rw[hr]at hg
  have:b=false:=hg
  subst this
  exact ev_ff (Ev.now _)
 |some y=>
  rw[hr]at hg
  obtain⟨rfl,rfl,rfl⟩:=hg
  refine ev_tt ?_
  show Ev (fun _=>if(y.2:Int)=(s.size:Int)then some ((y.1:Int),true)else some (-1,false)) (if y.2=s.size then((y.1:Int),true)else(-1,false))
  by_cases he:y.2=s.size
  ·rw[if_pos he]
   exact ev_pos (by omega) (Ev.now _)
  ·rw[if_neg he]
   exact ev_neg (by omega) (Ev.now _)
theorem impl_HoldsIn_ev (t:Int) (s:ByteArray):Ev (fun k=>impl_HoldsIn.f k t s) (holds t s):=by
 unfold impl_HoldsIn.f
 refine ev_bindc (areThings_eq t) ?_
 by_cases ht:1≤t∧t≤3
 ·refine ev_pos (decide_eq_true ht) ?_
  by_cases hs:(s.size:Int)>120
  ·unfold holds
   rw[if_neg (by omega)]
   exact ev_pos hs (Ev.now _)
  ·exact ev_neg hs (Ev.bind (holdsIn_ev ht s (by omega)) (Ev.now _))
 ·unfold holds
  rw[if_neg (fun k=>ht k.1)]
  exact ev_neg (by simpa using ht) (Ev.now _)
def tidyOk (t:Int) (l:List Int):Bool:=rankOk t l&&decide (tidyL l=l)
theorem l10Tidy_ev (t:Int) {l:List Int} (hn:l.length≤9223372036854775807):Ev (fun k=>spec_l10Tidy.f k t l) (tidyOk t l):=by
 unfold spec_l10Tidy.f tidyOk
 refine Ev.bind (RankOk_ev t hn) ?_
 cases h:rankOk t l with
 |false=>exact ev_ff (Ev.now _)
 |true=>
  have hlen:=tidyL_length l
  refine ev_tt (Ev.bind (TidyRank_ev h) ?_)
  have key:∀i,i≤l.length→Ev (fun k=>spec_l10Tidy.l0 k l (tidyL l) (i:Int)) (decide ((tidyL l).drop i=l.drop i)):=by
   apply down
   ·refine Ev.step (fun k=>rfl) (ev_neg (by omega) (ev_eq (Ev.now _) ?_))
    rw[List.drop_length,List.drop_of_length_le (by omega)]
    exact(decide_eq_true rfl).symm
   ·intro i hi ih
    refine Ev.step (fun k=>rfl) (ev_pos (by omega) (ev_pos (by omega) (ev_pos (by omega) ?_)))
    rw[rd_at hi,rd_at (l:=tidyL l) (by omega),List.drop_eq_getElem_cons hi,List.drop_eq_getElem_cons (l:=tidyL l) (by omega)]
    by_cases e:(tidyL l)[i]=l[i]
    ·refine ev_pos e ?_
     rw[w1 hi hn]
     refine ev_eq ih (decide_eq_decide.2 ?_)
     rw[List.cons.injEq]
     exact⟨fun h=>⟨e,h⟩,fun h=>h.2⟩
    ·refine ev_neg e (ev_eq (Ev.now _) ?_)
     rw[decide_eq_false (fun h=>e (List.cons.inj h).1)]
  have:=key 0 (Nat.zero_le _)
  rw[List.drop_zero,List.drop_zero]at this
  rw[Bool.true_and]
  exact this
def mindOk (t:Int) (l:List Int) (ls:List (List Int)):Bool:=tidyOk t l&&(decide (ls.length≤10)&&ls.all (tidyOk t))
theorem rdLL_at {l:List (List Int)} {i:Nat} (h:i<l.length):rd_L1 l (i:Int)=l[i]:=by
 unfold rd_L1
 rw[Int.toNat_natCast,List.getD_eq_getElem?_getD,List.getElem?_eq_getElem h]
 rfl
theorem spec_MindValid_ev (t:Int) {l:List Int} {ls:List (List Int)} (hn:l.length≤9223372036854775807) (hs:ls.length≤9223372036854775807) (hl:∀y∈ls,y.length≤9223372036854775807):Ev (fun k=>spec_MindValid.f k t l ls) (mindOk t l ls):=by
 unfold spec_MindValid.f
 have key:∀i,i≤ls.length→Ev (fun k=>spec_MindValid.l0 k (i:Int) t l ls) (tidyOk t l&&(decide (ls.length≤10)&&(ls.drop i).all (tidyOk t))):=by
  apply down
  ·refine Ev.step (fun k=>rfl) (ev_neg (by omega) (Ev.bind (l10Tidy_ev t hn) ?_))
   rw[List.drop_length,List.all_nil,Bool.and_true]
   cases tidyOk t l with
   |false=>exact ev_ff (Ev.now _)
   |true=>
    refine ev_tt (ev_eq (Ev.now _) ?_)
    rw[Bool.true_and]
    exact decide_eq_decide.2 (by omega)
  ·intro i hi ih
   refine Ev.step (fun k=>rfl) (ev_pos (by omega) (ev_pos (by omega) ?_))
   rw[rdLL_at hi,w1 hi hs]
   refine Ev.bind (l10Tidy_ev t (hl _ (List.getElem_mem hi))) ?_
   rw[List.drop_eq_getElem_cons hi,List.all_cons]
   cases tidyOk t ls[i]with
   |false=>exact ev_ff (ev_eq (Ev.now _) (by simp))
   |true=>
    refine ev_tt (ev_eq ih ?_)
    rw[Bool.true_and]
 have:=key 0 (Nat.zero_le _)
 rw[List.drop_zero]at this
 exact this
theorem isTidy_ev (t:Int) {l:List Int} (hn:l.length≤9223372036854775807):Ev (fun k=>impl_isTidy.f k t l) (tidyOk t l):=by
 unfold impl_isTidy.f tidyOk
 refine Ev.bind (isRank_ev t hn) ?_
 cases h:rankOk t l with
 |false=>exact ev_ff (Ev.now _)
 |true=>
  obtain⟨_,hl,hx,_⟩:=rankOk_iff.1 h
  have:=(wn_le t).1
  refine ev_tt (Ev.bind (tidy_ev (by omega) fun x hx'=>(hx x hx').1) (Ev.bind (Equal_ev (l:=tidyL l) (m:=l) (by rw[tidyL_length];omega)) (ev_eq (Ev.now _) ?_)))
  rw[Bool.true_and]
theorem contL_ev (t:Int):∀(ls:List (List Int)),(∀y∈ls,y.length≤9223372036854775807)→∀i:Int,0≤i→∃r,Ev (fun k=>Hof.idxL (impl_isMind.no k t) ls i) r∧decide (0≤r)= !ls.all (tidyOk t):=by
 intro ls
 induction ls with
 |nil=>exact fun _ i _=>⟨-1,Ev.now _,rfl⟩
 |cons y ys ih=>
  intro hl i hi
  have hy:=isTidy_ev t (hl y List.mem_cons_self)
  have hno:Ev (fun k=>impl_isMind.no k t y) (!tidyOk t y):=Ev.bind hy (Ev.now _)
  cases e:tidyOk t y with
  |true=>
   rw[e]at hno
   obtain⟨r,h1,h2⟩:=ih (fun z hz=>hl z (List.mem_cons_of_mem _ hz)) (i+1) (by omega)
   refine⟨r,Ev.bind hno (ev_ff h1),?_⟩
   rw[h2,List.all_cons,e,Bool.true_and]
  |false=>
   rw[e]at hno
   refine⟨i,Ev.bind hno (ev_tt (Ev.now _)),?_⟩
   rw[List.all_cons,e,decide_eq_true hi]
   rfl
theorem isMind_ev (t:Int) {l:List Int} {ls:List (List Int)} (hn:l.length≤9223372036854775807) (hl:∀y∈ls,y.length≤9223372036854775807):Ev (fun k=>impl_isMind.f k t l ls) (mindOk t l ls):=by
 unfold impl_isMind.f mindOk
 refine Ev.bind (isTidy_ev t hn) ?_
 cases tidyOk t l with
 |false=>exact ev_ff (Ev.now _)
 |true=>
  refine ev_tt ?_
  by_cases h:ls.length≤10
  ·obtain⟨r,h1,h2⟩:=contL_ev t ls hl 0 (by omega)
   refine ev_pos (by omega) (Ev.bind (Ev.bind h1 (Ev.now _)) (ev_eq (Ev.now _) ?_))
   rw[h2,decide_eq_true h,Bool.true_and,Bool.true_and,Bool.not_not]
  ·refine ev_neg (by omega) (ev_eq (Ev.now _) ?_)
   rw[decide_eq_false h]
   rfl
theorem l10Copy_ev (t:Int) {l:List Int} {ls:List (List Int)} (hn:l.length≤100) (hs:ls.length≤100) (hl:∀y∈ls,y.length≤100):Ev (fun k=>spec_l10Copy.f k t l ls) (t,l,ls):=by
 unfold spec_l10Copy.f
 have key:∀i:Nat,i≤ls.length→Ev (fun k=>spec_l10Copy.l0 k (i:Int) t l ls t l (ls.take i)) (t,l,ls):=by
  apply down
  ·refine Ev.step (fun k=>rfl) (ev_neg (by omega) (ev_eq (Ev.now _) ?_))
   rw[List.take_length]
  ·intro i hi ih
   have hy:=hl _ (List.getElem_mem hi)
   refine Ev.step (fun k=>rfl) (ev_pos (by omega) (ev_bindc rfl (ev_pos (by omega) (ev_pos (by rw[rdLL_at hi];simp only[List.length_nil];omega) (ev_pos (by rw[List.length_take];omega) ?_)))))
   rw[rdLL_at hi,w1 hi (by omega),List.nil_append]
   rw[List.take_succ_eq_append_getElem hi]at ih
   exact ih
 refine ev_bindc rfl (ev_pos (by simp only[List.length_nil];omega) ?_)
 rw[List.nil_append]
 exact key 0 (Nat.zero_le _)
theorem exists_min:∀{l:List Int},l≠ []→∃x∈l,∀y∈l,x≤y
  | [],h=>absurd rfl h
  | [x],_=>⟨x,List.mem_singleton.2 rfl,fun y hy=>by rw[List.mem_singleton.1 hy];exact Int.le_refl _⟩
  |x::z::l,_=>by
    obtain⟨m,hm,h⟩:=exists_min (l:=z::l) (by simp)
    by_cases hx:x≤m
    · refine⟨x,List.mem_cons_self,fun y hy=>?_⟩
      rcases List.mem_cons.1 hy with rfl|hy
      · exact Int.le_refl _
      · exact Int.le_trans hx (h y hy)
    · refine⟨m,List.mem_cons_of_mem _ hm,fun y hy=>?_⟩
      rcases List.mem_cons.1 hy with rfl|hy
      · omega
      · exact h y hy
theorem rankOk_raise {t:Int} {l:List Int} (h:rankOk t l=true) (F:Nat):rankOk t (tidyL (raise l F))=true:=by
  obtain⟨ht,hl,hx,h0⟩:=rankOk_iff.1 h
  have h8:=wn_le t
  have hn:∀y∈raise l F,0≤y:=fun y hy=>by obtain⟨x,h1,h2⟩:=raise_mem hy;have:=hx x h1;omega
  have hlen:(raise l F).length=wn t:=by rw[raise_length];exact hl
  refine rankOk_iff.2 ⟨ht,by rw[tidyL_length];exact hlen,fun y hy=>?_,?_⟩
  · obtain⟨x,hx1,rfl⟩:=mem_tidyL.1 hy
    have:=lev_lt_length hx1 (hn x hx1)
    omega
  · obtain⟨x,hx1,hx2⟩:=exists_min (l:=raise l F) (by intro e;rw[e]at hlen;simp at hlen;omega)
    refine mem_tidyL.2 ⟨x,hx1,?_⟩
    rw[lev_zero (fun y hy _=>hx2 y hy)]
    rfl
theorem chg_tidy {t:Int} {l:List Int} (h:rankOk t l=true) (a:Int) (s:Nat):tidyOk t (chg l a s)=true:=by
  unfold tidyOk chg
  have hx:=(rankOk_iff.1 h).2.2.1
  rw[rankOk_raise h,tidyL_tidyL (fun y hy=>by obtain⟨x,h1,h2⟩:=raise_mem hy;have:=hx x h1;omega),decide_eq_true rfl]
  rfl
theorem tidyOk_iff {t:Int} {l:List Int}:tidyOk t l=true↔rankOk t l=true∧tidyL l=l:=by
  unfold tidyOk
  rw[Bool.and_eq_true,decide_eq_true_iff]
theorem same_l0 {x y:List Int} (hl:x.length=y.length) (hn:x.length≤100):∀i,i≤x.length→Ev (fun k=>spec_SameOrder.l0 k x y (i:Int)) (decide (x.drop i=y.drop i)):=by
  apply down
  · refine Ev.step (fun k=>rfl) (ev_neg (by omega) (ev_eq (Ev.now _) ?_))
    rw[List.drop_length,List.drop_of_length_le (by omega)]
    exact(decide_eq_true rfl).symm
  · intro i hi ih
    refine Ev.step (fun k=>rfl) (ev_pos (by omega) (ev_pos (by omega) (ev_pos (by omega) ?_)))
    rw[rd_at hi,rd_at (by omega),List.drop_eq_getElem_cons hi,List.drop_eq_getElem_cons (l:=y) (by omega)]
    by_cases e:x[i]=y[i]
    · refine ev_pos e ?_
      rw[w1 hi (by omega)]
      refine ev_eq ih (decide_eq_decide.2 ?_)
      rw[List.cons.injEq]
      exact⟨fun h=>⟨e,h⟩,fun h=>h.2⟩
    · refine ev_neg e (ev_eq (Ev.now _) ?_)
      rw[decide_eq_false (fun h=>e (List.cons.inj h).1)]
theorem SameOrder_ev {t:Int} {x y:List Int} (hx:rankOk t x=true) (hy:rankOk t y=true):Ev (fun k=>spec_SameOrder.f k t x y) (decide (tidyL x=tidyL y)):=by
  have lx:=(rankOk_iff.1 hx).2.1
  have ly:=(rankOk_iff.1 hy).2.1
  have h8:=wn_le t
  have rx:=RankOk_ev t (l:=x) (by omega)
  have ry:=RankOk_ev t (l:=y) (by omega)
  rw[hx]at rx
  rw[hy]at ry
  unfold spec_SameOrder.f
  refine Ev.bind rx (ev_tt (Ev.bind ry ?_))
  refine Ev.step (f:=fun k=>if(!true)=true then(some false)else((spec_TidyRank.f k t x).bind fun t304=>((spec_TidyRank.f k t y).bind fun t307=>(spec_SameOrder.l0 k t304 t307 0)))) (fun k=>rfl) (ev_neg (by decide) (Ev.bind (TidyRank_ev hx) (Ev.bind (TidyRank_ev hy) ?_)))
  exact same_l0 (by rw[tidyL_length,tidyL_length,lx,ly]) (by rw[tidyL_length];omega) 0 (Nat.zero_le _)
theorem ChangedBy_ev {t:Int} {l:List Int} (h:rankOk t l=true) {v:Int} (h0:0≤v) (h1:v≤all t) {a:Int} (ha:a=0∨a=1):Ev (fun k=>spec_ChangedBy.f k t l a v) (if v=0 then([],false)else(chg l a v.toNat,true)):=by
  obtain⟨ht,hl,hx,_⟩:=rankOk_iff.1 h
  have h8:=wn_le t
  have r:=RankOk_ev t (l:=l) (by omega)
  rw[h]at r
  have hs:setOk t v=true:=decide_eq_true ⟨ht,h0,h1⟩
  have ha8:=all_lt t
  unfold spec_ChangedBy.f
  refine Ev.bind r (ev_tt (ev_bindc (SetOk_eq t v) ?_))
  rw[hs]
  refine ev_tt ?_
  by_cases e:v=0
  · rw[if_pos e]
    exact ev_pos e (Ev.step (f:=fun _=>some ((([]:List Int)),false)) (fun k=>rfl) (Ev.now _))
  · rw[if_neg e]
    refine ev_neg e (ev_bindc (l1In_eq _ _ _) ?_)
    rw[decide_eq_true (by omega)]
    obtain⟨n,rfl⟩:=Int.eq_ofNat_of_zero_le h0
    rw[Int.toNat_natCast]
    refine Ev.step (f:=fun k=>if(!true)=true then(some ((([]:List Int)),false))else(if a=0 then((spec_l2Least.f k l (n:Int)).bind fun t295=>((spec_l6Rise.f k l t295).bind fun t296=>(some (t296,true))))else((spec_l6Rise.f k l (n:Int)).bind fun t299=>(some (t299,true))))) (fun k=>rfl) (ev_neg (by decide) ?_)
    unfold chg
    by_cases a0:a=0
    · rw[if_pos a0]
      exact ev_pos a0 (Ev.bind (l2Least_ev (by omega) n) (Ev.bind (l6Rise_ev (by omega) hx _) (Ev.now _)))
    · rw[if_neg a0]
      exact ev_neg a0 (Ev.bind (l6Rise_ev (by omega) hx n) (Ev.now _))
/-! ### copies -/
theorem copyMind_ev (t:Int) {l:List Int} {ls:List (List Int)} (hn:l.length≤100) (hs:ls.length≤100) (hl:∀y∈ls,y.length≤100):Ev (fun k=>impl_copyMind.f k t l ls) (t,l,ls):=by
  unfold impl_copyMind.f
  refine ev_bindc rfl (ev_pos (by show 0+l.length<_;omega) ?_)
  rw[List.nil_append]
  have key:∀i,i≤ls.length→Ev (fun k=>impl_copyMind.l0 k ls (ls.length:Int) (i:Int) t l (ls.take i)) (t,l,ls):=by
    apply down
    · refine Ev.step (fun k=>rfl) (ev_neg (by omega) (ev_eq (Ev.now _) ?_))
      rw[List.take_length]
    · intro i hi ih
      have:=hl _ (List.getElem_mem hi)
      refine Ev.step (fun k=>rfl) (ev_pos (by omega) (ev_pos (by omega) (ev_pos (by omega) (ev_bindc rfl (ev_pos (by rw[rdLL_at hi];show 0+ls[i].length<_;omega) (ev_pos (by rw[List.length_take];omega) ?_))))))
      rw[rdLL_at hi,w1 hi (by omega),List.nil_append]
      rw[List.take_succ_eq_append_getElem hi]at ih
      exact ih
  exact key 0 (Nat.zero_le _)
theorem mem_dropLast {α:Type} {l:List α} {y:α} (h:y∈l.dropLast):y∈l:=by rw[List.dropLast_eq_take]at h;exact List.mem_of_mem_take h
/-! ### deeds -/
def nope (t:Int) (l:List Int) (ls:List (List Int)):Int×List Int×List (List Int)×Bool:=(t,l,ls,false)
/-- A row more of before; the first one is gone if there are too many. -/
def push (l:List Int) (ls:List (List Int)):List (List Int):=if ls.length+1>10 then(ls++ [l]).drop 1 else ls++ [l]
def mdo (t:Int) (l:List Int) (ls:List (List Int)) (a:Int) (s:ByteArray):Int×List Int×List (List Int)×Bool:=
  if a=2∧s.size=0 then(if ls= []then nope t l ls else(t,ls.getLastD [],ls.dropLast,true))
  else if a=0∨a=1 then
    (if(holds t s).2=true then(if(holds t s).1=0 then nope t l ls else(if chg l a (holds t s).1.toNat=l then nope t l ls else(t,chg l a (holds t s).1.toNat,push l ls,true)))else nope t l ls)
  else nope t l ls
theorem mindOk_iff {t:Int} {l:List Int} {ls:List (List Int)}:mindOk t l ls=true↔tidyOk t l=true∧ls.length≤10∧∀y∈ls,tidyOk t y=true:=by
  unfold mindOk
  rw[Bool.and_eq_true,Bool.and_eq_true,decide_eq_true_iff,List.all_eq_true]
theorem rd_last {ls:List (List Int)} (h:ls≠ []):rd_L1 ls (wrap64 ((ls.length:Int) - 1))=ls.getLastD []∧wrap64 ((ls.length:Int) - 1)=((ls.length - 1:Nat):Int)∧ls.take (wrap64 ((ls.length:Int) - 1)).toNat=ls.dropLast∨¬ls.length≤100:=by
  by_cases hn:ls.length≤100
  · left
    have hp:0<ls.length:=List.length_pos_iff.2 h
    have e:wrap64 ((ls.length:Int) - 1)=((ls.length - 1:Nat):Int):=by rw[w64 (by omega) (by omega)];omega
    refine⟨?_,e,?_⟩
    · rw[e,rdLL_at (by omega),List.getLastD_eq_getLast?,List.getLast?_eq_getElem?,List.getElem?_eq_getElem (by omega)]
      rfl
    · rw[e,Int.toNat_natCast,List.dropLast_eq_take]
  · exact Or.inr hn
theorem isNil (a:Int) (s:ByteArray):(a==2&&(s.toList==([]:List UInt8)))=true↔a=2∧s.size=0:=by
  rw[Bool.and_eq_true,beq_iff_eq,beq_iff_eq,toList_nil]
set_option maxHeartbeats 1000000 in
theorem impl_mindDo_ev {t:Int} {l:List Int} {ls:List (List Int)} (hm:mindOk t l ls=true) (a:Int) (s:ByteArray):Ev (fun k=>impl_mindDo.f k t l ls a s) (mdo t l ls a s):=by
  obtain⟨htl,h9,hls⟩:=mindOk_iff.1 hm
  obtain⟨hr,_⟩:=tidyOk_iff.1 htl
  obtain⟨ht,hl,hx,_⟩:=rankOk_iff.1 hr
  have h8:=(wn_le t).1
  have hlen:∀y∈ls,y.length≤100:=fun y hy=>by
    have:=(rankOk_iff.1 (tidyOk_iff.1 (hls y hy)).1).2.1
    omega
  have hc:=copyMind_ev t (l:=l) (ls:=ls) (by omega) (by omega) hlen
  unfold impl_mindDo.f mdo
  refine Ev.bind hc ?_
  by_cases hb:a=2∧s.size=0
  · rw[if_pos hb]
    refine ev_pos ((isNil a s).2 hb) ?_
    by_cases he:ls= []
    · rw[if_pos he]
      subst he
      exact ev_pos (show wrap64 (((([]:List (List Int)).length:Nat):Int) - 1)<0 by decide+kernel) (Ev.now _)
    · rw[if_neg he]
      have hp:0<ls.length:=List.length_pos_iff.2 he
      obtain⟨r1,r2,r3⟩:=(rd_last he).resolve_right (fun k=>k (by omega))
      have hlast:ls.getLastD []∈ls:=by rw[List.getLastD_eq_getLast?,List.getLast?_eq_some_getLast he];exact List.getLast_mem he
      have hc2:=copyMind_ev t (l:=ls.getLastD []) (ls:=ls.dropLast) (hlen _ hlast) (by rw[List.length_dropLast];omega) (fun y hy=>hlen y (mem_dropLast hy))
      refine ev_neg (by dsimp only;rw[r2];omega) (ev_pos (by dsimp only;rw[r2];omega) (ev_pos (by dsimp only;rw[r2];omega) (ev_pos (by dsimp only;rw[r2];omega) ?_)))
      dsimp only
      rw[r1,r3]
      exact Ev.bind hc2 (Ev.now _)
  · rw[if_neg hb]
    refine ev_neg (fun k=>hb ((isNil a s).1 k)) ?_
    have no:Ev (fun k=>impl_mindDo.j0 k true t l ls a s t l ls) (nope t l ls):=Ev.step (f:=fun _=>some (t,l,ls,false)) (fun k=>rfl) (Ev.now _)
    have no1:∀v:Int,Ev (fun k=>impl_mindDo.j1 k v true t l ls a s t l ls) (nope t l ls):=fun v=>Ev.step (f:=fun _=>some (t,l,ls,false)) (fun k=>rfl) (Ev.now _)
    have go:a=0∨a=1→Ev (fun k=>impl_mindDo.j0 k false t l ls a s t l ls) (if(holds t s).2=true then(if(holds t s).1=0 then nope t l ls else(if chg l a (holds t s).1.toNat=l then nope t l ls else(t,chg l a (holds t s).1.toNat,push l ls,true)))else nope t l ls):=by
      intro ha
      refine Ev.step (f:=fun k=>(impl_HoldsIn.f k t s).bind fun bt359=>(if bt359.2=true then(impl_mindDo.j1 k bt359.1 (bt359.1==0) t l ls a s t l ls)else(impl_mindDo.j1 k bt359.1 true t l ls a s t l ls))) (fun k=>rfl) (Ev.bind (impl_HoldsIn_ev t s) ?_)
      by_cases h2:(holds t s).2=true
      · rw[if_pos h2]
        refine ev_pos h2 ?_
        have eh:holds t s=((holds t s).1,true):=by rw[←h2]
        obtain⟨_,v0,v1⟩:=holds_range eh
        obtain⟨v,ev⟩:=Int.eq_ofNat_of_zero_le v0
        have hv2:v<2^wn t:=by have:=all_wn ht;omega
        rw[ev,Int.toNat_natCast]
        by_cases e0:(v:Int)=0
        · rw[if_pos e0,show((v:Int)==0)=true from by rw[e0];rfl]
          exact no1 _
        · rw[if_neg e0,show((v:Int)==0)=false from beq_eq_false_iff_ne.2 e0]
          have hq:=chg_tidy hr a v
          have hql:(chg l a v).length≤100:=by have:=(rankOk_iff.1 (tidyOk_iff.1 hq).1).2.1;omega
          have two:Ev (fun k=>impl_mindDo.j2 k (v:Int) a t l ls t l ls) (if chg l a v=l then nope t l ls else(t,chg l a v,push l ls,true)):=by
            refine Ev.step (f:=fun k=>(impl_changedBy.f k t l a (v:Int)).bind fun t361=>((slices_Equal_int_int.f k t361 l).bind fun t364=>(if t364=true then(some (t,l,ls,false))else(if ls.length<5864062014805 then((some (ls++ [l]:List (List Int))).bind fun y365=>(if(y365.length:Int)>10 then(if 1≤(y365.length:Int)then((impl_copyMind.f k t t361 (y365.drop (1:Int).toNat)).bind fun bt368=>(some (bt368.1,bt368.2.1,bt368.2.2,true)))else(none))else((impl_copyMind.f k t t361 y365).bind fun bt368=>(some (bt368.1,bt368.2.1,bt368.2.2,true)))))else(none))))) (fun k=>rfl) (Ev.bind (changed_ev ht hl hx hv2 a) (Ev.bind (Equal_ev (by omega)) ?_))
            by_cases e:chg l a v=l
            · rw[if_pos e]
              exact ev_pos (decide_eq_true e) (Ev.now _)
            · rw[if_neg e]
              have hall:∀y∈ls++ [l],y.length≤100:=fun y hy=>by
                rcases List.mem_append.1 hy with hy|hy
                · exact hlen y hy
                · rw[List.mem_singleton.1 hy];omega
              have hln:(ls++ [l]).length=ls.length+1:=by rw[List.length_append,List.length_singleton]
              refine ev_neg (by rw[decide_eq_false e];decide) (ev_pos (by omega) (ev_bindc rfl ?_))
              unfold push
              by_cases h10:ls.length+1>10
              · rw[if_pos h10]
                have hc3:=copyMind_ev t (l:=chg l a v) (ls:=(ls++ [l]).drop 1) hql (by rw[List.length_drop];omega) (fun y hy=>hall y (List.mem_of_mem_drop hy))
                exact ev_pos (by rw[hln];omega) (ev_pos (by rw[hln];omega) (Ev.bind hc3 (Ev.now _)))
              · rw[if_neg h10]
                have hc3:=copyMind_ev t (l:=chg l a v) (ls:=ls++ [l]) hql (by omega) hall
                exact ev_neg (by rw[hln];omega) (Ev.bind hc3 (Ev.now _))
          refine Ev.step (f:=fun k=>if a=1 then(impl_mindDo.j2 k (v:Int) 1 t l ls t l ls)else(impl_mindDo.j2 k (v:Int) 0 t l ls t l ls)) (fun k=>rfl) ?_
          rcases ha with rfl|rfl
          · exact ev_neg (by decide) two
          · exact ev_pos rfl two
      · rw[if_neg h2]
        exact ev_neg h2 (no1 _)
    by_cases a0:a=0
    · rw[if_pos (Or.inl a0)]
      exact ev_pos a0 (go (Or.inl a0))
    · refine ev_neg a0 ?_
      by_cases a1:a=1
      · rw[if_pos (Or.inr a1),show(a !=1)=false from by rw[a1];rfl]
        exact go (Or.inr a1)
      · rw[if_neg (by omega),show(a !=1)=true from bne_iff_ne.2 a1]
        exact no
theorem push_len {l:List Int} {ls:List (List Int)} (h:ls.length≤10):(push l ls).length≤10:=by
  unfold push
  split
  · rw[List.length_drop,List.length_append,List.length_singleton];omega
  · rw[List.length_append,List.length_singleton];omega
theorem push_mem {l y:List Int} {ls:List (List Int)} (h:y∈push l ls):y∈ls∨y=l:=by
  have:y∈ls++ [l]:=by
    unfold push at h
    split at h
    · exact List.mem_of_mem_drop h
    · exact h
  rcases List.mem_append.1 this with k|k
  · exact Or.inl k
  · exact Or.inr (List.mem_singleton.1 k)
theorem mdo_ok {t:Int} {l:List Int} {ls:List (List Int)} (hm:mindOk t l ls=true) (a:Int) (s:ByteArray):mindOk (mdo t l ls a s).1 (mdo t l ls a s).2.1 (mdo t l ls a s).2.2.1=true:=by
  obtain⟨htl,h10,hls⟩:=mindOk_iff.1 hm
  unfold mdo
  have no:mindOk (nope t l ls).1 (nope t l ls).2.1 (nope t l ls).2.2.1=true:=hm
  split
  · split
    · exact no
    · rename_i he
      have hlast:ls.getLastD []∈ls:=by rw[List.getLastD_eq_getLast?,List.getLast?_eq_some_getLast he];exact List.getLast_mem he
      exact mindOk_iff.2 ⟨hls _ hlast,by rw[List.length_dropLast];omega,fun y hy=>hls y (mem_dropLast hy)⟩
  · split
    · split
      · split
        · exact no
        · split
          · exact no
          · exact mindOk_iff.2 ⟨chg_tidy (tidyOk_iff.1 htl).1 _ _,push_len h10,fun y hy=>(push_mem hy).elim (hls y) (fun e=>e▸htl)⟩
      · exact no
    · exact no
set_option maxHeartbeats 1000000 in
theorem spec_MindDo_ev {t:Int} {l:List Int} {ls:List (List Int)} (hn:l.length≤9223372036854775807) (hs:ls.length≤9223372036854775807) (hl:∀y∈ls,y.length≤9223372036854775807) (a:Int) (s:ByteArray):
  Ev (fun k=>spec_MindDo.f k t l ls a s) (if mindOk t l ls=true then mdo t l ls a s else(0,[],[],false)):=by
 unfold spec_MindDo.f
 refine Ev.bind (spec_MindValid_ev t hn hs hl) ?_
 by_cases hm:mindOk t l ls=true
 ·rw[if_pos hm]
  refine ev_pos hm ?_
  obtain⟨htl,h9,hls⟩:=mindOk_iff.1 hm
  obtain⟨hr,htd⟩:=tidyOk_iff.1 htl
  obtain⟨ht,hll,hx,_⟩:=rankOk_iff.1 hr
  have h8:=(wn_le t).1
  have hlen:∀y∈ls,y.length≤100:=fun y hy=>by
   have:=(rankOk_iff.1 (tidyOk_iff.1 (hls y hy)).1).2.1
   omega
  refine Ev.bind (l10Copy_ev t (by omega) (by omega) hlen) ?_
  unfold mdo
  have no1:∀v:Int,Ev (fun k=>spec_MindDo.j1 k v true t l ls a s t l ls) (nope t l ls):=fun v=>Ev.step (f:=fun _=>some (t,l,ls,false)) (fun k=>rfl) (Ev.now _)
  have go:Ev (fun k=>spec_MindDo.j0 k false t l ls a s t l ls) (if a=0∨a=1 then(if(holds t s).2=true then(if(holds t s).1=0 then nope t l ls else(if chg l a (holds t s).1.toNat=l then nope t l ls else(t,chg l a (holds t s).1.toNat,push l ls,true)))else nope t l ls)else nope t l ls):=by
   refine Ev.step (f:=fun k=>(spec_HoldsIn.f k t s).bind fun bt325=>(if bt325.2=true then((spec_l1In.f a 0 1).bind fun t327=>(spec_MindDo.j1 k bt325.1 (!t327) t l ls a s t l ls))else(spec_MindDo.j1 k bt325.1 true t l ls a s t l ls))) (fun k=>rfl) (Ev.bind (spec_HoldsIn_ev t s) ?_)
   by_cases h2:(holds t s).2=true
   ·refine ev_pos h2 (ev_bindc (l1In_eq _ _ _) ?_)
    by_cases ha:a=0∨a=1
    ·rw[if_pos ha,if_pos h2,decide_eq_true (by omega)]
     have eh:holds t s=((holds t s).1,true):=by rw[←h2]
     obtain⟨_,v0,v1⟩:=holds_range eh
     have hch:=ChangedBy_ev hr v0 v1 ha
     obtain⟨v,ev⟩:=Int.eq_ofNat_of_zero_le v0
     rw[ev]at hch⊢
     rw[Int.toNat_natCast]at hch⊢
     have no2:∀q:List Int,Ev (fun k=>spec_MindDo.j2 k q true t l ls) (nope t l ls):=fun q=>Ev.step (f:=fun _=>some (t,l,ls,false)) (fun k=>rfl) (Ev.now _)
     refine Ev.step (f:=fun k=>(spec_ChangedBy.f k t l a (v:Int)).bind fun bt328=>(if bt328.2=true then((spec_SameOrder.f k t bt328.1 l).bind fun t332=>(spec_MindDo.j2 k bt328.1 t332 t l ls))else(spec_MindDo.j2 k bt328.1 true t l ls))) (fun k=>rfl) (Ev.bind hch ?_)
     by_cases e0:(v:Int)=0
     ·rw[if_pos e0,if_pos e0]
      exact ev_ff (no2 _)
     ·rw[if_neg e0,if_neg e0]
      have hq:=chg_tidy hr a v
      obtain⟨hq1,hq2⟩:=tidyOk_iff.1 hq
      have hso:=SameOrder_ev hq1 hr
      rw[hq2,htd]at hso
      refine ev_tt (Ev.bind hso ?_)
      by_cases e:chg l a v=l
      ·rw[if_pos e,decide_eq_true e]
       exact no2 _
      ·rw[if_neg e,decide_eq_false e]
       refine Ev.step (f:=fun k=>if ls.length<5864062014805 then((some (ls++ [l]:List (List Int))).bind fun y333=>(if(y333.length:Int)>10 then(some (t,chg l a v,y333.drop (1:Int).toNat,true))else(some (t,chg l a v,y333,true))))else(none)) (fun k=>rfl) (ev_pos (by omega) (ev_bindc rfl ?_))
       have hln:(ls++ [l]).length=ls.length+1:=by rw[List.length_append,List.length_singleton]
       unfold push
       by_cases h10:ls.length+1>10
       ·rw[if_pos h10]
        exact ev_pos (by rw[hln];omega) (Ev.now _)
       ·rw[if_neg h10]
        exact ev_neg (by rw[hln];omega) (Ev.now _)
    ·rw[if_neg ha,decide_eq_false (by omega)]
     exact no1 _
   ·refine ev_neg h2 ?_
    by_cases ha:a=0∨a=1
    ·rw[if_pos ha,if_neg h2]
     exact no1 _
    ·rw[if_neg ha]
     exact no1 _
  by_cases hb:a=2∧s.size=0
  ·rw[if_pos hb]
   refine ev_pos ((isNil a s).2 hb) ?_
   by_cases he:ls= []
   ·rw[if_pos he]
    rw[if_neg (by omega)]at go
    rw[show decide (((ls.length:Nat):Int)>0)=false from by rw[he];rfl]
    exact go
   ·rw[if_neg he]
    have hp:0<ls.length:=List.length_pos_iff.2 he
    obtain⟨r1,r2,r3⟩:=(rd_last he).resolve_right (fun k=>k (by omega))
    rw[decide_eq_true (by omega)]
    refine Ev.step (f:=fun k=>if 0≤(wrap64 ((ls.length:Int) - 1))then(if(wrap64 ((ls.length:Int) - 1))<(ls.length:Int)then(some (t,rd_L1 ls (wrap64 ((ls.length:Int) - 1)),ls.take (wrap64 ((ls.length:Int) - 1)).toNat,true))else(none))else(none)) (fun k=>rfl) (ev_pos (by rw[r2];omega) (ev_pos (by rw[r2];omega) ?_))
    rw[r1,r3]
    exact Ev.now _
  ·rw[if_neg hb]
   exact ev_neg (fun k=>hb ((isNil a s).1 k)) go
 ·rw[if_neg hm]
  exact ev_neg hm (Ev.now _)
theorem tidyOk_len {t:Int} {l:List Int} (h:tidyOk t l=true):0<l.length∧l.length≤8:=by
 have h1:=(rankOk_iff.1 (tidyOk_iff.1 h).1).2.1
 have:=wn_le t
 omega
theorem mdo_len (t:Int) (l:List Int) (ls:List (List Int)) (a:Int) (s:ByteArray):(mdo t l ls a s).2.2.1.length≤ls.length+1:=by
 have no:(nope t l ls).2.2.1.length≤ls.length+1:=Nat.le_succ _
 unfold mdo
 split
 ·split
  ·exact no
  ·show(ls.dropLast).length≤_
   rw[List.length_dropLast];omega
 ·split
  ·split
   ·split
    ·exact no
    ·split
     ·exact no
     ·show(push l ls).length≤_
      unfold push
      split
      ·rw[List.length_drop,List.length_append,List.length_singleton];omega
      ·rw[List.length_append,List.length_singleton];omega
   ·exact no
  ·exact no
theorem MindDo_tot (t:Int) {l:List Int} {ls:List (List Int)} (hn:l.length≤100) (hs:ls.length≤9) (hl:∀y∈ls,y.length≤100) (a:Int) (s:ByteArray):
  ∃r1 r2 r3 r4,Ev (fun k=>spec_MindDo.f k t l ls a s) (r1,r2,r3,r4)∧(r4=true→(0<r2.length∧r2.length≤8)∧r3.length≤ls.length+1∧∀y∈r3,y.length≤8):=by
 have h:=spec_MindDo_ev (t:=t) (l:=l) (ls:=ls) (by omega) (by omega) (fun y hy=>by have:=hl y hy;omega) a s
 by_cases hm:mindOk t l ls=true
 ·rw[if_pos hm]at h
  obtain⟨o1,_,o3⟩:=mindOk_iff.1 (mdo_ok hm a s)
  exact⟨(mdo t l ls a s).1,(mdo t l ls a s).2.1,(mdo t l ls a s).2.2.1,(mdo t l ls a s).2.2.2,h,fun _=>⟨tidyOk_len o1,mdo_len t l ls a s,fun y hy=>(tidyOk_len (o3 y hy)).2⟩⟩
 ·rw[if_neg hm]at h
  exact⟨0,[],[],false,h,fun k=>by cases k⟩
theorem rankOk_tidy {t:Int} {l:List Int} (h:rankOk t l=true):rankOk t (tidyL l)=true:=by
 obtain⟨ht,hl,hx,h0⟩:=rankOk_iff.1 h
 have h8:=(wn_le t).1
 refine rankOk_iff.2 ⟨ht,by rw[tidyL_length];exact hl,fun y hy=>?_,?_⟩
 ·obtain⟨x,hx1,rfl⟩:=mem_tidyL.1 hy
  have:=lev_lt_length hx1 (hx x hx1).1
  omega
 ·exact mem_tidyL.2 ⟨0,h0,rfl⟩
theorem tidyOk_tidy {t:Int} {l:List Int} (h:rankOk t l=true):tidyOk t (tidyL l)=true:=by
 unfold tidyOk
 rw[rankOk_tidy h,tidyL_tidyL (fun x hx=>((rankOk_iff.1 h).2.2.1 x hx).1),decide_eq_true rfl]
 rfl
def newMind (t:Int) (l:List Int):Int×List Int×List (List Int):=if rankOk t l=true then(t,tidyL l,[])else(0,[],[])
theorem rank_short {t:Int} {l:List Int} (h:rankOk t l=true):l.length≤8:=by
 have:=(rankOk_iff.1 h).2.1
 have:=(wn_le t).1
 omega
theorem spec_MindNew_ev (t:Int) {l:List Int} (hn:l.length≤9223372036854775807):Ev (fun k=>spec_MindNew.f k t l) (newMind t l):=by
 unfold spec_MindNew.f newMind
 refine Ev.bind (RankOk_ev t hn) ?_
 by_cases h:rankOk t l=true
 ·rw[if_pos h]
  exact ev_pos h (Ev.bind (TidyRank_ev h) (Ev.now _))
 ·rw[if_neg h]
  exact ev_neg h (Ev.now _)
theorem alive_eq:laws_alive.f=some true:=by decide+kernel
/-- A code: bytes, not too many. -/
def Code (b:List Int):Prop:=b.length≤2000∧∀x,x∈b→0≤x∧x≤255
theorem code_at {b:List Int} (h:Code b) {i:Int} (h0:0≤i) (h1:i<(b.length:Int)):0≤rd b i∧rd b i≤255:=by
 obtain⟨n,rfl⟩:=Int.eq_ofNat_of_zero_le h0
 exact h.2 _ (rd_mem (by omega))
theorem xor_nonneg {x y:Int} (h0:0≤x) (h1:x<4611686018427387904) (k0:0≤y) (k1:y<4611686018427387904):0≤Go.bits .xor .i64 x y:=by
 obtain⟨a,rfl⟩:=Int.eq_ofNat_of_zero_le h0
 obtain⟨b,rfl⟩:=Int.eq_ofNat_of_zero_le k0
 rw[bxor a b (by omega) (by omega)]
 omega
theorem tmod_in {x n:Int} (h:0≤x) (hn:1≤n):0≤Int.tmod x n∧Int.tmod x n<n:=by
 rw[Int.tmod_eq_emod_of_nonneg h]
 exact⟨Int.emod_nonneg _ (by omega),Int.emod_lt_of_pos _ (by omega)⟩
theorem tdiv_in {x n:Int} (h:0≤x) (hn:1≤n):0≤Int.tdiv x n∧Int.tdiv x n≤x:=by
 rw[Int.tdiv_eq_ediv_of_nonneg h]
 exact⟨Int.ediv_nonneg h (by omega),Int.ediv_le_self _ h⟩
/-- One number that is drawn. -/
theorem pick_ev {b:List Int} (hb:Code b) {p:Int} (h0:0≤p) (h1:p≤1000000000) (n:Int):
  ∃r,Ev (fun k=>spec_l20Rd_pick.f k b p n) (r,p+1)∧0≤r∧(1≤n→r<n)∧(n<1→r=0):=by
 have hl:=hb.1
 have hw:wrap64 (p+1)=p+1:=w64 (by omega) (by omega)
 have hw2:wrap64 (p+1 - 1)=p:=by rw[w64 (by omega) (by omega)];omega
 unfold spec_l20Rd_pick.f
 rw[hw]
 by_cases hn:n<1
 ·refine⟨0,ev_pos hn (Ev.step (f:=fun _=>some (0,p+1)) (fun k=>rfl) (Ev.now _)),Int.le_refl _,fun h=>by omega,fun _=>rfl⟩
 ·by_cases he:(b.length:Int)=0
  ·refine⟨0,ev_neg hn ?_,Int.le_refl _,fun h=>by omega,fun _=>rfl⟩
   rw[he]
   exact Ev.step (f:=fun _=>some (0,p+1)) (fun k=>rfl) (Ev.now _)
  ·have he':((b.length:Int)==0)=false:=beq_eq_false_iff_ne.2 he
   by_cases hk:p<(b.length:Int)
   ·obtain⟨a1,a2⟩:=code_at hb h0 hk
    have hm:=tmod_in (x:=rd b p) (n:=n) a1 (by omega)
    refine⟨Int.tmod (rd b p) n,ev_neg hn ?_,hm.1,fun _=>hm.2,fun h=>by omega⟩
    rw[he']
    refine Ev.step (fun k=>rfl) ?_
    simp only[spec_l20Rd_pick.j0,hw2]
    refine ev_neg (by decide) (ev_pos hk (ev_pos h0 (ev_neg (by omega) (ev_eq (Ev.now _) ?_))))
    rw[w64 (by omega) (by omega)]
   ·have hlp:1≤(b.length:Int):=by omega
    have m1:=tmod_in (x:=p) (n:=(b.length:Int)) h0 hlp
    have e7:wrap64 (p*7)=p*7:=w64 (by omega) (by omega)
    have e73:wrap64 (p*7+3)=p*7+3:=w64 (by omega) (by omega)
    have m2:=tmod_in (x:=p*7+3) (n:=(b.length:Int)) (by omega) hlp
    have c1:=code_at hb m1.1 m1.2
    have c2:=code_at hb m2.1 m2.2
    have d1:=tdiv_in (x:=p) (n:=(b.length:Int)) h0 hlp
    generalize hA:rd b (Int.tmod p (b.length:Int))=A at c1
    generalize hB:rd b (Int.tmod (p*7+3) (b.length:Int))=B at c2
    generalize hD:Int.tdiv p (b.length:Int)=D at d1
    have hx0:0≤A*131+B*1117+p*29+D*53:=by omega
    have hx1:A*131+B*1117+p*29+D*53<4611686018427387904:=by omega
    have d2:=tdiv_in (x:=A*131+B*1117+p*29+D*53) (n:=64) hx0 (by omega)
    have hxor:=xor_nonneg hx0 hx1 d2.1 (by omega)
    have hm:=tmod_in (n:=n) hxor (by omega)
    refine⟨_,ev_neg hn ?_,hm.1,fun _=>hm.2,fun h=>by omega⟩
    rw[he']
    refine Ev.step (fun k=>rfl) ?_
    simp only[spec_l20Rd_pick.j0,hw2,e7,e73,hA,hB,hD]
    refine ev_neg (by decide) (ev_neg hk (ev_neg he (ev_pos m1.1 (ev_pos m1.2 (ev_pos m2.1 (ev_pos m2.2 (ev_neg (by omega) (ev_eq (Ev.now _) ?_))))))))
    rw[w64 (n:=A) (by omega) (by omega),w64 (n:=B) (by omega) (by omega),w64 (n:=A*131) (by omega) (by omega),w64 (n:=B*1117) (by omega) (by omega),w64 (n:=A*131+B*1117) (by omega) (by omega),w64 (n:=p*29) (by omega) (by omega),w64 (n:=A*131+B*1117+p*29) (by omega) (by omega),w64 (n:=D) (by omega) (by omega),w64 (n:=D*53) (by omega) (by omega),w64 (n:=A*131+B*1117+p*29+D*53) (by omega) (by omega),w64 (n:=Int.tdiv _ 64) (by omega) (by omega)]
theorem odd_ev {b:List Int} (hb:Code b) {p:Int} (h0:0≤p) (h1:p≤1000000000) (n:Int):
  ∃r p',Ev (fun k=>spec_l20Rd_odd.f k b p n) (r,p')∧p≤p'∧p'≤p+1:=by
 unfold spec_l20Rd_odd.f
 by_cases hn:n>0
 ·obtain⟨r,hr,_⟩:=pick_ev hb h0 h1 n
  exact⟨_,p+1,ev_pos hn (Ev.bind hr (Ev.now _)),by omega,by omega⟩
 ·exact⟨false,p,ev_neg hn (Ev.now _),by omega,by omega⟩
theorem open_ev {c:List Int} (h:∀x∈c,(Lit.int .u8 x).wf=true):∃b,spec_l20Open.f c=some (b,0)∧Code b:=by
 have hc:∀x,x∈c→0≤x∧x≤255:=fun x hx=>by
  have:=h x hx
  simp[Lit.wf,IntKind.min,IntKind.max,IntKind.signed,IntKind.bits]at this
  omega
 unfold spec_l20Open.f
 by_cases hl:(c.length:Int)>2000
 ·refine⟨c.take 2000,by rw[if_pos hl,if_pos (by omega)],by rw[List.length_take];omega,fun x hx=>hc x (List.mem_of_mem_take hx)⟩
 ·exact⟨c,by rw[if_neg hl],by omega,hc⟩

theorem things_ev {b:List Int} (hb:Code b) {p:Int} (h0:0≤p) (h1:p≤900000000) (n:Int):
  ∃r p',Ev (fun k=>spec_l20Things.f k b p n) (r,p')∧p≤p'∧p'≤p+2:=by
 obtain⟨o,p1,ho,a1,a2⟩:=odd_ev hb h0 (by omega) n
 unfold spec_l20Things.f
 cases o
 ·obtain⟨r,hr,r0,r1,_⟩:=pick_ev hb (p:=p1) (by omega) (by omega) 5
  have r1:=r1 (by omega)
  exact⟨_,p1+1,Ev.bind ho (ev_neg Bool.false_ne_true (ev_bindc rfl (Ev.bind hr (ev_pos r0 (ev_pos (by simpa using r1) (Ev.now _)))))),by omega,by omega⟩
 ·obtain⟨r,hr,r0,r1,_⟩:=pick_ev hb (p:=p1) (by omega) (by omega) 3
  have r1:=r1 (by omega)
  exact⟨_,p1+1,Ev.bind ho (ev_pos rfl (ev_bindc rfl (Ev.bind hr (ev_pos r0 (ev_pos (by simpa using r1) (Ev.now _)))))),by omega,by omega⟩
/-- Of how many places a drawn rank is. -/
theorem worlds_ev (t:Int):∃v,spec_WorldsOf.f t=some v∧v≤8:=by
 unfold spec_WorldsOf.f
 rw[l1In_eq,Option.bind_some]
 by_cases h:1≤t∧t≤3
 ·rw[decide_eq_true h,if_pos rfl,if_pos (by omega)]
  have:t=1∨t=2∨t=3:=by omega
  rcases this with rfl|rfl|rfl
  ·exact⟨2,by decide+kernel,by omega⟩
  ·exact⟨4,by decide+kernel,by omega⟩
  ·exact⟨8,by decide+kernel,by omega⟩
 ·rw[decide_eq_false h,if_neg (by decide)]
  exact⟨-1,rfl,by omega⟩
theorem rank_l1 (b:List Int) (p:Int) (m:Nat) (hm:m≤8):∀i,i≤m→∀l:List Int,l.length=m→∃r,Ev (fun k=>spec_l20Rank.l1 k l (m:Int) (i:Int) b p) (r,p)∧r.length=m:=by
 apply down
 ·intro l hl
  exact⟨l,Ev.step (fun k=>rfl) (ev_neg (by omega) (Ev.now _)),hl⟩
 ·intro i hi ih l hl
  obtain⟨r,h1,h2⟩:=ih (l.set (i:Int).toNat (wrap64 ((rd l (i:Int))+1))) (by rw[List.length_set];exact hl)
  refine⟨r,Ev.step (fun k=>rfl) (ev_pos (by omega) (ev_pos (by omega) (ev_pos (by omega) ?_))),h2⟩
  rw[w1 hi (by omega)]
  exact h1
theorem rank_l0 {b:List Int} (hb:Code b) (n:Int) {x:Int} (x0:0≤x) (x1:x<3) (m:Nat) (hm:m≤8) (hm1:1≤m):∀i,i≤m→∀(l:List Int) (p:Int),l.length=i→0≤p→p+10*(m - i:Nat)≤800000000→
  ∃r p',Ev (fun k=>spec_l20Rank.l0 k n l (m:Int) x (i:Int) b p) (r,p')∧p≤p'∧p'≤p+10*(m - i:Nat)+10∧r.length≤9:=by
 apply down
 ·intro l p hl h0 h1
  obtain⟨j,hj,j0,j1,_⟩:=pick_ev hb (p:=p) (by omega) (by omega) (m:Int)
  have j1:=j1 (by omega)
  obtain⟨o,p1,ho,a1,a2⟩:=odd_ev hb (p:=p+1) (by omega) (by omega) n
  have hlen:(l.set (j:Int).toNat 0).length=m:=by rw[List.length_set];exact hl
  have pre:∀{r:List Int×Int},Ev (fun k=>if(o=true)then(spec_l20Rd_pick.f k b p1 3).bind fun bt534=>(if bt534.1=0 then(if(l.set (j:Int).toNat 0).length<17592186044416 then(some (((l.set (j:Int).toNat 0)++ [0]),bt534.2))else(none))else(if bt534.1=1 then(if 0<(l.length:Int)then(some (((l.set (j:Int).toNat 0).set (0:Int).toNat (-1)),bt534.2))else(none))else(spec_l20Rank.l1 k (l.set (j:Int).toNat 0) (m:Int) 0 b bt534.2)))else(some (l.set (j:Int).toNat 0,p1))) r→Ev (fun k=>spec_l20Rank.l0 k n l (m:Int) x ((m:Nat):Int) b p) r:=by
   intro r hr
   exact Ev.step (fun k=>rfl) (ev_neg (by omega) (Ev.bind hj (ev_pos j0 (ev_pos (by omega) (ev_bindc rfl (Ev.bind ho hr))))))
  cases o
  ·exact⟨l.set (j:Int).toNat 0,p1,pre (ev_ff (Ev.now _)),by omega,by omega,by omega⟩
  ·obtain⟨y,hy,y0,y1,_⟩:=pick_ev hb (p:=p1) (by omega) (by omega) 3
   have y1:=y1 (by omega)
   by_cases e0:y=0
   ·refine⟨l.set (j:Int).toNat 0++ [0],p1+1,pre (ev_tt (Ev.bind hy (ev_pos e0 (ev_pos (by omega) (Ev.now _))))),by omega,by omega,?_⟩
    rw[List.length_append,hlen,List.length_singleton];omega
   ·by_cases e1:y=1
    ·refine⟨(l.set (j:Int).toNat 0).set (0:Int).toNat (-1),p1+1,pre (ev_tt (Ev.bind hy (ev_neg e0 (ev_pos e1 (ev_pos (by omega) (Ev.now _)))))),by omega,by omega,?_⟩
     rw[List.length_set,hlen];omega
    ·obtain⟨r,hr,hr2⟩:=rank_l1 b (p1+1) m hm 0 (Nat.zero_le _) _ hlen
     exact⟨r,p1+1,pre (ev_tt (Ev.bind hy (ev_neg e0 (ev_neg e1 hr)))),by omega,by omega,by omega⟩
 ·intro i hi ih l p hl h0 h1
  obtain⟨z,hz,_,_,_⟩:=pick_ev hb (p:=p) (by omega) (by omega) (rd [2,4,10] x)
  obtain⟨r,p',hr,b1,b2,b3⟩:=ih (l++ [z]) (p+1) (by rw[List.length_append,hl];rfl) (by omega) (by omega)
  refine⟨r,p',Ev.step (fun k=>rfl) (ev_pos (by omega) (ev_bindc rfl (ev_pos x0 (ev_pos (by simpa using x1) (Ev.bind hz (ev_pos (by omega) ?_)))))),by omega,by omega,b3⟩
  rw[w1 hi (by omega)]
  exact hr
/-- A drawn rank: a row of at most nine numbers. -/
theorem rank_ev {b:List Int} (hb:Code b) {p:Int} (h0:0≤p) (h1:p≤700000000) (t n:Int):
  ∃r p',Ev (fun k=>spec_l20Rank.f k b p t n) (r,p')∧p≤p'∧p'≤p+100∧r.length≤9:=by
 obtain⟨v,hv,hv8⟩:=worlds_ev t
 obtain⟨x,hx,x0,x1,_⟩:=pick_ev hb h0 (by omega) 3
 have x1:=x1 (by omega)
 have hmx:1≤mx v 1∧mx v 1≤8:=by unfold mx;split<;>omega
 obtain⟨m,hm⟩:=Int.eq_ofNat_of_zero_le (show 0≤mx v 1 by omega)
 obtain⟨r,p',hr,b1,b2,b3⟩:=rank_l0 hb n x0 x1 m (by omega) (by omega) 0 (Nat.zero_le _) [] (p+1) rfl (by omega) (by omega)
 unfold spec_l20Rank.f
 refine⟨r,p',ev_bindc hv (Ev.bind hx ?_),by omega,by omega,b3⟩
 rw[hm]
 exact hr
/-! ### sentences -/
theorem sent_tt {b:List Int} (hb:Code b) {p:Int} (h0:0≤p) (h1:p≤900000000) (t d:Int):
  ∃s,Ev (fun k=>spec_l20Sentence.j0 k t d true b p) (s,p+2)∧s.size≤1:=by
 obtain⟨i,hi,i0,i1,_⟩:=pick_ev hb (p:=p) h0 (by omega) 8
 have i1:=i1 (by omega)
 have hm:1≤mx (mn t 3) 1∧mx (mn t 3) 1≤3:=by unfold mx mn;split<;>split<;>omega
 have hd:Int.tdiv i 7=0∨Int.tdiv i 7=1:=by
  rw[Int.tdiv_eq_ediv_of_nonneg i0]
  omega
 generalize hn:wrap64 ((mx (mn t 3) 1)+(wrap64 ((wrap64 (Int.tdiv i 7))*3)))=n
 have hn1:1≤n∧n≤6:=by
  rw[←hn]
  rcases hd with e|e
  ·rw[e,w64 (n:=(0:Int)) (by omega) (by omega),w64 (n:=(0:Int)*3) (by omega) (by omega),w64 (by omega) (by omega)];omega
  ·rw[e,w64 (n:=(1:Int)) (by omega) (by omega),w64 (n:=(1:Int)*3) (by omega) (by omega),w64 (by omega) (by omega)];omega
 obtain⟨j,hj,j0,j1,_⟩:=pick_ev hb (p:=p+1) (by omega) (by omega) n
 have j1:=j1 hn1.1
 have e2:p+1+1=p+2:=by omega
 rw[e2]at hj
 refine⟨rdOf ByteArray.empty [(⟨#[97]⟩:ByteArray),(⟨#[98]⟩:ByteArray),(⟨#[99]⟩:ByteArray),(⟨#[97]⟩:ByteArray),(⟨#[48]⟩:ByteArray),(⟨#[49]⟩:ByteArray)] j,Ev.step (f:=fun k=>((some (([(⟨#[97]⟩:ByteArray),(⟨#[98]⟩:ByteArray),(⟨#[99]⟩:ByteArray),(⟨#[97]⟩:ByteArray),(⟨#[48]⟩:ByteArray),(⟨#[49]⟩:ByteArray)]:List ByteArray):List ByteArray)).bind fun y266=>((spec_l20Rd_pick.f k b p 8).bind fun bt269=>((spec_l20Rd_pick.f k b bt269.2 (wrap64 ((mx (mn t 3) 1)+(wrap64 ((wrap64 (Int.tdiv bt269.1 7))*3))))).bind fun bt271=>(if 0≤bt271.1 then(if bt271.1<(y266.length:Int)then(some (rdOf ByteArray.empty y266 bt271.1,bt271.2))else(none))else(none)))))) (fun k=>rfl) (ev_bindc rfl (Ev.bind hi ?_)),?_⟩
 ·rw[hn]
  exact Ev.bind hj (ev_pos j0 (ev_pos (by show j<6;omega) (Ev.now _)))
 ·have:j=0∨j=1∨j=2∨j=3∨j=4∨j=5:=by omega
  rcases this with rfl|rfl|rfl|rfl|rfl|rfl<;>decide+kernel
theorem sent_next {b:List Int} (hb:Code b) (t:Int) (d c m:Nat) (hd:d<100) (hc:c≤1000) (hm:m≤1000)
  (H:∀p:Int,0≤p→p≤900000000 - 2*c - 10→∃s p',Ev (fun k=>spec_l20Sentence.f k b p t (d:Int)) (s,p')∧p≤p'∧p'≤p+c∧s.size≤m):
  ∀p:Int,0≤p→p≤900000000 - 2*(2*c+5:Nat) - 10→∃s p',Ev (fun k=>spec_l20Sentence.f k b p t ((d+1:Nat):Int)) (s,p')∧p≤p'∧p'≤p+(2*c+5:Nat)∧s.size≤2*m+3:=by
 intro p h0 h1
 obtain⟨y,hy,_,_,_⟩:=pick_ev hb h0 (by omega) 3
 have hd1:wrap64 (((d+1:Nat):Int) - 1)=(d:Int):=by rw[w64 (by omega) (by omega)];omega
 have st:∀{r},Ev (fun k=>spec_l20Sentence.j0 k t ((d+1:Nat):Int) (y==0) b (p+1)) r→Ev (fun k=>spec_l20Sentence.f k b p t ((d+1:Nat):Int)) r:=fun h=>Ev.step (f:=fun k=>if((d+1:Nat):Int)=0 then(spec_l20Sentence.j0 k t ((d+1:Nat):Int) true b p)else((spec_l20Rd_pick.f k b p 3).bind fun bt264=>(spec_l20Sentence.j0 k t ((d+1:Nat):Int) (bt264.1==0) b bt264.2))) (fun k=>rfl) (ev_neg (by omega) (Ev.bind hy h))
 by_cases e0:y=0
 ·obtain⟨s,hs,h2⟩:=sent_tt hb (p:=p+1) (by omega) (by omega) t ((d+1:Nat):Int)
  have eb:(y==0)=true:=beq_iff_eq.2 e0
  rw[eb]at st
  exact⟨s,p+1+2,st hs,by omega,by omega,by omega⟩
 ·have eb:(y==0)=false:=beq_eq_false_iff_ne.2 e0
  rw[eb]at st
  obtain⟨z,hz,_,_,_⟩:=pick_ev hb (p:=p+1) (by omega) (by omega) 4
  obtain⟨s1,p1,hs1,a1,a2,a3⟩:=H (p+1+1) (by omega) (by omega)
  obtain⟨s2,p2,hs2,b1,b2,b3⟩:=H p1 (by omega) (by omega)
  rw[←hd1]at hs1 hs2
  have sz1:∀x:ByteArray,x.size=1→((x++s1)++x).size=s1.size+2:=fun x hx=>by rw[ByteArray.size_append,ByteArray.size_append,hx];omega
  have one:∀x:UInt8,(⟨#[x]⟩:ByteArray).size=1:=fun x=>rfl
  by_cases z0:z=0
  ·refine⟨(⟨#[33]⟩:ByteArray)++s1,p1,st (Ev.step (fun k=>rfl) (Ev.bind hz (ev_pos z0 (Ev.bind hs1 (ev_pos (by dsimp only;(try simp only[ByteArray.size_append,one]);omega) (Ev.now _)))))),by omega,by omega,?_⟩
   rw[ByteArray.size_append,one];omega
  by_cases z1:z=1
  ·refine⟨((((⟨#[40]⟩:ByteArray)++s1)++(⟨#[38]⟩:ByteArray))++s2)++(⟨#[41]⟩:ByteArray),p2,st (Ev.step (fun k=>rfl) (Ev.bind hz (ev_neg z0 (ev_pos z1 (Ev.bind hs1 (ev_pos (by dsimp only;(try simp only[ByteArray.size_append,one]);omega) (ev_pos (by dsimp only;(try simp only[ByteArray.size_append,one]);omega) (Ev.bind hs2 (ev_pos (by dsimp only;(try simp only[ByteArray.size_append,one]);omega) (ev_pos (by dsimp only;(try simp only[ByteArray.size_append,one]);omega) (Ev.now _))))))))))),by omega,by omega,?_⟩
   simp only[ByteArray.size_append,one];omega
  by_cases z2:z=2
  ·refine⟨((((⟨#[40]⟩:ByteArray)++s1)++(⟨#[124]⟩:ByteArray))++s2)++(⟨#[41]⟩:ByteArray),p2,st (Ev.step (fun k=>rfl) (Ev.bind hz (ev_neg z0 (ev_neg z1 (ev_pos z2 (Ev.bind hs1 (ev_pos (by dsimp only;(try simp only[ByteArray.size_append,one]);omega) (ev_pos (by dsimp only;(try simp only[ByteArray.size_append,one]);omega) (Ev.bind hs2 (ev_pos (by dsimp only;(try simp only[ByteArray.size_append,one]);omega) (ev_pos (by dsimp only;(try simp only[ByteArray.size_append,one]);omega) (Ev.now _)))))))))))),by omega,by omega,?_⟩
   simp only[ByteArray.size_append,one];omega
  ·refine⟨((((⟨#[40]⟩:ByteArray)++s1)++(⟨#[62]⟩:ByteArray))++s2)++(⟨#[41]⟩:ByteArray),p2,st (Ev.step (fun k=>rfl) (Ev.bind hz (ev_neg z0 (ev_neg z1 (ev_neg z2 (Ev.bind hs1 (ev_pos (by dsimp only;(try simp only[ByteArray.size_append,one]);omega) (ev_pos (by dsimp only;(try simp only[ByteArray.size_append,one]);omega) (Ev.bind hs2 (ev_pos (by dsimp only;(try simp only[ByteArray.size_append,one]);omega) (ev_pos (by dsimp only;(try simp only[ByteArray.size_append,one]);omega) (Ev.now _)))))))))))),by omega,by omega,?_⟩
   simp only[ByteArray.size_append,one];omega
theorem sent_ev {b:List Int} (hb:Code b) (t:Int) {p:Int} (h0:0≤p) (h1:p≤800000000):∃s p',Ev (fun k=>spec_l20Sentence.f k b p t 2) (s,p')∧p≤p'∧p'≤p+30∧s.size≤20:=by
 have H0:∀p:Int,0≤p→p≤900000000 - 2*(2:Nat) - 10→∃s p',Ev (fun k=>spec_l20Sentence.f k b p t ((0:Nat):Int)) (s,p')∧p≤p'∧p'≤p+(2:Nat)∧s.size≤1:=by
  intro p h0 h1
  obtain⟨s,hs,h2⟩:=sent_tt hb (p:=p) h0 (by omega) t ((0:Nat):Int)
  exact⟨s,p+2,Ev.step (f:=fun k=>if((0:Nat):Int)=0 then(spec_l20Sentence.j0 k t ((0:Nat):Int) true b p)else((spec_l20Rd_pick.f k b p 3).bind fun bt264=>(spec_l20Sentence.j0 k t ((0:Nat):Int) (bt264.1==0) b bt264.2))) (fun k=>rfl) (ev_pos rfl hs),by omega,by omega,h2⟩
 have H1:=sent_next hb t 0 2 1 (by omega) (by omega) (by omega) H0
 have H2:=sent_next hb t 1 9 5 (by omega) (by omega) (by omega) H1
 obtain⟨s,p',a,b1,b2,b3⟩:=H2 p h0 (by omega)
 exact⟨s,p',a,b1,by omega,by omega⟩
theorem odd0 (b:List Int) (p:Int):Ev (fun k=>spec_l20Rd_odd.f k b p 0) (false,p):=by
 unfold spec_l20Rd_odd.f
 exact ev_neg (by omega) (Ev.now _)
theorem things0_ev {b:List Int} (hb:Code b) {p:Int} (h0:0≤p) (h1:p≤900000000):
  ∃r,Ev (fun k=>spec_l20Things.f k b p 0) (r,p+1)∧1≤r∧r≤3:=by
 unfold spec_l20Things.f
 obtain⟨r,hr,r0,r1,_⟩:=pick_ev hb (p:=p) h0 (by omega) 5
 have r1:=r1 (by omega)
 refine⟨rd [1,2,2,3,3] r,Ev.bind (odd0 b p) (ev_neg Bool.false_ne_true (ev_bindc rfl (Ev.bind hr (ev_pos r0 (ev_pos (by simpa using r1) (Ev.now _)))))),?_⟩
 have:r=0∨r=1∨r=2∨r=3∨r=4:=by omega
 rcases this with rfl|rfl|rfl|rfl|rfl<;>decide+kernel
theorem rank0_l0 {b:List Int} (hb:Code b) {t:Int} (ht:1≤t∧t≤3) {x:Int} (x0:0≤x) (x1:x<3):∀i:Nat,i≤wn t→∀(l:List Int) (p:Int),l.length=i→(∀y∈l,0≤y∧y≤9)→0≤p→p+10*(wn t - i:Nat)≤800000000→
  ∃r p',Ev (fun k=>spec_l20Rank.l0 k 0 l (wn t:Int) x (i:Int) b p) (r,p')∧p≤p'∧p'≤p+10*(wn t - i:Nat)+10∧rankOk t r=true:=by
 have hw:=wn_le t
 apply down
 ·intro l p hl hx h0 h1
  obtain⟨j,hj,j0,j1,_⟩:=pick_ev hb (p:=p) (by omega) (by omega) (wn t:Int)
  have j1:=j1 (by omega)
  obtain⟨m,rfl⟩:=Int.eq_ofNat_of_zero_le j0
  have hm:m<l.length:=by omega
  refine⟨l.set ((m:Int)).toNat 0,p+1,Ev.step (fun k=>rfl) (ev_neg (by omega) (Ev.bind hj (ev_pos j0 (ev_pos (by omega) (ev_bindc rfl (Ev.bind (odd0 b (p+1)) (ev_ff (Ev.now _)))))))),by omega,by omega,rankOk_iff.2 ⟨ht,by rw[List.length_set,hl],fun y hy=>?_,?_⟩⟩
  ·rcases List.mem_or_eq_of_mem_set hy with h|rfl
   ·exact hx y h
   ·omega
  ·rw[Int.toNat_natCast]
   exact List.mem_set hm 0
 ·intro i hi ih l p hl hx h0 h1
  obtain⟨z,hz,z0,z1,_⟩:=pick_ev hb (p:=p) (by omega) (by omega) (rd [2,4,10] x)
  have hq:1≤rd [2,4,10] x∧rd [2,4,10] x≤10:=by
   have:x=0∨x=1∨x=2:=by omega
   rcases this with rfl|rfl|rfl<;>decide+kernel
  have z1:=z1 hq.1
  obtain⟨r,p',hr,b1,b2,b3⟩:=ih (l++ [z]) (p+1) (by rw[List.length_append,hl];rfl) (fun y hy=>by
   rcases List.mem_append.1 hy with h|h
   ·exact hx y h
   ·rw[List.mem_singleton.1 h];omega) (by omega) (by omega)
  refine⟨r,p',Ev.step (fun k=>rfl) (ev_pos (by omega) (ev_bindc rfl (ev_pos x0 (ev_pos (by simpa using x1) (Ev.bind hz (ev_pos (by omega) ?_)))))),by omega,by omega,b3⟩
  rw[w1 hi (by omega)]
  exact hr
theorem rank0_ev {b:List Int} (hb:Code b) {p:Int} (h0:0≤p) (h1:p≤700000000) {t:Int} (ht:1≤t∧t≤3):
  ∃r p',Ev (fun k=>spec_l20Rank.f k b p t 0) (r,p')∧p≤p'∧p'≤p+100∧rankOk t r=true:=by
 have hw:=wn_le t
 have hv:spec_WorldsOf.f t=some (wn t:Int):=by
  unfold spec_WorldsOf.f
  rw[l1In_eq,Option.bind_some,decide_eq_true ht,if_pos rfl,if_pos (by omega),shl_wn ht]
 obtain⟨x,hx,x0,x1,_⟩:=pick_ev hb h0 (by omega) 3
 have x1:=x1 (by omega)
 have hmx:mx (wn t:Int) 1=(wn t:Int):=by unfold mx;split<;>omega
 obtain⟨r,p',hr,b1,b2,b3⟩:=rank0_l0 hb ht x0 x1 0 (Nat.zero_le _) [] (p+1) rfl (by simp) (by omega) (by omega)
 unfold spec_l20Rank.f
 refine⟨r,p',ev_bindc hv (Ev.bind hx ?_),by omega,by omega,b3⟩
 rw[hmx]
 exact hr
/-! ### deeds -/
theorem deed_ev {b:List Int} (hb:Code b) (t:Int) (l:List Int) (ls:List (List Int)) {p:Int} (h0:0≤p) (h1:p≤700000000):∃a s p',Ev (fun k=>spec_l20Deed.f k b p t l ls) (a,s,p')∧p≤p'∧p'≤p+40∧s.size≤21:=by
 obtain⟨i,hi,i0,i1,_⟩:=pick_ev hb (p:=p) h0 (by omega) 7
 have i1:=i1 (by omega)
 obtain⟨j,hj,_,_,_⟩:=pick_ev hb (p:=p+1) (by omega) (by omega) 60
 unfold spec_l20Deed.f
 generalize hK:wrap64 ((rd [0,0,0,1,1,1,2] i)+(wrap64 ((wrap64 (Int.tdiv j 59))*3)))=K
 have one:∀x:UInt8,(⟨#[x]⟩:ByteArray).size=1:=fun x=>rfl
 by_cases e:K=2
 ·obtain⟨o,p1,ho,a1,a2⟩:=odd_ev hb (p:=p+1+1) (by omega) (by omega) 40
  cases o with
  |true=>
   refine⟨K,(⟨#[]⟩:ByteArray)++(⟨#[41]⟩:ByteArray),p1,ev_bindc rfl (Ev.bind hi (ev_pos i0 (ev_pos (by show i<7;omega) (Ev.bind hj ?_)))),by omega,by omega,by decide⟩
   simp only[hK]
   exact ev_pos e (Ev.bind ho (ev_tt (ev_pos (by decide) (Ev.now _))))
  |false=>
   refine⟨K,(⟨#[]⟩:ByteArray),p1,ev_bindc rfl (Ev.bind hi (ev_pos i0 (ev_pos (by show i<7;omega) (Ev.bind hj ?_)))),by omega,by omega,by decide⟩
   simp only[hK]
   exact ev_pos e (Ev.bind ho (ev_ff (Ev.now _)))
 ·obtain⟨s,p2,hs,c1,c2,c3⟩:=sent_ev hb t (p:=p+1+1) (by omega) (by omega)
  obtain⟨o,p1,ho,a1,a2⟩:=odd_ev hb (p:=p2) (by omega) (by omega) 40
  cases o with
  |true=>
   refine⟨K,s++(⟨#[41]⟩:ByteArray),p1,ev_bindc rfl (Ev.bind hi (ev_pos i0 (ev_pos (by show i<7;omega) (Ev.bind hj ?_)))),by omega,by omega,by rw[ByteArray.size_append,one];omega⟩
   simp only[hK]
   exact ev_neg e (Ev.bind hs (Ev.bind ho (ev_tt (ev_pos (by show s.size+1≤_;omega) (Ev.now _)))))
  |false=>
   refine⟨K,s,p1,ev_bindc rfl (Ev.bind hi (ev_pos i0 (ev_pos (by show i<7;omega) (Ev.bind hj ?_)))),by omega,by omega,by omega⟩
   simp only[hK]
   exact ev_neg e (Ev.bind hs (Ev.bind ho (ev_ff (Ev.now _))))
/-! ### minds -/
theorem mind_l0 {b:List Int} (hb:Code b) (n:Int):∀(x:Nat) (t:Int) (l:List Int) (ls:List (List Int)) (p:Int),x≤5→0≤p→p+100*x≤600000000→0<l.length→l.length≤8→ls.length+x≤5→(∀y∈ls,y.length≤8)→
  ∃t' l' ls' p',Ev (fun k=>spec_l20Mind.l0 k n (x:Int) b p t l ls) (t',l',ls',p')∧p≤p'∧p'≤p+100*x+10∧l'.length≤8∧ls'.length≤6∧∀y∈ls',y.length≤8:=by
 intro x
 induction x with
 |zero=>
  intro t l ls p _ h0 h1 hl0 hl8 hs hr
  obtain⟨o,p1,ho,a1,a2⟩:=odd_ev hb h0 (by omega) n
  cases o with
  |false=>exact⟨t,l,ls,p1,Ev.step (fun k=>rfl) (ev_neg (by omega) (Ev.bind ho (ev_ff (Ev.now _)))),by omega,by omega,hl8,by omega,hr⟩
  |true=>
   obtain⟨z,hz,z0,z1,_⟩:=pick_ev hb (p:=p1) (by omega) (by omega) 3
   by_cases e0:z=0
   ·exact⟨4,l,ls,p1+1,Ev.step (fun k=>rfl) (ev_neg (by omega) (Ev.bind ho (ev_tt (Ev.bind hz (ev_pos e0 (Ev.now _)))))),by omega,by omega,hl8,by omega,hr⟩
   by_cases e1:z=1
   ·exact⟨t,l.set (0:Int).toNat 9,ls,p1+1,Ev.step (fun k=>rfl) (ev_neg (by omega) (Ev.bind ho (ev_tt (Ev.bind hz (ev_neg e0 (ev_pos e1 (ev_pos (by omega) (Ev.now _)))))))),by omega,by omega,by rw[List.length_set];exact hl8,by omega,hr⟩
   ·refine⟨t,l,ls++ [[1]],p1+1,Ev.step (fun k=>rfl) (ev_neg (by omega) (Ev.bind ho (ev_tt (Ev.bind hz (ev_neg e0 (ev_neg e1 (ev_pos (by omega) (Ev.now _)))))))),by omega,by omega,hl8,by rw[List.length_append,List.length_singleton];omega,fun y hy=>?_⟩
    rcases List.mem_append.1 hy with h|h
    ·exact hr y h
    ·rw[List.mem_singleton.1 h];decide
 |succ x ih=>
  intro t l ls p hx h0 h1 hl0 hl8 hs hr
  obtain⟨a,s,p1,hd,a1,a2,a3⟩:=deed_ev hb t l ls h0 (by omega)
  obtain⟨r1,r2,r3,r4,hm,hgood⟩:=MindDo_tot t (l:=l) (ls:=ls) (by omega) (by omega) (fun y hy=>by have:=hr y hy;omega) a s
  have hw:wrap64 (((x+1:Nat):Int) - 1)=(x:Int):=by rw[w64 (by omega) (by omega)];omega
  cases r4 with
  |true=>
   obtain⟨g1,g2,g3⟩:=hgood rfl
   obtain⟨t',l',ls',p',h2,b1,b2,b3⟩:=ih r1 r2 r3 p1 (by omega) (by omega) (by omega) g1.1 g1.2 (by omega) g3
   refine⟨t',l',ls',p',Ev.step (fun k=>rfl) (ev_pos (by omega) (Ev.bind hd (Ev.bind hm (ev_tt ?_)))),by omega,by omega,b3⟩
   rw[hw]
   exact h2
  |false=>
   obtain⟨t',l',ls',p',h2,b1,b2,b3⟩:=ih t l ls p1 (by omega) (by omega) (by omega) hl0 hl8 (by omega) hr
   refine⟨t',l',ls',p',Ev.step (fun k=>rfl) (ev_pos (by omega) (Ev.bind hd (Ev.bind hm (ev_ff ?_)))),by omega,by omega,b3⟩
   rw[hw]
   exact h2
theorem mind_ev {b:List Int} (hb:Code b) (n:Int) {p:Int} (h0:0≤p) (h1:p≤500000000):
  ∃t l ls p',Ev (fun k=>spec_l20Mind.f k b p n) (t,l,ls,p')∧p≤p'∧p'≤p+1000∧l.length≤8∧ls.length≤6∧∀y∈ls,y.length≤8:=by
 unfold spec_l20Mind.f
 obtain⟨t,ht,t0,t1⟩:=things0_ev hb h0 (by omega)
 obtain⟨l,p1,hl,a1,a2,a3⟩:=rank0_ev hb (p:=p+1) (by omega) (by omega) (t:=t) ⟨t0,t1⟩
 have h8:=rank_short a3
 have hw:=wn_le t
 have hlen:=(rankOk_iff.1 a3).2.1
 have hn:=spec_MindNew_ev t (l:=l) (by omega)
 have en:newMind t l=(t,tidyL l,[]):=if_pos a3
 rw[en]at hn
 obtain⟨x,hx,x0,x1,_⟩:=pick_ev hb (p:=p1) (by omega) (by omega) 6
 have x1:=x1 (by omega)
 obtain⟨m,rfl⟩:=Int.eq_ofNat_of_zero_le x0
 obtain⟨t',l',ls',p',h2,b1,b2,b3⟩:=mind_l0 hb n m t (tidyL l) [] (p1+1) (by omega) (by omega) (by omega) (by rw[tidyL_length];omega) (by rw[tidyL_length];omega) (by simp only[List.length_nil];omega) (by simp)
 exact⟨t',l',ls',p',Ev.bind ht (Ev.bind hl (Ev.bind hn (Ev.bind hx h2))),by omega,by omega,b3⟩
theorem MindDo_big (t:Int) {l:List Int} {ls:List (List Int)} (hn:l.length≤100) (hs:ls.length≤9223372036854775800) (hl:∀y∈ls,y.length≤100) (a:Int) (s:ByteArray):
    ∃r1 r2 r3 r4,Ev (fun k=>spec_MindDo.f k t l ls a s) (r1,r2,r3,r4)∧(r4=true→(0<r2.length∧r2.length≤8)∧r3.length≤ls.length+1∧∀y∈r3,y.length≤8):=by
  have h:=spec_MindDo_ev (t:=t) (l:=l) (ls:=ls) (by omega) (by omega) (fun y hy=>by have:=hl y hy;omega) a s
  by_cases hm:mindOk t l ls=true
  · rw[if_pos hm]at h
    obtain⟨o1,_,o3⟩:=mindOk_iff.1 (mdo_ok hm a s)
    exact⟨(mdo t l ls a s).1,(mdo t l ls a s).2.1,(mdo t l ls a s).2.2.1,(mdo t l ls a s).2.2.2,h,fun _=>⟨tidyOk_len o1,mdo_len t l ls a s,fun y hy=>(tidyOk_len (o3 y hy)).2⟩⟩
  · rw[if_neg hm]at h
    exact⟨0,[],[],false,h,fun k=>by cases k⟩
theorem deeds_l0 {b:List Int} (hb:Code b):∀(x:Nat) (q:List S26) (t:Int) (l:List Int) (ls:List (List Int)) (p:Int),x≤6→q.length+x≤6→(∀y∈q,y.f1.size≤21)→0≤p→p+100*x≤600000000→l.length≤100→ls.length+x≤9223372036854775800→(∀y∈ls,y.length≤100)→
    ∃q' p',Ev (fun k=>spec_l20Deeds.l0 k q (x:Int) b p t l ls) (q',p')∧p≤p'∧p'≤p+100*x∧q'.length≤6∧∀y∈q',y.f1.size≤21:=by
  intro x
  induction x with
  |zero=>
    intro q t l ls p _ hq hs h0 h1 _ _ _
    exact⟨q,p,Ev.step (fun k=>rfl) (ev_neg (by omega) (Ev.now _)),by omega,by omega,by omega,hs⟩
  |succ x ih=>
    intro q t l ls p hx hq hs h0 h1 hl hls hr
    obtain⟨a,s,p1,hd,a1,a2,a3⟩:=deed_ev hb t l ls h0 (by omega)
    obtain⟨r1,r2,r3,r4,hm,hgood⟩:=MindDo_big t (l:=l) (ls:=ls) (by omega) (by omega) hr a s
    have hw:wrap64 (((x+1:Nat):Int) - 1)=(x:Int):=by rw[w64 (by omega) (by omega)];omega
    have hq2:(q++ [(⟨a,s⟩:S26)]).length=q.length+1:=by rw[List.length_append,List.length_singleton]
    have hs2:∀y∈q++ [(⟨a,s⟩:S26)],y.f1.size≤21:=fun y hy=>by
      rcases List.mem_append.1 hy with h|h
      · exact hs y h
      · rw[List.mem_singleton.1 h];exact a3
    cases r4 with
    |true=>
      obtain⟨g1,g2,g3⟩:=hgood rfl
      obtain⟨q',p',h2,b1,b2,b3⟩:=ih (q++ [(⟨a,s⟩:S26)]) r1 r2 r3 p1 (by omega) (by omega) hs2 (by omega) (by omega) (by omega) (by omega) (fun y hy=>by have:=g3 y hy;omega)
      refine⟨q',p',Ev.step (fun k=>rfl) (ev_pos (by omega) (Ev.bind hd (Ev.bind hm (ev_tt (ev_pos (by omega) ?_))))),by omega,by omega,b3⟩
      rw[hw]
      exact h2
    |false=>
      obtain⟨q',p',h2,b1,b2,b3⟩:=ih (q++ [(⟨a,s⟩:S26)]) t l ls p1 (by omega) (by omega) hs2 (by omega) (by omega) hl (by omega) hr
      refine⟨q',p',Ev.step (fun k=>rfl) (ev_pos (by omega) (Ev.bind hd (Ev.bind hm (ev_ff (ev_pos (by omega) ?_))))),by omega,by omega,b3⟩
      rw[hw]
      exact h2
theorem deeds_ev {b:List Int} (hb:Code b) (t:Int) {l:List Int} {ls:List (List Int)} {p:Int} (h0:0≤p) (h1:p≤500000000) (hl:l.length≤100) (hls:ls.length≤6) (hr:∀y∈ls,y.length≤100):
    ∃q p',Ev (fun k=>spec_l20Deeds.f k b p t l ls) (q,p')∧p≤p'∧p'≤p+1000∧q.length≤6∧∀y∈q,y.f1.size≤21:=by
  unfold spec_l20Deeds.f
  obtain⟨x,hx,x0,x1,_⟩:=pick_ev hb (p:=p) h0 (by omega) 7
  have x1:=x1 (by omega)
  obtain⟨m,rfl⟩:=Int.eq_ofNat_of_zero_le x0
  obtain⟨q,p',h2,b1,b2,b3,b4⟩:=deeds_l0 hb m [] t l ls (p+1) (by omega) (by simp only[List.length_nil];omega) (by simp) (by omega) (by omega) hl (by omega) hr
  exact⟨q,p',Ev.bind hx h2,by omega,by omega,b3,b4⟩
theorem rd26_at {l:List S26} {i:Nat} (h:i<l.length):rd_T26 l (i:Int)=l[i]:=by
 unfold rd_T26
 rw[Int.toNat_natCast,List.getD_eq_getElem?_getD,List.getElem?_eq_getElem h]
 rfl
def mrun:List S26→Int→List Int→List (List Int)→Int→Int×List Int×List (List Int)×Int
 | [],t,l,ls,n=>(t,l,ls,n)
 |d::q,t,l,ls,n=>if(mdo t l ls d.f0 d.f1).2.2.2=true then mrun q (mdo t l ls d.f0 d.f1).1 (mdo t l ls d.f0 d.f1).2.1 (mdo t l ls d.f0 d.f1).2.2.1 (n+1)else mrun q t l ls n
theorem mrun_ok:∀(q:List S26) {t:Int} {l:List Int} {ls:List (List Int)} (n:Int),mindOk t l ls=true→mindOk (mrun q t l ls n).1 (mrun q t l ls n).2.1 (mrun q t l ls n).2.2.1=true
 | [],_,_,_,_,h=>h
 |d::q,t,l,ls,n,h=>by
  unfold mrun
  split
  ·exact mrun_ok q (n+1) (mdo_ok h d.f0 d.f1)
  ·exact mrun_ok q n h
theorem mrun_num:∀(q:List S26) (t:Int) (l:List Int) (ls:List (List Int)) (n:Int),mrun q t l ls n=((mrun q t l ls 0).1,(mrun q t l ls 0).2.1,(mrun q t l ls 0).2.2.1,n+(mrun q t l ls 0).2.2.2)
 | [],t,l,ls,n=>by unfold mrun;rw[Int.add_zero]
 |d::q,t,l,ls,n=>by
  unfold mrun
  split
  ·rw[mrun_num q _ _ _ (n+1),mrun_num q _ _ _ (0+1)]
   dsimp only
   rw[Int.add_assoc,Int.zero_add]
  ·exact mrun_num q t l ls n
theorem mrun_le:∀(q:List S26) (t:Int) (l:List Int) (ls:List (List Int)) (n:Int),n≤(mrun q t l ls n).2.2.2∧(mrun q t l ls n).2.2.2≤n+q.length
 | [],t,l,ls,n=>⟨Int.le_refl _,by unfold mrun;simp⟩
 |d::q,t,l,ls,n=>by
  unfold mrun
  rw[List.length_cons]
  split
  ·have:=mrun_le q (mdo t l ls d.f0 d.f1).1 (mdo t l ls d.f0 d.f1).2.1 (mdo t l ls d.f0 d.f1).2.2.1 (n+1)
   omega
  ·have:=mrun_le q t l ls n
   omega
theorem mrun_append:∀(p q:List S26) (t:Int) (l:List Int) (ls:List (List Int)) (n:Int),mrun (p++q) t l ls n=mrun q (mrun p t l ls n).1 (mrun p t l ls n).2.1 (mrun p t l ls n).2.2.1 (mrun p t l ls n).2.2.2
 | [],_,_,_,_,_=>rfl
 |d::p,q,t,l,ls,n=>by
  have e:∀q:List S26,mrun (d::q) t l ls n=if(mdo t l ls d.f0 d.f1).2.2.2=true then mrun q (mdo t l ls d.f0 d.f1).1 (mdo t l ls d.f0 d.f1).2.1 (mdo t l ls d.f0 d.f1).2.2.1 (n+1)else mrun q t l ls n:=fun _=>rfl
  rw[List.cons_append,e,e]
  split
  ·rw[mrun_append p q]
  ·rw[mrun_append p q]
theorem mind_lens {t:Int} {l:List Int} {ls:List (List Int)} (hm:mindOk t l ls=true):l.length≤8∧ls.length≤10∧∀y∈ls,y.length≤8:=by
 obtain⟨o1,o2,o3⟩:=mindOk_iff.1 hm
 exact⟨(tidyOk_len o1).2,o2,fun y hy=>(tidyOk_len (o3 y hy)).2⟩
theorem impl_MindRun_ev {t:Int} {l:List Int} {ls:List (List Int)} {q:List S26} (hn:l.length≤9223372036854775807) (hl:∀y∈ls,y.length≤9223372036854775807) (hq:q.length≤100):
  Ev (fun k=>impl_MindRun.f k t l ls q) (if mindOk t l ls=true∧q.length≤40 then mrun q t l ls 0 else(0,[],[],0)):=by
 unfold impl_MindRun.f
 refine Ev.bind (isMind_ev t hn hl) ?_
 have no:Ev (fun k=>impl_MindRun.j0 k q true t l ls) (0,[],[],0):=Ev.step (f:=fun _=>some (0,([]:List Int),([]:List (List Int)),0)) (fun k=>rfl) (Ev.now _)
 by_cases hm:mindOk t l ls=true
 ·refine ev_pos hm ?_
  by_cases h40:q.length≤40
  ·rw[if_pos ⟨hm,h40⟩,decide_eq_false (by omega)]
   obtain⟨b1,b2,b3⟩:=mind_lens hm
   have key:∀i,i≤q.length→∀(n:Nat) (t:Int) (l:List Int) (ls:List (List Int)),n≤i→mindOk t l ls=true→Ev (fun k=>impl_MindRun.l0 k (n:Int) q (q.length:Int) (i:Int) t l ls) (mrun (q.drop i) t l ls (n:Int)):=by
    apply down
    ·intro n t l ls _ _
     refine Ev.step (fun k=>rfl) (ev_neg (by omega) (ev_eq (Ev.now _) ?_))
     rw[List.drop_length]
     rfl
    ·intro i hi ih n t l ls hni hm
     refine Ev.step (fun k=>rfl) (ev_pos (by omega) (ev_pos (by omega) (ev_pos (by omega) ?_)))
     rw[rd26_at hi,List.drop_eq_getElem_cons hi,w1 hi (by omega),w1 (i:=n) (n:=n+1) (by omega) (by omega)]
     refine Ev.bind (impl_mindDo_ev hm q[i].f0 q[i].f1) ?_
     unfold mrun
     by_cases c:(mdo t l ls q[i].f0 q[i].f1).2.2.2=true
     ·rw[if_pos c]
      exact ev_pos c (ih (n+1) _ _ _ (by omega) (mdo_ok hm _ _))
     ·rw[if_neg c]
      exact ev_neg c (ih n t l ls (by omega) hm)
   have go:=key 0 (Nat.zero_le _) 0 t l ls (Nat.le_refl _) hm
   rw[List.drop_zero]at go
   exact Ev.step (f:=fun k=>(impl_copyMind.f k t l ls).bind fun bt577=>(impl_MindRun.l0 k 0 q (q.length:Int) 0 bt577.1 bt577.2.1 bt577.2.2)) (fun k=>rfl) (Ev.bind (copyMind_ev t (by omega) (by omega) (fun y hy=>by have:=b3 y hy;omega)) go)
  ·rw[if_neg (fun k=>h40 k.2),decide_eq_true (by omega)]
   exact no
 ·rw[if_neg (fun k=>hm k.1)]
  exact ev_neg hm no
theorem spec_MindRun_ev {t:Int} {l:List Int} {ls:List (List Int)} {q:List S26} (hn:l.length≤9223372036854775807) (hs:ls.length≤9223372036854775807) (hl:∀y∈ls,y.length≤9223372036854775807) (hq:q.length≤100):
  Ev (fun k=>spec_MindRun.f k t l ls q) (if mindOk t l ls=true∧q.length≤40 then mrun q t l ls 0 else(0,[],[],0)):=by
 unfold spec_MindRun.f
 refine Ev.bind (spec_MindValid_ev t hn hs hl) ?_
 have no:Ev (fun k=>spec_MindRun.j0 k q true t l ls) (0,[],[],0):=Ev.step (f:=fun _=>some (0,([]:List Int),([]:List (List Int)),0)) (fun k=>rfl) (Ev.now _)
 by_cases hm:mindOk t l ls=true
 ·refine ev_pos hm ?_
  by_cases h40:q.length≤40
  ·rw[if_pos ⟨hm,h40⟩,decide_eq_false (by omega)]
   obtain⟨b1,b2,b3⟩:=mind_lens hm
   have key:∀i,i≤q.length→∀(n:Nat) (t:Int) (l:List Int) (ls:List (List Int)),n≤i→mindOk t l ls=true→Ev (fun k=>spec_MindRun.l0 k q (n:Int) (i:Int) t l ls) (mrun (q.drop i) t l ls (n:Int)):=by
    apply down
    ·intro n t l ls _ _
     refine Ev.step (fun k=>rfl) (ev_neg (by omega) (ev_eq (Ev.now _) ?_))
     rw[List.drop_length]
     rfl
    ·intro i hi ih n t l ls hni hm
     obtain⟨c1,c2,c3⟩:=mind_lens hm
     have hd:=spec_MindDo_ev (t:=t) (l:=l) (ls:=ls) (by omega) (by omega) (fun y hy=>by have:=c3 y hy;omega) q[i].f0 q[i].f1
     rw[if_pos hm]at hd
     refine Ev.step (fun k=>rfl) (ev_pos (by omega) (ev_pos (by omega) ?_))
     rw[rd26_at hi,List.drop_eq_getElem_cons hi,w1 hi (by omega),w1 (i:=n) (n:=n+1) (by omega) (by omega)]
     refine Ev.bind hd ?_
     unfold mrun
     by_cases c:(mdo t l ls q[i].f0 q[i].f1).2.2.2=true
     ·rw[if_pos c]
      exact ev_pos c (ih (n+1) _ _ _ (by omega) (mdo_ok hm _ _))
     ·rw[if_neg c]
      exact ev_neg c (ih n t l ls (by omega) hm)
   have go:=key 0 (Nat.zero_le _) 0 t l ls (Nat.le_refl _) hm
   rw[List.drop_zero]at go
   exact Ev.step (f:=fun k=>(spec_l10Copy.f k t l ls).bind fun bt598=>(spec_MindRun.l0 k q 0 0 bt598.1 bt598.2.1 bt598.2.2)) (fun k=>rfl) (Ev.bind (l10Copy_ev t (by omega) (by omega) (fun y hy=>by have:=b3 y hy;omega)) go)
  ·rw[if_neg (fun k=>h40 k.2),decide_eq_true (by omega)]
   exact no
 ·rw[if_neg (fun k=>hm k.1)]
  exact ev_neg hm no
theorem impl_MindValid_ev (t:Int) {l:List Int} {ls:List (List Int)} (hn:l.length≤9223372036854775807) (hl:∀y∈ls,y.length≤9223372036854775807):Ev (fun k=>impl_MindValid.f k t l ls) (mindOk t l ls):=by
 unfold impl_MindValid.f
 exact Ev.bind (isMind_ev t hn hl) (Ev.now _)
theorem sameInts_ev {l m:List Int} (hn:l.length≤9223372036854775807):Ev (fun k=>laws_sameInts.f k l m) (decide (l=m)):=by
 unfold laws_sameInts.f
 by_cases hl:l.length=m.length
 ·refine ev_pos (by omega) ?_
  have key:∀i,i≤l.length→Ev (fun k=>laws_sameInts.l0 k l m (i:Int)) (decide (l.drop i=m.drop i)):=by
   apply down
   ·refine Ev.step (fun k=>rfl) (ev_neg (by omega) (ev_eq (Ev.now _) ?_))
    rw[List.drop_length,hl,List.drop_length,decide_eq_true rfl]
   ·intro i hi ih
    have hm:i<m.length:=by omega
    refine Ev.step (fun k=>rfl) (ev_pos (by omega) (ev_pos (by omega) (ev_pos (by omega) ?_)))
    rw[rd_at hi,rd_at hm,w1 hi hn,List.drop_eq_getElem_cons hi,List.drop_eq_getElem_cons hm]
    by_cases e:l[i]=m[i]
    ·refine ev_pos e (ev_eq ih ?_)
     exact decide_eq_decide.2 ⟨fun k=>by rw[e,k],fun k=>(List.cons.inj k).2⟩
    ·refine ev_neg e (ev_eq (Ev.now _) ?_)
     exact(decide_eq_false (fun k=>e (List.cons.inj k).1)).symm
  have:=key 0 (Nat.zero_le _)
  simpa using this
 ·refine ev_neg (by omega) (ev_eq (Ev.now _) ?_)
  exact(decide_eq_false (fun k=>hl (by rw[k]))).symm
theorem sameInts_same {l:List Int} (hn:l.length≤9223372036854775807):Ev (fun k=>laws_sameInts.f k l l) true:=ev_eq (sameInts_ev hn) (decide_eq_true rfl)
theorem sameRows_same {l:List (List Int)} (hn:l.length≤9223372036854775807) (hl:∀y∈l,y.length≤9223372036854775807):Ev (fun k=>laws_sameRows.f k l l) true:=by
 unfold laws_sameRows.f
 refine ev_pos rfl ?_
 have key:∀i,i≤l.length→Ev (fun k=>laws_sameRows.l0 k l l (i:Int)) true:=by
  apply down
  ·exact Ev.step (fun k=>rfl) (ev_neg (by omega) (Ev.now _))
  ·intro i hi ih
   refine Ev.step (fun k=>rfl) (ev_pos (by omega) (ev_pos (by omega) (ev_pos (by omega) ?_)))
   rw[rdLL_at hi,w1 hi hn]
   exact Ev.bind (sameInts_same (hl _ (List.getElem_mem hi))) (ev_tt ih)
 exact key 0 (Nat.zero_le _)
theorem sameMind_same (t:Int) {l:List Int} {ls:List (List Int)} (hn:l.length≤9223372036854775807) (hs:ls.length≤9223372036854775807) (hl:∀y∈ls,y.length≤9223372036854775807):Ev (fun k=>laws_sameMind.f k t l ls t l ls) true:=by
 unfold laws_sameMind.f
 exact ev_pos rfl (Ev.bind (sameInts_same hn) (ev_tt (Ev.bind (sameRows_same hs hl) (Ev.now _))))
end Go.Proofs.Ytihgpkohglcijaa.Pl
