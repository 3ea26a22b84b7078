import Derived.Test.YtigeaokfhnlkcaaGreatDoorPx2
import Derived.Test.YtigeaokfhnlkcaaGreatDoorMath
import Derived.Test.YtigeaokfhnlkcaaGreatDoorPx3
import Derived.Test.YtigeaokfhnlkcaaGreatDoorPx5
import Derived.Test.YtigeaokfhnlkcaaGreatDoorPx12
import Derived.Test.YtigeaokfhnlkcaaGreatDoorPx7
import Derived.Test.YtigeaokfhnlkcaaGreatDoorPx13
import Derived.Test.YtigeaokfhnlkcaaGreatDoorPx14
import Derived.Test.YtigeaokfhnlkcaaGreatDoorPx6
import Derived.Test.YtigeaokfhnlkcaaGreatDoorPx4
import Derived.Test.YtigeaokfhnlkcaaGreatDoorPx8
import Derived.Test.YtigeaokfhnlkcaaGreatDoorPx15
import Derived.Test.YtigeaokfhnlkcaaGreatDoorPx10
import Derived.Test.YtigeaokfhnlkcaaGreatDoorPx9
import Derived.Test.YtigeaokfhnlkcaaGreatDoorPx11
import Derived.Test.YtigeaokfhnlkcaaGreatDoorPx16
import Derived.Test.YtigeaokfhnlkcaaGreatDoorPx17
import Derived.Test.YtigeaokfhnlkcaaGreatDoorPx18
import Derived.Test.YtigeaokfhnlkcaaGreatDoorPx0
import Derived.Test.YtigeaokfhnlkcaaGreatDoorPx19
import Derived.Test.YtigeaokfhnlkcaaGreatDoorPx23
import Derived.Test.YtigeaokfhnlkcaaGreatDoorPx21
import Derived.Test.YtigeaokfhnlkcaaGreatDoorPx22
namespace Go.Proofs.YtigeaokfhnlkcaaGreatDoor.Pl
open Go.RowKit YtigeaokfhnlkcaaGreatDoorW PrintWords PrintLast PrintMore Go.Proofs.YtigeaokfhnlkcaaGreatDoor.P Go.Proofs.YtigeaokfhnlkcaaGreatDoor.Mt
theorem wK (b:ByteArray):∀(n i:Nat) (r:List UInt8),b.size - i=n→ByteArray.toList.loop b i r=r.reverse++b.data.toList.drop i:=by
  intro n;induction n with
  |zero=>
    intro i r h;unfold ByteArray.toList.loop;rw[if_neg (by omega),List.drop_eq_nil_of_le (by rw[Array.length_toList];show b.size≤i;omega),List.append_nil]
  |succ n ih=>
    intro i r h;unfold ByteArray.toList.loop;have hi:i<b.data.toList.length:=by rw[Array.length_toList];show i<b.size;omega
    rw[if_pos (by omega),ih (i+1) _ (by omega),List.drop_eq_getElem_cons hi,List.reverse_cons,List.append_assoc];congr 2
    have:b.get! i=b.data.toList[i]:=by
      show b.data[i]! =_
      rw[getElem!_pos _ i (by rw[Array.length_toList]at hi;exact hi)];simp
    rw[this];rfl
theorem toList_data (b:ByteArray):b.toList=b.data.toList:=by
  unfold ByteArray.toList;rw[wK b _ 0 [] rfl];rfl
theorem rv (b:ByteArray):b.toList= []↔b.size=0:=by
  rw[toList_data,List.eq_nil_iff_length_eq_zero,Array.length_toList];rfl
theorem ext_list {a b:ByteArray} (h:a.toList=b.toList):a=b:=by
  rw[toList_data,toList_data]at h;exact ByteArray.ext (Array.toList_inj.1 h)
theorem qI (a b c:Int):ov.f a b c=some (decide (b≤a∧a≤c)):=by
  unfold ov.f;by_cases h:a≥b
  · rw[if_pos h]
    congr 1;exact decide_eq_decide.2 ⟨fun k=>⟨h,k⟩,fun k=>k.2⟩
  · rw[if_neg h]
    congr 1;symm;exact decide_eq_false (fun k=>h k.1)
theorem qc {l:List Int} {i:Nat} (h:i<l.length):rd l (i:Int)=l[i]:=by
  unfold rd;rw[Int.toNat_natCast,List.getD_eq_getElem?_getD,List.getElem?_eq_getElem h];rfl
theorem Bq {l:List Int} {i:Nat} (h:i<l.length):rd l (i:Int)∈l:=by rw[qc h];exact List.getElem_mem h
theorem down {P:Nat→Prop} {n:Nat} (h0:P n) (h1:∀i,i<n→P (i+1)→P i):∀i,i≤n→P i:=by
  have key:∀d i,i+d=n→P i:=by
    intro d;induction d with
    |zero=>intro i hi;rw[show i=n from by omega];exact h0
    |succ d ih=>intro i hi;exact h1 i (by omega) (ih (i+1) (by omega))
  intro i hi;exact key (n - i) i (by omega)
theorem w1 {i n:Nat} (h:i<n) (hn:n≤9223372036854775807):wrap64 ((i:Int)+1)=((i+1:Nat):Int):=by rw[qZ (by omega) (by omega)];rfl
theorem three {t:Int} (h:1≤t∧t≤3):t=1∨t=2∨t=3:=by omega
def wn (t:Int):Nat:=if t=1 then 2 else if t=2 then 4 else 8
theorem qW (t:Int):wn t≤8∧2≤wn t:=by unfold wn;split<;>(try split)<;>omega
theorem uL {t:Int} (h:1≤t∧t≤3):shl .i64 1 t=(wn t:Int):=by rcases three h with rfl|rfl|rfl<;>decide+kernel
def qm (l:List Int):Nat→Nat
  |0=>0
  |n+1=>qm l n+(if(n:Int)∈l then 1 else 0)
def ue (l:List Int) (x:Int):Nat:=qm l x.toNat
def pH (l:List Int):List Int:=l.map fun x=>(ue l x:Int)
theorem uM {l m:List Int}:∀n:Nat,(∀y:Int,0≤y→y<n→(y∈l↔y∈m))→qm l n=qm m n
  |0,_=>rfl
  |n+1,h=>by
    unfold qm
    rw[uM n (fun y h0 h1=>h y h0 (by omega))]
    have:=h n (by omega) (by omega)
    by_cases hm:(n:Int)∈l
    · rw[if_pos hm,if_pos (this.1 hm)]
    · rw[if_neg hm,if_neg (fun k=>hm (this.2 k))]
theorem yj (l:List Int):∀n,qm l n≤n
  |0=>Nat.le_refl _
  |n+1=>by unfold qm;have:=yj l n;split<;>omega
theorem sY {l:List Int}:∀(n:Nat) (s:List Int),s.Nodup→(∀y,y∈s↔(y∈l∧0≤y∧y<n))→s.length=qm l n
  |0,s,_,h=>by
    cases s with
    |nil=>rfl
    |cons y s=>have:=(h y).1 List.mem_cons_self;omega
  |n+1,s,hd,h=>by
    unfold qm
    by_cases hn:(n:Int)∈l
    · rw[if_pos hn]
      have hs:(n:Int)∈s:=(h n).2 ⟨hn,by omega,by omega⟩
      have:=sY (l:=l) n (s.erase n) (hd.erase _) (fun y=>by
        rw[hd.mem_erase_iff]
        constructor
        · rintro⟨a,b⟩
          obtain⟨b,c,d⟩:=(h y).1 b
          exact⟨b,c,by omega⟩
        · rintro⟨b,c,d⟩
          exact⟨by omega,(h y).2 ⟨b,c,by omega⟩⟩)
      rw[List.length_erase_of_mem hs]at this
      have hp:0<s.length:=List.length_pos_of_mem hs
      omega
    · rw[if_neg hn]
      exact sY n s hd (fun y=>by
        rw[h y]
        constructor
        · rintro⟨a,b,c⟩;exact⟨a,b,by have:y≠n:=fun e=>hn (e▸a);omega⟩
        · rintro⟨a,b,c⟩;exact⟨a,b,by omega⟩)
theorem pZ (l:List Int):(pH l).length=l.length:=List.length_map ..
theorem wL {l:List Int}:∀(n k:Nat),k<qm l n→∃y∈l,0≤y∧y<n∧ue l y=k
  |0,k,h=>by simp[qm]at h
  |n+1,k,h=>by
    unfold qm at h
    by_cases hk:k<qm l n
    · obtain⟨y,hy,h0,h1,h2⟩:=wL n k hk
      exact⟨y,hy,h0,by omega,h2⟩
    · by_cases hn:(n:Int)∈l
      · rw[if_pos hn]at h
        exact⟨n,hn,by omega,by omega,by show qm l ((n:Int).toNat)=k;rw[Int.toNat_natCast];omega⟩
      · rw[if_neg hn]at h;omega
theorem tT {l:List Int} {y:Int}:y∈pH l↔∃x∈l,(ue l x:Int)=y:=by unfold pH;rw[List.mem_map]
theorem yP {l:List Int} {x:Int} (_:x∈l) (_:0≤x):ue (pH l) (ue l x)=ue l x:=by
  have key:∀n:Nat,n≤ue l x→qm (pH l) n=n:=by
    intro n;induction n with
    |zero=>intro _;rfl
    |succ n ih=>
      intro h;unfold qm;obtain⟨y,hy,_,_,he⟩:=wL (l:=l) x.toNat n h;rw[ih (by omega),if_pos (tT.2 ⟨y,hy,by rw[he]⟩)]
  show qm (pH l) ((ue l x:Int).toNat)=ue l x
  rw[Int.toNat_natCast];exact key _ (Nat.le_refl _)
theorem wM {l:List Int} (h:∀x∈l,0≤x):pH (pH l)=pH l:=by
  show(pH l).map _=_
  conv=>lhs;arg 2;unfold pH
  rw[List.map_map]
  show _=l.map _
  apply List.map_congr_left;intro x hx
  show((ue (pH l) (ue l x):Nat):Int)=_
  rw[yP hx (h x hx)]
theorem vA (z:Int) (l:List Int):∀n:Nat,qm (z::l) n≤qm l n+(if 0≤z∧z<n then 1 else 0)
  |0=>by unfold qm;omega
  |n+1=>by
    have ih:=vA z l n
    have e1:qm (z::l) (n+1)=qm (z::l) n+(if(n:Int)∈z::l then 1 else 0):=rfl
    have e2:qm l (n+1)=qm l n+(if(n:Int)∈l then 1 else 0):=rfl
    rw[e1,e2]
    by_cases hz:z=(n:Int)
    · subst hz
      rw[if_neg (by omega)]at ih
      rw[if_pos (c:=0≤(n:Int)∧_) (by omega)]
      split<;>split<;>omega
    · have hm:((n:Int)∈z::l)↔(n:Int)∈l:=by rw[List.mem_cons];exact⟨fun h=>h.resolve_left (fun e=>hz e.symm),Or.inr⟩
      by_cases hl:(n:Int)∈l
      · rw[if_pos (hm.2 hl),if_pos hl]
        split at ih<;>split<;>omega
      · rw[if_neg (fun k=>hl (hm.1 k)),if_neg hl]
        split at ih<;>split<;>omega
theorem uN {l:List Int} {n:Nat}:qm l n≤(l.filter fun y=>decide (y<(n:Int))).length:=by
  induction l with
  |nil=>
    have:∀n,qm [] n=0:=by intro n;induction n with|zero=>rfl|succ n ih=>unfold qm;rw[ih,if_neg (by simp)]
    rw[this];exact Nat.zero_le _
  |cons z l ih=>
    have:=vA z l n;rw[List.filter_cons];by_cases h:z<(n:Int)
    · rw[if_pos (by simpa using h),List.length_cons]
      split at this<;>omega
    · rw[if_neg (by simpa using h)]
      rw[if_neg (by omega)]at this;omega
theorem vq {l:List Int} {x:Int} (hx:x∈l) (h0:0≤x):ue l x<l.length:=by
  have h1:=uN (l:=l) (n:=x.toNat)
  have h2:(l.filter fun y=>decide (y<((x.toNat:Nat):Int))).length<l.length:=by
    rw[Int.toNat_of_nonneg h0];have hle:=List.length_filter_le (fun y=>decide (y<x)) l;rcases Nat.lt_or_ge (l.filter fun y=>decide (y<x)).length l.length with h|h
    · exact h
    · have he:(l.filter fun y=>decide (y<x)).length=l.length:=by omega
      have:=List.length_filter_eq_length_iff.1 he x hx;simp at this
  unfold ue;omega
theorem zG {l:List Int} {x:Int} (h:∀y∈l,0≤y→x≤y):ue l x=0:=by
  unfold ue
  have:∀n:Nat,n≤x.toNat→qm l n=0:=by
    intro n;induction n with
    |zero=>intro _;rfl
    |succ n ih=>
      intro hn;unfold qm;rw[ih (by omega),if_neg (fun hm=>by have:=h n hm (by omega);omega)]
  exact this _ (Nat.le_refl _)
theorem AB {c:List Int} (hs:c.Pairwise (·<·)) (h0:∀x∈c,0≤x) {i:Nat} (hi:i<c.length):ue c c[i]=i:=by
  have hx0:0≤c[i]:=h0 _ (List.getElem_mem hi);unfold ue
  have hn:(c.take i).Nodup:=by
    have:(c.take i).Pairwise (·<·):=hs.sublist (List.take_sublist ..);exact this.imp (fun h=>by omega)
  have hget:=List.pairwise_iff_getElem.1 hs
  rw[←sY (l:=c) c[i].toNat (c.take i) hn (fun y=>by
    rw[Int.toNat_of_nonneg hx0];constructor
    · intro hy
      obtain⟨j,hj,rfl⟩:=List.mem_iff_getElem.1 hy;rw[List.length_take]at hj;rw[List.getElem_take];refine⟨List.getElem_mem _,h0 _ (List.getElem_mem _),hget j i (by omega) hi (by omega)⟩
    · rintro⟨hy,_,hlt⟩
      obtain⟨j,hj,rfl⟩:=List.mem_iff_getElem.1 hy
      have hji:j<i:=by
        rcases(by omega:j<i∨j=i∨i<j)with k|k|k
        · exact k
        · subst k;omega
        · have:=hget i j hi hj k;omega
      rw[List.mem_iff_getElem];exact⟨j,by rw[List.length_take];omega,List.getElem_take⟩)]
  rw[List.length_take];omega
theorem yQ {l m:List Int} (h:∀y,y∈l↔y∈m) (x:Int):ue l x=ue m x:=uM _ (fun y _ _=>h y)
def pT (t:Int) (l:List Int):Bool:=decide ((1≤t∧t≤3)∧l.length=wn t∧(∀x∈l,0≤x∧x≤9)∧(0:Int)∈l)
theorem pk {t:Int} {l:List Int}:pT t l=true↔(1≤t∧t≤3)∧l.length=wn t∧(∀x∈l,0≤x∧x≤9)∧(0:Int)∈l:=by unfold pT;exact decide_eq_true_iff
theorem uB (l:List Int) (i:Nat):rd l (i:Int)=l.getD i 0:=by unfold rd;rw[Int.toNat_natCast]
theorem wN (a b:Int):(mn a b=a∨mn a b=b)∧mn a b≤a∧mn a b≤b:=by unfold mn;split<;>omega
theorem zH (a b:Int):(mx a b=a∨mx a b=b)∧a≤mx a b∧b≤mx a b:=by unfold mx;split<;>omega
theorem rm (t:Int) {l:List Int} (hn:l.length≤9223372036854775807):Ev (fun k=>lr.f k t l) (pT t l):=by
  unfold lr.f
  have key:∀i,i≤l.length→∀m:Int,0≤m→m≤9→Ev (fun k=>lr.l0 k t l m (i:Int)) (decide ((1≤t∧t≤3)∧l.length=wn t∧(∀x∈l.drop i,0≤x∧x≤9)∧(m=0∨(0:Int)∈l.drop i))):=by
    apply down
    · intro m h0 h9
      refine Ev.step (fun k=>rfl) (jW (by omega) (nt (qI _ _ _) ?_));rw[List.drop_length];by_cases ht:1≤t∧t≤3
      · refine jb (decide_eq_true ht) (jb (by omega) ?_)
        rw[uL ht];by_cases hl:l.length=wn t
        · refine jb (by omega) (oQ (Ev.now _) ?_)
          by_cases hm:m=0
          · rw[hm,decide_eq_true ⟨ht,hl,fun x hx=>absurd hx (by simp),Or.inl rfl⟩];rfl
          · rw[decide_eq_false (fun k=>by rcases k.2.2.2 with h|h;exact hm h;simp at h)]
            exact beq_eq_false_iff_ne.2 hm
        · refine jW (by omega) (oQ (Ev.now _) ?_)
          rw[decide_eq_false (fun k=>hl k.2.1)]
      · refine jW (by rw[decide_eq_false ht];decide) (oQ (Ev.now _) ?_)
        rw[decide_eq_false (fun k=>ht k.1)]
    · intro i hi ih m h0 h9
      refine Ev.step (fun k=>rfl) (jb (by omega) (jb (by omega) (nt (qI _ _ _) ?_)));rw[qc hi];by_cases hr:0≤l[i]∧l[i]≤9
      · obtain⟨m1,m2,m3⟩:=wN m l[i]
        refine jb (decide_eq_true hr) ?_;rw[w1 hi hn];refine oQ (ih (mn m l[i]) (by omega) (by omega)) (decide_eq_decide.2 ?_);rw[List.drop_eq_getElem_cons hi];simp only[List.mem_cons,forall_eq_or_imp];constructor
        · rintro⟨a,b,c,d⟩
          refine⟨a,b,⟨hr,c⟩,?_⟩;rcases d with d|d
          · rcases m1 with m1|m1
            · exact Or.inl (by omega)
            · exact Or.inr (Or.inl (by omega))
          · exact Or.inr (Or.inr d)
        · rintro⟨a,b,⟨_,c⟩,d⟩
          refine⟨a,b,c,?_⟩;rcases d with d|d|d
          · exact Or.inl (by omega)
          · exact Or.inl (by omega)
          · exact Or.inr d
      · refine jW (by rw[decide_eq_false hr];decide) (oQ (Ev.now _) ?_)
        rw[decide_eq_false (fun k=>hr (k.2.2.1 _ (by rw[List.drop_eq_getElem_cons hi];exact List.mem_cons_self)))]
  refine oQ (key 0 (Nat.zero_le _) 9 (by omega) (by omega)) (decide_eq_decide.2 ?_);rw[List.drop_zero];exact⟨fun⟨a,b,c,d⟩=>⟨a,b,c,d.resolve_left (by omega)⟩,fun⟨a,b,c,d⟩=>⟨a,b,c,Or.inr d⟩⟩
theorem rF {t:Int} {l:List Int} (h:pT t l=true):Ev (fun k=>jV.f k t l) (pH l):=by
  obtain⟨ht,hl,hx,_⟩:=pk.1 h;have h8:=(qW t).1;unfold jV.f
  have l2:∀(out:List Int) (w c:Nat) (r:Int) (res:List Int),∀v,v≤l.length→∀b:Bool,
      Ev (fun k=>jV.l1 k t l out (w:Int) (if(b=true∨r∈l.drop v)then wrap64 ((c:Int)+1)else(c:Int)) (wrap64 (r+1))) res→Ev (fun k=>jV.l2 k t l out (w:Int) (c:Int) r b (v:Int)) res:=by
    intro out w c r res;apply down (P:=fun v=>∀b:Bool,Ev (fun k=>jV.l1 k t l out (w:Int) (if(b=true∨r∈l.drop v)then wrap64 ((c:Int)+1)else(c:Int)) (wrap64 (r+1))) res→Ev (fun k=>jV.l2 k t l out (w:Int) (c:Int) r b (v:Int)) res)
    · intro b hb
      refine Ev.step (fun k=>rfl) (jW (by omega) ?_);rw[List.drop_length]at hb;cases b with
      |true=>rw[if_pos (Or.inl rfl)]at hb;exact jb rfl hb
      |false=>rw[if_neg (by simp)]at hb;exact jW (by decide) hb
    · intro v hv ih b hb
      refine Ev.step (fun k=>rfl) (jb (by omega) ?_);rw[List.drop_eq_getElem_cons hv]at hb;cases b with
      |true=>
        refine jb rfl ?_;rw[w1 hv (by omega)];refine ih true ?_;rw[if_pos (Or.inl rfl)]at hb⊢;exact hb
      |false=>
        refine jW (by decide) (jb (by omega) ?_);rw[qc hv,w1 hv (by omega)];refine ih _ ?_
        have:((l[v]==r)=true∨r∈l.drop (v+1))↔(false=true∨r∈l[v]::l.drop (v+1)):=by
          rw[List.mem_cons,beq_iff_eq];constructor
          · rintro(h|h)
            · exact Or.inr (Or.inl h.symm)
            · exact Or.inr (Or.inr h)
          · rintro(h|h|h)
            · cases h
            · exact Or.inl h.symm
            · exact Or.inr h
        simp only[this];exact hb
  have l1:∀(out:List Int) (w:Nat) (hw:w<l.length) (res:List Int),out.length≤8→Ev (fun k=>jV.l0 k t l (out++ [(ue l l[w]:Int)]) ((w+1:Nat):Int)) res→
      ∀r,r≤(l[w]).toNat→Ev (fun k=>jV.l1 k t l out (w:Int) (qm l r:Int) (r:Int)) res:=by
    intro out w hw res ho hres;have hxw:=hx _ (List.getElem_mem hw);apply down
    · refine Ev.step (fun k=>rfl) (jb (by omega) (jW (by rw[qc hw];omega) (jb (by omega) ?_)))
      rw[w1 hw (by omega)];exact hres
    · intro r hr ih
      refine Ev.step (fun k=>rfl) (jb (by omega) (jb (by rw[qc hw];omega) ?_));refine l2 out w (qm l r) (r:Int) res 0 (Nat.zero_le _) false ?_;have hc:=yj l r
      have e:(if(false=true∨(r:Int)∈l.drop 0)then wrap64 ((qm l r:Int)+1)else(qm l r:Int))=((qm l (r+1):Nat):Int):=by
        show _=((qm l r+(if(r:Int)∈l then 1 else 0):Nat):Int)
        rw[List.drop_zero];by_cases hm:(r:Int)∈l
        · rw[if_pos (Or.inr hm),if_pos hm,qZ (by omega) (by omega)];rfl
        · rw[if_neg (by rintro(k|k);cases k;exact hm k),if_neg hm];rfl
      rw[e,qZ (n:=(r:Int)+1) (by omega) (by omega)];exact ih
  have l0:∀w,w≤l.length→Ev (fun k=>jV.l0 k t l ((l.take w).map fun x=>(ue l x:Int)) (w:Int)) (pH l):=by
    apply down
    · refine Ev.step (fun k=>rfl) (jW (by omega) (Ev.step (fun k=>rfl) ?_))
      simp only[jV.j1];refine jW (by decide) (oQ (Ev.now _) ?_);rw[List.take_length];rfl
    · intro w hw ih
      have hr:=rm t (l:=l) (by omega);rw[h]at hr;refine Ev.step (fun k=>rfl) (jb (by omega) (Ev.bind hr (Ev.step (fun k=>rfl) ?_)));simp only[jV.j1];refine jb trivial (l1 _ w hw _ (by rw[List.length_map,List.length_take];omega) ?_ 0 (Nat.zero_le _));rw[List.take_succ_eq_append_getElem hw,List.map_append]at ih;exact ih
  exact l0 0 (Nat.zero_le _)
theorem tE (a:Int):oD.f a=some (decide (1≤a∧a≤3)):=by
  unfold oD.f;by_cases h:a≥1
  · rw[if_pos h]
    congr 1;exact decide_eq_decide.2 ⟨fun k=>⟨h,k⟩,fun k=>k.2⟩
  · rw[if_neg h]
    congr 1;symm;exact decide_eq_false (fun k=>h k.1)
theorem zI {l:List Int} {y:Int}:y∈l↔∃p,p<l.length∧l.getD p 0=y:=by
  rw[List.mem_iff_getElem];constructor
  · rintro⟨p,hp,rfl⟩
    exact⟨p,hp,by simp[hp]⟩
  · rintro⟨p,hp,rfl⟩
    exact⟨p,hp,by simp[hp]⟩
def CD (l:List Int) (i:Nat):Prop:=∀p q,p<q→q<i→l.getD p 0≤l.getD q 0
theorem Br {l:List Int} (h:0<l.length) (hn:l.length≤9223372036854775807):∃r,Ev (fun k=>ni.f k l) r∧r∈l∧∀y∈l,r≤y:=by
  unfold ni.f
  have key:∀i,i≤l.length→∀m:Int,∃r,Ev (fun k=>ni.l0 k l m (i:Int)) r∧(r=m∨r∈l.drop i)∧r≤m∧∀y∈l.drop i,r≤y:=by
    apply down
    · intro m
      exact⟨m,Ev.step (fun k=>rfl) (jW (by omega) (Ev.now _)),Or.inl rfl,Int.le_refl _,fun y hy=>by rw[List.drop_length]at hy;simp at hy⟩
    · intro i hi ih m
      obtain⟨r,h1,h2,h3,h4⟩:=ih (mn m l[i]);obtain⟨m1,m2,m3⟩:=wN m l[i];refine⟨r,Ev.step (fun k=>rfl) (jb (by omega) (jb (by omega) (by rw[qc hi,w1 hi hn];exact h1))),?_,by omega,?_⟩
      · rw[List.drop_eq_getElem_cons hi,List.mem_cons]
        rcases h2 with h2|h2
        · rcases m1 with m1|m1
          · exact Or.inl (by omega)
          · exact Or.inr (Or.inl (by omega))
        · exact Or.inr (Or.inr h2)
      · rw[List.drop_eq_getElem_cons hi]
        intro y hy;rcases List.mem_cons.1 hy with rfl|hy
        · omega
        · exact h4 y hy
  obtain⟨r,h1,h2,h3,h4⟩:=key 1 h (l[0]);have e:rd l 0=l[0]:=qc (i:=0) h;have hd:l=l[0]::l.drop 1:=by have:=List.drop_eq_getElem_cons h;rw[List.drop_zero]at this;exact this
  refine⟨r,jW (by omega) (jb (by omega) (by rw[e];exact h1)),?_,fun y hy=>?_⟩
  · rcases h2 with h2|h2
    · rw[h2];exact List.getElem_mem h
    · exact List.mem_of_mem_drop h2
  · rw[hd]at hy
    rcases List.mem_cons.1 hy with rfl|hy
    · exact h3
    · exact h4 y hy
theorem Bs {l:List Int} (h:0<l.length) (hn:l.length≤9223372036854775807):∃r,Ev (fun k=>nk.f k l) r∧r∈l∧∀y∈l,y≤r:=by
  unfold nk.f
  have key:∀i,i≤l.length→∀m:Int,∃r,Ev (fun k=>nk.l0 k l m (i:Int)) r∧(r=m∨r∈l.drop i)∧m≤r∧∀y∈l.drop i,y≤r:=by
    apply down
    · intro m
      exact⟨m,Ev.step (fun k=>rfl) (jW (by omega) (Ev.now _)),Or.inl rfl,Int.le_refl _,fun y hy=>by rw[List.drop_length]at hy;simp at hy⟩
    · intro i hi ih m
      obtain⟨r,h1,h2,h3,h4⟩:=ih (mx m l[i]);obtain⟨m1,m2,m3⟩:=zH m l[i];refine⟨r,Ev.step (fun k=>rfl) (jb (by omega) (jb (by omega) (by rw[qc hi,w1 hi hn];exact h1))),?_,by omega,?_⟩
      · rw[List.drop_eq_getElem_cons hi,List.mem_cons]
        rcases h2 with h2|h2
        · rcases m1 with m1|m1
          · exact Or.inl (by omega)
          · exact Or.inr (Or.inl (by omega))
        · exact Or.inr (Or.inr h2)
      · rw[List.drop_eq_getElem_cons hi]
        intro y hy;rcases List.mem_cons.1 hy with rfl|hy
        · omega
        · exact h4 y hy
  obtain⟨r,h1,h2,h3,h4⟩:=key 1 h (l[0]);have e:rd l 0=l[0]:=qc (i:=0) h;have hd:l=l[0]::l.drop 1:=by have:=List.drop_eq_getElem_cons h;rw[List.drop_zero]at this;exact this
  refine⟨r,jW (by omega) (jb (by omega) (by rw[e];exact h1)),?_,fun y hy=>?_⟩
  · rcases h2 with h2|h2
    · rw[h2];exact List.getElem_mem h
    · exact List.mem_of_mem_drop h2
  · rw[hd]at hy
    rcases List.mem_cons.1 hy with rfl|hy
    · exact h3
    · exact h4 y hy
theorem yR (t:Int) {l:List Int} (hn:l.length≤9223372036854775807):Ev (fun k=>ob.f k t l) (pT t l):=by
  unfold ob.f;refine nt (tE t) ?_;by_cases ht:1≤t∧t≤3
  · refine jb (decide_eq_true ht) (jb (by omega) ?_)
    rw[uL ht];refine Ev.step (fun k=>rfl) ?_;simp only[ob.j0];by_cases hl:l.length=wn t
    · refine jW (by rw[hl];simp) ?_
      have h2:=(qW t).2;obtain⟨m,hm,hm1,hm2⟩:=Br (l:=l) (by omega) hn;obtain⟨M,hM,hM1,hM2⟩:=Bs (l:=l) (by omega) hn;refine Ev.bind hm ?_;by_cases h0:m=0
      · refine jb h0 (Ev.bind hM (oQ (Ev.now _) (decide_eq_decide.2 ?_)))
        subst h0;constructor
        · intro h9
          exact⟨ht,hl,fun x hx=>⟨hm2 x hx,Int.le_trans (hM2 x hx) h9⟩,hm1⟩
        · intro h
          exact(h.2.2.1 M hM1).2
      · refine jW h0 (oQ (Ev.now _) ?_)
        unfold pT;rw[decide_eq_false];rintro⟨_,_,h1,h2⟩;have:=hm2 0 h2;have:=(h1 m hm1).1;omega
    · refine jb (by rw[bne_iff_ne];omega) (oQ (Ev.now _) ?_)
      unfold pT;rw[decide_eq_false (fun k=>hl k.2.1)]
  · refine jW (by rw[decide_eq_false ht];decide) (Ev.step (fun k=>rfl) ?_)
    simp only[ob.j0];refine jb trivial (oQ (Ev.now _) ?_);unfold pT;rw[decide_eq_false (fun k=>ht k.1)]
theorem AD {l:List Int} (hn:l.length≤8):∃r,Ev (fun _=>pq.f l) r∧CD r r.length∧r.length=l.length∧∀y,y∈r↔y∈l:=by
  have hs:(l.mergeSort fun x y=>decide (x≤y)).Pairwise (fun a b=>decide (a≤b)=true):=List.pairwise_mergeSort (fun a b c h1 h2=>by simp only[decide_eq_true_eq]at*;omega) (fun a b=>by simp only[Bool.or_eq_true,decide_eq_true_eq];omega) l;have hp:=List.mergeSort_perm l fun x y=>decide (x≤y)
  refine⟨_,AU (if_pos (by omega)),fun p q h1 h2=>?_,hp.length_eq,fun y=>hp.mem_iff⟩;have:=List.pairwise_iff_getElem.1 hs p q (by omega) h2 h1;rw[List.getD_eq_getElem?_getD,List.getD_eq_getElem?_getD,List.getElem?_eq_getElem h2,List.getElem?_eq_getElem (show p<(l.mergeSort fun x y=>decide (x≤y)).length by omega)];exact of_decide_eq_true this
theorem vX {l:List Int} (hs:CD l l.length):(Lib.compact l).Pairwise (·<·)∧∀y,y∈Lib.compact l↔y∈l:=by
  have hd:∀m,m<l.length→l.toArray[m]! =l.getD m 0:=fun m hm=>by simp[hm]
  have key:∀m,m≤l.length→(Lib.compactUpTo l.toArray m).Pairwise (·<·)∧(∀y∈Lib.compactUpTo l.toArray m,∃p,p<m∧l.getD p 0=y)∧∀p,p<m→l.getD p 0∈Lib.compactUpTo l.toArray m:=by
    intro m;induction m with
    |zero=>intro _;exact⟨List.Pairwise.nil,fun y hy=>by simp[Lib.compactUpTo]at hy,fun p hp=>by omega⟩
    |succ m ih=>
      intro hm;obtain⟨h1,h2,h3⟩:=ih (by omega);rw[Lib.compactUpTo_succ];by_cases hk:Lib.keeps l.toArray m=true
      · rw[if_pos hk,hd m (by omega)]
        refine⟨List.pairwise_append.2 ⟨h1,List.pairwise_singleton _ _,fun y hy z hz=>?_⟩,fun y hy=>?_,fun p hp=>?_⟩
        · rw[List.mem_singleton.1 hz]
          obtain⟨p,hp,rfl⟩:=h2 y hy;unfold Lib.keeps at hk;rw[decide_eq_true_iff]at hk;rcases hk with hk|hk
          · omega
          · rw[hd m (by omega),hd (m - 1) (by omega)]at hk
            have a:=hs (m - 1) m (by omega) (by omega);by_cases e:p=m - 1
            · rw[e];omega
            · have:=hs p (m - 1) (by omega) (by omega);omega
        · rcases List.mem_append.1 hy with hy|hy
          · obtain⟨p,hp,e⟩:=h2 y hy
            exact⟨p,by omega,e⟩
          · exact⟨m,by omega,(List.mem_singleton.1 hy).symm⟩
        · rw[List.mem_append]
          by_cases e:p=m
          · rw[e];exact Or.inr (List.mem_singleton.2 rfl)
          · exact Or.inl (h3 p (by omega))
      · rw[if_neg hk,List.append_nil]
        refine⟨h1,fun y hy=>by obtain⟨p,hp,e⟩:=h2 y hy;exact⟨p,by omega,e⟩,fun p hp=>?_⟩;by_cases e:p=m
        · unfold Lib.keeps at hk
          rw[decide_eq_true_iff]at hk
          have hk2:l.toArray[m]! =l.toArray[m - 1]! :=by
            by_cases q:l.toArray[m]! =l.toArray[m - 1]!
            · exact q
            · exact absurd (Or.inr q) hk
          have hm0:m≠0:=fun q=>hk (Or.inl q)
          rw[hd m (by omega),hd (m - 1) (by omega)]at hk2;rw[e,hk2];exact h3 (m - 1) (by omega)
        · exact h3 p (by omega)
  obtain⟨h1,h2,h3⟩:=key l.length (Nat.le_refl _);refine⟨h1,fun y=>?_⟩;rw[zI (l:=l)]
  show y∈Lib.compactUpTo l.toArray l.length↔_
  constructor
  · intro hy
    obtain⟨p,hp,e⟩:=h2 y hy;exact⟨p,hp,e⟩
  · rintro⟨p,hp,rfl⟩
    exact h3 p hp
theorem zJ {c:List Int} (hc:c.Pairwise (·<·)) (h0:∀x∈c,0≤x) (hn:c.length≤100) {x:Int} (hx:x∈c):Ev (fun k=>lu.f k c x) (ue c x:Int):=by
  unfold lu.f;obtain⟨p,hp,rfl⟩:=List.mem_iff_getElem.1 hx;rw[AB hc h0 hp];have hget:=List.pairwise_iff_getElem.1 hc
  have key:∀i,i≤p→Ev (fun k=>lu.l0 k c c[p] (c.length:Int) (i:Int)) (p:Int):=by
    apply down
    · exact Ev.step (fun k=>rfl) (jb (by omega) (jb (by omega) (jb (by omega) (jb (qc hp).symm (Ev.now _)))))
    · intro i hi ih
      have hne:¬c[p]=rd c (i:Int):=by rw[qc (by omega)];have:=hget i p (by omega) hp hi;omega
      refine Ev.step (fun k=>rfl) (jb (by omega) (jb (by omega) (jb (by omega) (jW hne ?_))));rw[w1 (n:=c.length) (by omega) (by omega)];exact ih
  exact key 0 (Nat.zero_le _)
theorem yk {l:List Int} (hn:l.length≤8) (h0:∀x∈l,0≤x):Ev (fun k=>oB.f k l) (pH l):=by
  unfold oB.f;obtain⟨r,h1,h2,h3,h4⟩:=AD hn;obtain⟨c1,c2⟩:=vX h2;have hcl:=oL.len r;refine nt rfl (jb (by show 0+l.length<_;omega) ?_);rw[List.nil_append];refine Ev.bind h1 (nt rfl ?_);obtain⟨c,ec⟩:∃c,c=Lib.compact r:=⟨_,rfl⟩;rw[←ec]at c1 c2 hcl⊢;have hcm:∀y,y∈c↔y∈l:=fun y=>(c2 y).trans (h4 y)
  have key:∀i,i≤l.length→Ev (fun k=>oB.l0 k c ((l.take i).map fun x=>(ue l x:Int)) l (l.length:Int) (i:Int)) (pH l):=by
    apply down
    · refine Ev.step (fun k=>rfl) (jW (by omega) (oQ (Ev.now _) ?_))
      rw[List.take_length];rfl
    · intro i hi ih
      have hx:=zJ c1 (fun x hx=>h0 x ((hcm x).1 hx)) (by omega) ((hcm l[i]).2 (List.getElem_mem hi));rw[yQ hcm]at hx;refine Ev.step (fun k=>rfl) (jb (by omega) (jb (by omega) (jb (by omega) ?_)));rw[qc hi];refine Ev.bind hx (jb (by rw[List.length_map,List.length_take];omega) ?_);rw[w1 hi (by omega)];rw[List.take_succ_eq_append_getElem hi,List.map_append]at ih;exact ih
  exact key 0 (Nat.zero_le _)
theorem wO {l m:List Int} (hn:l.length≤9223372036854775807):Ev (fun k=>ky.f k l m) (decide (l=m)):=by
  unfold ky.f;by_cases hl:l.length=m.length
  · refine jb (by omega) ?_
    have key:∀i,i≤l.length→Ev (fun k=>ky.l0 k l m (l.length:Int) (i:Int)) (decide (l.drop i=m.drop i)):=by
      apply down
      · refine Ev.step (fun k=>rfl) (jW (by omega) (oQ (Ev.now _) ?_))
        rw[List.drop_length,List.drop_of_length_le (by omega)];exact(decide_eq_true rfl).symm
      · intro i hi ih
        refine Ev.step (fun k=>rfl) (jb (by omega) (jb (by omega) (jb (by omega) (jb (by omega) ?_))));rw[qc hi,qc (by omega),List.drop_eq_getElem_cons hi,List.drop_eq_getElem_cons (l:=m) (by omega)];by_cases e:l[i]=m[i]
        · refine jb e ?_
          rw[w1 hi hn];refine oQ ih (decide_eq_decide.2 ?_);rw[List.cons.injEq];exact⟨fun h=>⟨e,h⟩,fun h=>h.2⟩
        · refine jW e (oQ (Ev.now _) ?_)
          rw[decide_eq_false (fun h=>e (List.cons.inj h).1)]
    have:=key 0 (Nat.zero_le _);rw[List.drop_zero,List.drop_zero]at this;exact this
  · refine jW (by omega) (oQ (Ev.now _) ?_)
    rw[decide_eq_false (fun h=>hl (by rw[h]))]
def all (t:Int):Nat:=if t=1 then 3 else if t=2 then 15 else 255
theorem uO (t:Int):all t<256:=by unfold all;split<;>(try split)<;>omega
theorem wP {t:Int} (h:1≤t∧t≤3):pF.f t=some (all t:Int):=by
  rcases three h with rfl|rfl|rfl<;>decide+kernel
theorem tF {t:Int} (h:1≤t∧t≤3):pI.f t=some (all t:Int):=by
  rcases three h with rfl|rfl|rfl<;>decide+kernel
def zK (t s:Int):Bool:=decide ((1≤t∧t≤3)∧0≤s∧s≤all t)
theorem rY (s w:Nat) (h:w≤62):pf.f (s:Int) (w:Int)=some ((bi s w:Nat):Int):=by
  unfold pf.f;rw[if_pos (by omega),Az s w h]
theorem Bt (a b i:Nat):bi a i*bi b i=bi (a&&& b) i:=by
  rw[tQ,tQ,tQ,Nat.testBit_and];cases a.testBit i<;>cases b.testBit i<;>rfl
theorem AV (a i:Nat):bi a i≤1:=by
  have:bi a i<2:=Nat.mod_lt _ (by decide);omega
theorem vB {a b:Nat} (ha:a<256):Ev (fun k=>oa.f k (a:Int) (b:Int)) ((a&&& b:Nat):Int):=by
  unfold oa.f
  have key:∀(i:Nat),i≤8→Ev (fun k=>oa.l0 k (a:Int) (b:Int) (((a&&& b)%2^i:Nat):Int) (i:Int)) ((a&&& b:Nat):Int):=by
    apply down
    · refine Ev.step (fun k=>rfl) (jW (by omega) (oQ (Ev.now _) ?_))
      have:a&&& b<2^8:=Nat.lt_of_le_of_lt Nat.and_le_left ha;rw[Nat.mod_eq_of_lt this]
    · intro i hi ih
      refine Ev.step (fun k=>rfl) (jb (by omega) (nt (rY a i (by omega)) (nt (rY b i (by omega)) (jb (by omega) ?_))));have hp:(2:Nat)^i≤2^7:=Nat.pow_le_pow_right (by decide) (by omega);have hm:(a&&& b)%2^i<2^i:=Nat.mod_lt _ (Nat.two_pow_pos i);have hle:=AV (a&&& b) i
      have e1:wrap64 (((bi a i:Nat):Int)*((bi b i:Nat):Int))=((bi (a&&& b) i:Nat):Int):=by
        rw[←Int.natCast_mul,Bt];exact qZ (by omega) (by omega)
      have hmul:2^i*bi (a&&& b) i≤2^7:=by
        have:=Nat.mul_le_mul hp hle;omega
      have e2:wrap64 ((((a&&& b)%2^i:Nat):Int)+shl .i64 ((bi (a&&& b) i:Nat):Int) (i:Int))=(((a&&& b)%2^(i+1):Nat):Int):=by
        rw[Dr _ i (by omega),←Int.natCast_mul,Nat.mul_comm,AA];generalize 2^i*bi (a&&& b) i=z at hmul;generalize(a&&& b)%2^i=y at hm;generalize 2^i=p at hp hm;rw[qZ (n:=((z:Nat):Int)) (by omega) (by omega),qZ (by omega) (by omega)];omega
      rw[e1,e2,w1 hi (by omega)];exact ih
  have:=key 0 (Nat.zero_le _);simpa [Nat.mod_one] using this
theorem yl {S i:Nat} (h:S<2^i):S+2^i=S|||2^i:=by
  have:=Nat.two_pow_add_eq_or_of_lt h 1;rw[Nat.mul_one]at this;rw[Nat.add_comm,this,Nat.or_comm]
theorem ym {S i:Nat} (h:S<2^i) (j:Nat):(S+2^i).testBit j=(S.testBit j||decide (i=j)):=by
  rw[yl h,Nat.testBit_or,Nat.testBit_two_pow]
theorem tU {p:Int→Option Bool} {q:Nat→Bool}:∀(n x s:Nat),x+n≤8→s<2^x→(∀y:Nat,y<x+n→p (y:Int)=some (q y))→
    ∃r:Nat,nQ.l p n (x:Int) (s:Int)=some (r:Int)∧r<2^(x+n)∧∀w,r.testBit w=true↔s.testBit w=true∨(x≤w∧w<x+n∧q w=true)
  |0,x,s,_,hs,_=>⟨s,rfl,hs,fun w=>⟨Or.inl,fun h=>h.resolve_right fun k=>by omega⟩⟩
  |n+1,x,s,h8,hs,hp=>by
    have hx:2^x≤2^7:=Nat.pow_le_pow_right (by decide) (by omega)
    have hx2:2^(x+1)=2^x+2^x:=by rw[Nat.pow_succ];omega
    have hcast:(x:Int)+1=((x+1:Nat):Int):=by omega
    by_cases hq:q x=true
    · obtain⟨r,h1,h2,h3⟩:=tU n (x+1) (s+2^x) (by omega) (by omega) (fun y hy=>hp y (by omega))
      refine⟨r,?_,by rw[show x+(n+1)=x+1+n from by omega];exact h2,fun w=>?_⟩
      · show((p (x:Int)).bind fun b=>_)=_
        rw[hp x (by omega),Option.bind_some,hq,if_pos rfl,CA x (by omega),Dq _ _ (by omega) (by omega),←yl hs,hcast]
        exact h1
      · rw[h3,ym hs,Bool.or_eq_true,decide_eq_true_iff]
        constructor
        · rintro((k|rfl)|k)
          · exact Or.inl k
          · exact Or.inr ⟨by omega,by omega,hq⟩
          · exact Or.inr ⟨by omega,by omega,k.2.2⟩
        · rintro(k|⟨k1,k2,k3⟩)
          · exact Or.inl (Or.inl k)
          · by_cases e:x=w
            · exact Or.inl (Or.inr e)
            · exact Or.inr ⟨by omega,by omega,k3⟩
    · obtain⟨r,h1,h2,h3⟩:=tU n (x+1) s (by omega) (by omega) (fun y hy=>hp y (by omega))
      refine⟨r,?_,by rw[show x+(n+1)=x+1+n from by omega];exact h2,fun w=>?_⟩
      · show((p (x:Int)).bind fun b=>_)=_
        rw[hp x (by omega),Option.bind_some,if_neg hq,hcast]
        exact h1
      · rw[h3]
        constructor
        · rintro(k|k)
          · exact Or.inl k
          · exact Or.inr ⟨by omega,by omega,k.2.2⟩
        · rintro(k|⟨k1,k2,k3⟩)
          · exact Or.inl k
          · by_cases e:x=w
            · rw[←e]at k3;exact absurd k3 hq
            · exact Or.inr ⟨by omega,by omega,k3⟩
def sZ (l:List Int) (s:Nat):Nat→Nat→Int→Int
  |0,_,m=>m
  |d+1,i,m=>sZ l s d (i+1) (if s.testBit i=true then mn m (l.getD i 0)else m)
def leastOf (l:List Int) (s:Nat):Int:=sZ l s l.length 0 10
def vY (q:Nat→Bool):Nat→Nat
  |0=>0
  |n+1=>vY q n+(if q n=true then 2^n else 0)
theorem uC (q:Nat→Bool):∀n,vY q n<2^n
  |0=>Nat.one_pos
  |n+1=>by
    have h:=uC q n
    unfold vY
    rw[Nat.pow_succ]
    split<;>omega
theorem wQ (q:Nat→Bool) (w:Nat):∀n,(vY q n).testBit w=(decide (w<n)&&q w)
  |0=>by simp[vY]
  |n+1=>by
    have h:=wQ q w n
    unfold vY
    by_cases hq:q n=true
    · rw[if_pos hq,ym (uC q n),h]
      by_cases e:n=w
      · subst e;simp[hq]
      · rw[decide_eq_false e,Bool.or_false]
        congr 1
        exact decide_eq_decide.2 (by omega)
    · rw[if_neg hq,Nat.add_zero,h]
      by_cases e:n=w
      · subst e
        have:q n=false:=by simpa using hq
        simp[this]
      · congr 1
        exact decide_eq_decide.2 (by omega)
def rA (l:List Int) (s:Nat):Nat:=vY (fun w=>s.testBit w&&decide (l.getD w 0=leastOf l s)) l.length
theorem wR {l:List Int} (hn:l.length≤60) {s:Nat} (hs:s<256):Ev (fun k=>np.f k l (s:Int)) (leastOf l s):=by
  unfold np.f leastOf
  have key:∀i,i≤l.length→∀m:Int,Ev (fun k=>np.l0 k (s:Int) m l (l.length:Int) (i:Int)) (sZ l s (l.length - i) i m):=by
    apply down
    · intro m
      rw[Nat.sub_self];exact Ev.step (fun k=>rfl) (jW (by omega) (Ev.now _))
    · intro i hi ih m
      rw[show l.length - i=(l.length - (i+1))+1 from by omega];unfold sZ;refine Ev.step (fun k=>rfl) (jb (by omega) (jb (by omega) (jb (by omega) ?_)));rw[yi s i (by omega) (by omega),w1 hi (by omega),uB];by_cases hb:s.testBit i=true
      · rw[if_pos hb]
        exact jb (tS.2 hb) (ih _)
      · rw[if_neg hb]
        exact jW (fun k=>hb (tS.1 k)) (ih _)
  exact key 0 (Nat.zero_le _) 10
theorem xi {t:Int} (ht:1≤t∧t≤3) {l:List Int} (hl:l.length=wn t) {s:Nat} (hs:s<2^wn t):Ev (fun k=>nR.f k t l (s:Int)) ((rA l s:Nat):Int):=by
  have h8:=(qW t).1;have hs8:s<256:=Nat.lt_of_lt_of_le hs (Nat.pow_le_pow_right (n:=2) (by decide) h8);unfold nR.f;refine Ev.bind (wR (by omega) hs8) ?_
  have hp:∀y:Nat,y<0+wn t→nR.p l (leastOf l s) (y:Int)=some (decide (l.getD y 0=leastOf l s)):=by
    intro y hy;unfold nR.p;rw[if_pos (by omega),if_pos (by omega),uB]
  obtain⟨r,h1,h2,h3⟩:=tU (p:=nR.p l (leastOf l s)) (q:=fun y=>decide (l.getD y 0=leastOf l s)) (wn t) 0 0 (by omega) Nat.one_pos hp
  have hf:nQ.f (nR.p l (leastOf l s)) t=some (r:Int):=by
    unfold nQ.f;rw[if_pos (by omega),if_pos (by omega),show 2^t.toNat=wn t from by rcases three ht with rfl|rfl|rfl<;>rfl];exact h1
  refine nt hf (oQ (Ev.now _) ?_);rw[Nat.zero_add]at h2;have El:r<256:=Nat.lt_of_lt_of_le h2 (Nat.pow_le_pow_right (n:=2) (by decide) (by omega));rw[band s r (Nat.lt_trans hs8 (by decide)) (Nat.lt_trans El (by decide))];congr 1;apply Nat.eq_of_testBit_eq;intro w;unfold rA;rw[Nat.testBit_and,wQ,hl];have hb:=h3 w;rw[Nat.zero_testBit]at hb;by_cases hw:w<wn t
  · rw[decide_eq_true hw,Bool.true_and]
    congr 1;rw[Bool.eq_iff_iff,hb];constructor
    · rintro(k|k)
      · cases k
      · exact k.2.2
    · intro k
      exact Or.inr ⟨Nat.zero_le _,by omega,k⟩
  · have hf:r.testBit w=false:=by
      rw[Bool.eq_false_iff];intro k;rcases hb.1 k with k|k
      · cases k
      · omega
    rw[decide_eq_false hw,hf,Bool.and_false,Bool.false_and]
theorem xj {l:List Int} (hn:l.length≤8) (s:Nat):Ev (fun k=>nq.f k l (s:Int)) ((rA l s:Nat):Int):=by
  unfold nq.f
  have two:∀i,i≤l.length→Ev (fun k=>nq.l1 k l (s:Int) (leastOf l s) ((vY (fun w=>s.testBit w&&decide (l.getD w 0=leastOf l s)) i:Nat):Int) (i:Int)) ((rA l s:Nat):Int):=by
    apply down
    · exact Ev.step (fun k=>rfl) (jW (by omega) (Ev.now _))
    · intro i hi ih
      have hb:=uC (fun w=>s.testBit w&&decide (l.getD w 0=leastOf l s)) i;have hp:2^i≤2^7:=Nat.pow_le_pow_right (by decide) (by omega);refine Ev.step (fun k=>rfl) (jb (by omega) (nt (rY s i (by omega)) ?_));rw[w1 hi (by omega)];unfold vY at ih;by_cases hbit:s.testBit i=true
      · refine jb (tS.2 hbit) (jb (by omega) ?_)
        rw[uB];by_cases he:l.getD i 0=leastOf l s
        · refine jb he ?_
          rw[CA i (by omega),qZ (by omega) (by omega)];rw[if_pos (by rw[hbit,decide_eq_true he];rfl)]at ih;exact ih
        · refine jW he ?_
          rw[if_neg (by rw[decide_eq_false he,Bool.and_false];decide)]at ih;exact ih
      · refine jW (fun k=>hbit (tS.1 k)) ?_
        rw[if_neg (by simp[hbit])]at ih;exact ih
  have one:∀i,i≤l.length→∀m:Int,sZ l s (l.length - i) i m=leastOf l s→Ev (fun k=>nq.l0 k l (s:Int) m (i:Int)) ((rA l s:Nat):Int):=by
    apply down
    · intro m hm
      rw[Nat.sub_self]at hm;have:m=leastOf l s:=hm;rw[this];exact Ev.step (fun k=>rfl) (jW (by omega) (two 0 (Nat.zero_le _)))
    · intro i hi ih m hm
      rw[show l.length - i=(l.length - (i+1))+1 from by omega]at hm;unfold sZ at hm;refine Ev.step (fun k=>rfl) (jb (by omega) (nt (rY s i (by omega)) ?_));rw[w1 hi (by omega)];by_cases hbit:s.testBit i=true
      · refine jb (tS.2 hbit) (jb (by omega) ?_)
        rw[uB];rw[if_pos hbit]at hm;exact ih _ hm
      · refine jW (fun k=>hbit (tS.1 k)) ?_
        rw[if_neg hbit]at hm;exact ih _ hm
  exact one 0 (Nat.zero_le _) 10 rfl
def raise (l:List Int) (F:Nat):List Int:=l.mapIdx fun w r=>if F.testBit w=true then r else r+10
theorem pP (l:List Int) (F:Nat):(raise l F).length=l.length:=List.length_mapIdx
theorem raise_at (l:List Int) (F:Nat) {i:Nat} (h:i<l.length):(raise l F)[i]'(by rw[pP];exact h)=if F.testBit i=true then l[i]else l[i]+10:=by
  unfold raise;rw[List.getElem_mapIdx]
theorem ta {l:List Int} {F:Nat} {y:Int} (h:y∈raise l F):∃x∈l,y=x∨y=x+10:=by
  obtain⟨i,hi,rfl⟩:=List.mem_iff_getElem.1 h;rw[pP]at hi;rw[raise_at l F hi];refine⟨l[i],List.getElem_mem hi,?_⟩;split
  · exact Or.inl rfl
  · exact Or.inr rfl
def vr (l:List Int) (way:Int) (s:Nat):List Int:=pH (raise l (if way=0 then rA l s else s))
theorem wS {l:List Int} (hn:l.length≤8) (s:Nat):rA l s<256:=Nat.lt_of_lt_of_le (uC _ _) (Nat.pow_le_pow_right (n:=2) (by decide) hn)
theorem xk {t:Int} (ht:1≤t∧t≤3) {l:List Int} (hl:l.length=wn t) (hx:∀x∈l,0≤x∧x≤9) {s:Nat} (hs:s<2^wn t) (way:Int):Ev (fun k=>kY.f k t l way (s:Int)) (vr l way s):=by
  have h8:=(qW t).1;have hs8:s<256:=Nat.lt_of_lt_of_le hs (Nat.pow_le_pow_right (n:=2) (by decide) h8)
  have go:∀F:Nat,F<256→Ev (fun k=>kY.j0 k l (F:Int)) (pH (raise l F)):=by
    intro F hF;have Ds:=yk (l:=raise l F) (by rw[pP];omega) (fun y hy=>by obtain⟨x,h1,h2⟩:=ta hy;have:=hx x h1;omega)
    have key:∀i,i≤l.length→Ev (fun k=>kY.l0 k (F:Int) ((raise l F).take i) l (l.length:Int) (i:Int)) (pH (raise l F)):=by
      apply down
      · refine Ev.step (fun k=>rfl) (jW (by omega) ?_)
        rw[List.take_of_length_le (by rw[pP];omega)];exact Ev.bind Ds (Ev.now _)
      · intro i hi ih
        have hi2:i<(raise l F).length:=by rw[pP];exact hi
        have hlen:((raise l F).take i).length<17592186044416:=by rw[List.length_take];omega
        have hxi:=hx _ (List.getElem_mem hi);rw[List.take_succ_eq_append_getElem hi2,raise_at l F hi]at ih;refine Ev.step (fun k=>rfl) (jb (by omega) (jb (by omega) (jb (by omega) ?_)));rw[yi F i (by omega) (by omega),w1 hi (by omega),qc hi];by_cases hb:F.testBit i=true
        · rw[if_pos hb]at ih
          exact jW (fun k=>by rw[yh.1 k]at hb;cases hb) (jb hlen ih)
        · rw[if_neg hb]at ih
          refine jb (yh.2 (by simpa using hb)) (jb hlen ?_);rw[qZ (by omega) (by omega)];exact ih
    exact Ev.step (f:=fun k=>kY.l0 k (F:Int) (([]:List Int)) l (l.length:Int) 0) (fun k=>rfl) (key 0 (Nat.zero_le _))
  unfold kY.f vr;by_cases hw:way=0
  · rw[if_pos hw]
    exact jb hw (Ev.bind (xi ht hl hs) (go _ (wS (by omega) s)))
  · rw[if_neg hw]
    exact jW hw (go s hs8)
theorem yS {l:List Int} (hn:l.length≤8) (h0:∀x∈l,0≤x):Ev (fun k=>lg.f k l) (pH l):=by
  unfold lg.f
  have three_:∀(out:List Int) (w:Nat) (seen:List Int) (v:Nat) (hv:v<l.length) (res:List Int),seen.length≤100→∀j,j≤seen.length→∀b:Bool,
      Ev (fun k=>lg.l1 k l out (w:Int) (if b=true∨l[v]∈seen.drop j then seen else seen++ [l[v]]) ((v+1:Nat):Int)) res→Ev (fun k=>lg.l2 k l out (w:Int) seen (v:Int) b (j:Int)) res:=by
    intro out w seen v hv res hs;apply down (P:=fun j=>∀b:Bool,Ev (fun k=>lg.l1 k l out (w:Int) (if b=true∨l[v]∈seen.drop j then seen else seen++ [l[v]]) ((v+1:Nat):Int)) res→Ev (fun k=>lg.l2 k l out (w:Int) seen (v:Int) b (j:Int)) res)
    · intro b hb
      refine Ev.step (fun k=>rfl) (jW (by omega) ?_);rw[List.drop_length]at hb;cases b with
      |true=>
        refine jb rfl ?_;rw[w1 hv (by omega)];rw[if_pos (Or.inl rfl)]at hb;exact hb
      |false=>
        refine jW (by decide) (jb (by omega) (jb (by omega) (jb (by omega) ?_)));rw[w1 hv (by omega),qc hv];rw[if_neg (by simp)]at hb;exact hb
    · intro j hj ih b hb
      rw[List.drop_eq_getElem_cons hj]at hb;refine Ev.step (fun k=>rfl) (jb (by omega) ?_);cases b with
      |true=>
        refine jb rfl ?_;rw[w1 hj (by omega)];refine ih true ?_;rw[if_pos (Or.inl rfl)]at hb⊢;exact hb
      |false=>
        refine jW (by decide) (jb (by omega) (jb (by omega) (jb (by omega) ?_)));rw[w1 hj (by omega),qc hj,qc hv];refine ih _ ?_
        have:((seen[j]==l[v])=true∨l[v]∈seen.drop (j+1))↔(false=true∨l[v]∈seen[j]::seen.drop (j+1)):=by
          rw[List.mem_cons,beq_iff_eq];constructor
          · rintro(h|h)
            · exact Or.inr (Or.inl h.symm)
            · exact Or.inr (Or.inr h)
          · rintro(h|h|h)
            · cases h
            · exact Or.inl h.symm
            · exact Or.inr h
        simp only[this];exact hb
  have two:∀(out:List Int) (w:Nat) (hw:w<l.length) (res:List Int),out.length≤100→Ev (fun k=>lg.l0 k l (out++ [(ue l l[w]:Int)]) ((w+1:Nat):Int)) res→
      ∀v,v≤l.length→∀seen:List Int,seen.Nodup→seen.length≤v→(∀y,y∈seen↔y∈l.take v∧y<l[w])→Ev (fun k=>lg.l1 k l out (w:Int) seen (v:Int)) res:=by
    intro out w hw res ho hres;have hw0:=h0 _ (List.getElem_mem hw);apply down
    · intro seen hd _ hm
      refine Ev.step (fun k=>rfl) (jW (by omega) (jb (by omega) ?_));rw[w1 hw (by omega)]
      have e:seen.length=ue l l[w]:=sY _ seen hd (fun y=>by
        rw[hm y,List.take_length];constructor
        · rintro⟨a,b⟩;exact⟨a,h0 y a,by omega⟩
        · rintro⟨a,b,c⟩;exact⟨a,by omega⟩)
      rw[e];exact hres
    · intro v hv ih seen hd hsl hm
      have hv0:=h0 _ (List.getElem_mem hv);refine Ev.step (fun k=>rfl) (jb (by omega) (jb (by omega) (jb (by omega) (jb (by omega) ?_))));rw[qc hv,qc hw];refine three_ out w seen v hv res (by omega) 0 (Nat.zero_le _) _ ?_;rw[List.drop_zero];have hmem:∀y,y∈l.take (v+1)↔y∈l.take v∨y=l[v]:=fun y=>by rw[List.take_succ_eq_append_getElem hv,List.mem_append,List.mem_singleton]
      by_cases hc:decide (l[v]≥l[w])=true∨l[v]∈seen
      · rw[if_pos hc]
        refine ih seen hd (by omega) (fun y=>?_);rw[hm y,hmem y];constructor
        · rintro⟨a,b⟩;exact⟨Or.inl a,b⟩
        · rintro⟨a|a,b⟩
          · exact⟨a,b⟩
          · rcases hc with hc|hc
            · have:=of_decide_eq_true hc;omega
            · have:=(hm _).1 hc;rw[a];exact⟨this.1,by omega⟩
      · rw[if_neg hc]
        have h1:¬l[v]≥l[w]:=fun k=>hc (Or.inl (decide_eq_true k))
        have h2:l[v]∉seen:=fun k=>hc (Or.inr k)
        refine ih (seen++ [l[v]]) ?_ (by rw[List.length_append,List.length_singleton];omega) (fun y=>?_)
        · rw[List.nodup_append]
          refine⟨hd,by simp,fun a ha b hb=>?_⟩;rw[List.mem_singleton.1 hb];intro e;exact h2 (e▸ha)
        · rw[List.mem_append,List.mem_singleton,hm y,hmem y]
          constructor
          · rintro(⟨a,b⟩|a)
            · exact⟨Or.inl a,b⟩
            · exact⟨Or.inr a,by omega⟩
          · rintro⟨a|a,b⟩
            · exact Or.inl ⟨a,b⟩
            · exact Or.inr a
  have one:∀w,w≤l.length→Ev (fun k=>lg.l0 k l ((l.take w).map fun x=>(ue l x:Int)) (w:Int)) (pH l):=by
    apply down
    · refine Ev.step (fun k=>rfl) (jW (by omega) (oQ (Ev.now _) ?_))
      rw[List.take_length];rfl
    · intro w hw ih
      rw[List.take_succ_eq_append_getElem hw,List.map_append]at ih;exact Ev.step (fun k=>rfl) (jb (by omega) (two _ w hw _ (by rw[List.length_map,List.length_take];omega) ih 0 (Nat.zero_le _) [] List.nodup_nil (Nat.le_refl _) (fun y=>by simp)))
  exact one 0 (Nat.zero_le _)
theorem vC {l:List Int} (hn:l.length≤8) (hx:∀x∈l,0≤x∧x≤9) (F:Nat):Ev (fun k=>nM.f k l (F:Int)) (pH (raise l F)):=by
  unfold nM.f;have Ds:=yS (l:=raise l F) (by rw[pP];omega) (fun y hy=>by obtain⟨x,h1,h2⟩:=ta hy;have:=hx x h1;omega)
  have key:∀i,i≤l.length→Ev (fun k=>nM.l0 k l (F:Int) ((raise l F).take i) (i:Int)) (pH (raise l F)):=by
    apply down
    · refine Ev.step (fun k=>rfl) (jW (by omega) ?_)
      rw[List.take_of_length_le (by rw[pP];omega)];exact Ev.bind Ds (Ev.now _)
    · intro i hi ih
      have hi2:i<(raise l F).length:=by rw[pP];exact hi
      have hlen:((raise l F).take i).length<17592186044416:=by rw[List.length_take];omega
      have hxi:=hx _ (List.getElem_mem hi);rw[List.take_succ_eq_append_getElem hi2,raise_at l F hi]at ih;refine Ev.step (fun k=>rfl) (jb (by omega) (jb (by omega) (nt (rY F i (by omega)) (jb hlen ?_))));rw[w1 hi (by omega),qc hi,tQ];by_cases hb:F.testBit i=true
      · rw[if_pos hb]at ih⊢
        rw[show wrap64 (l[i]+wrap64 (wrap64 (1 - ((1:Nat):Int))*10))=l[i] from by rw[qZ (n:=1 - ((1:Nat):Int)) (by omega) (by omega),qZ (n:=(1 - ((1:Nat):Int))*10) (by omega) (by omega),qZ (by omega) (by omega)];omega];exact ih
      · rw[if_neg hb]at ih⊢
        rw[show wrap64 (l[i]+wrap64 (wrap64 (1 - ((0:Nat):Int))*10))=l[i]+10 from by rw[qZ (n:=1 - ((0:Nat):Int)) (by omega) (by omega),qZ (n:=(1 - ((0:Nat):Int))*10) (by omega) (by omega),qZ (by omega) (by omega)];omega];exact ih
  exact key 0 (Nat.zero_le _)
theorem zL (t s:Int):qi.f t s=some (zK t s):=by
  unfold qi.f zK;rw[qI,Option.bind_some];by_cases h:1≤t∧t≤3
  · rw[decide_eq_true h,if_pos rfl,wP h,Option.bind_some,qI,Option.bind_some]
    congr 1;exact decide_eq_decide.2 ⟨fun k=>⟨h,k⟩,fun k=>k.2⟩
  · rw[decide_eq_false h,if_neg (by decide)]
    congr 1;symm;exact decide_eq_false (fun k=>h k.1)
def vt (c:Nat):Nat→Nat
  |0=>0
  |w+1=>vt c w+2^w*bi w c
theorem yn (c:Nat):∀w,vt c w<2^w
  |0=>Nat.one_pos
  |w+1=>by
    have h:=yn c w
    have hb:bi w c≤1:=AV w c
    show vt c w+2^w*bi w c<_
    rw[Nat.pow_succ]
    have:2^w*bi w c≤2^w*1:=Nat.mul_le_mul_left _ hb
    omega
theorem tV {t:Int} (h:1≤t∧t≤3):all t+1=2^wn t:=by rcases three h with rfl|rfl|rfl<;>decide
theorem xl (t:Int):2^wn t≤256:=Nat.pow_le_pow_right (n:=2) (by decide) (qW t).1
def Af (t:Int) (b:Int) (x y:Nat):Option Nat:=if b=38 then some (x&&& y)else if b=124 then some (x|||y)else if b=62 then some ((all t^^^x)|||y)else none
def vo (t:Int) (s:ByteArray):Nat→Nat→Option (Nat×Nat)
  |0,_=>none
  |n+1,i=>if i<s.size then
      (if bt s i=49 then some (all t,i+1)else if bt s i=48 then some (0,i+1)
       else if 97≤bt s i∧bt s i - 97<t then some (vt (bt s i - 97).toNat (wn t),i+1)
       else if bt s i=33 then(vo t s n (i+1)).map fun x=>(all t^^^x.1,x.2)
       else if bt s i=40 then(vo t s n (i+1)).bind fun x=>if x.2<s.size then(vo t s n (x.2+1)).bind fun y=>if y.2<s.size∧bt s y.2=41 then(Af t (bt s x.2) x.1 y.1).map fun z=>(z,y.2+1)else none else none
       else none)else none
theorem vZ {t:Int} (h:1≤t∧t≤3) {a:Nat} (ha:a<2^wn t):all t^^^a<2^wn t:=Nat.xor_lt_two_pow (by have:=tV h;omega) ha
theorem Bu {t:Int} (h:1≤t∧t≤3) {b:Int} {x y z:Nat} (hx:x<2^wn t) (hy:y<2^wn t) (hz:Af t b x y=some z):z<2^wn t:=by
  unfold Af at hz;split at hz
  · cases hz;exact Nat.lt_of_le_of_lt Nat.and_le_left hx
  split at hz
  · cases hz;exact Nat.or_lt_two_pow hx hy
  split at hz
  · cases hz;exact Nat.or_lt_two_pow (vZ h hx) hy
  · cases hz
theorem qM {t:Int} (ht:1≤t∧t≤3) (s:ByteArray):∀(n i:Nat) (x:Nat×Nat),vo t s n i=some x→x.1<2^wn t∧i<x.2∧x.2≤s.size:=by
  intro n;induction n with
  |zero=>intro i x h;cases h
  |succ n ih=>
    intro i x h;unfold vo at h;by_cases hlt:i<s.size
    · rw[if_pos hlt]at h
      split at h
      · cases h;exact⟨by have:=tV ht;show all t<_;omega,by show i<i+1;omega,by show i+1≤_;omega⟩
      split at h
      · cases h;exact⟨Nat.two_pow_pos _,by show i<i+1;omega,by show i+1≤_;omega⟩
      split at h
      · cases h;exact⟨yn _ _,by show i<i+1;omega,by show i+1≤_;omega⟩
      split at h
      · obtain⟨y,hy,rfl⟩:=Option.map_eq_some_iff.1 h
        obtain⟨a,b,c⟩:=ih _ _ hy;exact⟨vZ ht a,by show i<y.2;omega,c⟩
      split at h
      · obtain⟨y,hy,h⟩:=Option.bind_eq_some_iff.1 h
        obtain⟨a,b,c⟩:=ih _ _ hy;split at h
        · obtain⟨z,hz,h⟩:=Option.bind_eq_some_iff.1 h
          obtain⟨a',b',c'⟩:=ih _ _ hz;split at h
          · rename_i hc
            obtain⟨v,hv,rfl⟩:=Option.map_eq_some_iff.1 h;exact⟨Bu ht a a' hv,by show i<z.2+1;omega,by show z.2+1≤_;omega⟩
          · cases h
        · cases h
      · cases h
    · rw[if_neg hlt]at h
      cases h
theorem yo {t:Int} (ht:1≤t∧t≤3) {a:Nat} (ha:a<2^wn t):all t - a=all t^^^a:=by
  rcases three ht with rfl|rfl|rfl
  · exact(by decide:∀a:Fin 4,3 - a.val=3^^^a.val) ⟨a,ha⟩
  · exact(by decide:∀a:Fin 16,15 - a.val=15^^^a.val) ⟨a,ha⟩
  · exact(by decide+kernel:∀a:Fin 256,255 - a.val=255^^^a.val) ⟨a,ha⟩
theorem xm {a b:Nat} (ha:a<256) (hb:b<256):a+b - (a&&& b)=a|||b:=
  (by decide+kernel:∀a b:Fin 256,a.val+b.val - (a.val&&& b.val)=a.val|||b.val) ⟨a,ha⟩ ⟨b,hb⟩
theorem vD {a b:Nat} (ha:a<256) (hb:b<256):Ev (fun k=>oV.f k (a:Int) (b:Int)) ((a|||b:Nat):Int):=by
  refine Ev.bind (vB (b:=b) ha) (oQ (Ev.now _) ?_);have h1:a&&& b≤a:=Nat.and_le_left;rw[←xm ha hb,qZ (n:=(a:Int)+b) (by omega) (by omega),qZ (by omega) (by omega)];omega
def Bv:Option (Nat×Nat)→Int×Int
  |some x=>((x.1:Int),(x.2:Int))
  |none=>(-1, -1)
theorem yT:∀c:Fin 3,∀w:Fin 8,wrap64 ((vt c.val w.val:Nat)+(shl .i64 (Int.tmod (shr .i64 (w.val:Int) (((97+(c.val:Int)) - 97)%256)) 2) (w.val:Int)))=((vt c.val (w.val+1):Nat):Int):=by decide+kernel
theorem CE {z i m n:Nat} (h:z - i≤n+1) (h1:i<m):z - (m+1)≤n:=by omega
theorem DU {z:Nat} (h:z≤1000000000):z≤9223372036854775807:=by omega
set_option maxHeartbeats 2000000 in
theorem yU {t:Int} (ht:1≤t∧t≤3) (s:ByteArray) (hs:s.size≤1000000000):∀(n:Nat) (i:Nat),s.size - i≤n→Ev (fun k=>jX.f k t s (i:Int)) (Bv (vo t s n i)):=by
  intro n;induction n with
  |zero=>
    intro i hi;exact Ev.step (fun k=>rfl) (jb (by omega) (Ev.now _))
  |succ n ih=>
    intro i hi;unfold vo;by_cases hge:(i:Int)≥(s.size:Int)
    · rw[if_neg (by omega)]
      exact Ev.step (fun k=>rfl) (jb hge (Ev.now _))
    have hlt:i<s.size:=by omega
    obtain⟨al,CW⟩:∃al:Int,al=((all t:Nat):Int):=⟨_,rfl⟩;have hal:pF.f t=some al:=by rw[CW];exact wP ht
    have e1:wrap64 ((i:Int)+1)=((i+1:Nat):Int):=w1 hlt (by omega);rw[if_pos hlt];by_cases yp:bt s i=49
    · rw[if_pos yp]
      refine Ev.step (fun k=>rfl) (jW hge (nt (hal) (jb (by omega) (jb (by omega) (jb yp ?_)))));rw[e1,CW];exact Ev.now _
    rw[if_neg yp];by_cases h48:bt s i=48
    · rw[if_pos h48]
      refine Ev.step (fun k=>rfl) (jW hge (nt (hal) (jb (by omega) (jb (by omega) (jW yp (jb h48 ?_))))));rw[e1];exact Ev.now _
    rw[if_neg h48];have hb:=bt_range s i;by_cases hth:97≤bt s i∧bt s i - 97<t
    · rw[if_pos hth]
      refine Ev.step (fun k=>rfl) (jW hge (nt (hal) (jb (by omega) (jb (by omega) (jW yp (jW h48 (jb (by omega) ?_)))))));rw[decide_eq_true (by omega)];obtain⟨c,hc⟩:∃c:Nat,bt s i=97+(c:Int):=⟨(bt s i - 97).toNat,by omega⟩;have hc3:c<3:=by omega
      rw[show(bt s i - 97).toNat=c from by omega]
      have loop:∀w,w≤wn t→Ev (fun k=>jX.l0 k t s (i:Int) ((vt c w:Nat):Int) (w:Int)) (((vt c (wn t):Nat):Int),((i+1:Nat):Int)):=by
        have hw:=qW t;apply down
        · refine Ev.step (fun k=>rfl) (jb (by omega) (jW (by rw[uL ht];omega) ?_))
          rw[e1];exact Ev.now _
        · intro w hw' ih2
          refine Ev.step (fun k=>rfl) (jb (by omega) (jb (by rw[uL ht];omega) (jb (by omega) (jb (by omega) (jb (by omega) ?_)))));rw[w1 hw' (by omega),hc,yT ⟨c,hc3⟩ ⟨w,by omega⟩];exact ih2
      exact Ev.step (f:=fun k=>jX.l0 k t s (i:Int) 0 0) (fun k=>rfl) (loop 0 (Nat.zero_le _))
    rw[if_neg hth];have st:∀{g:Nat→Option (Int×Int)} {r} {al:Int},(∀k,g k=(if 0≤(i:Int)then(if(i:Int)<(s.size:Int)then(if(bt s i)=33 then((jX.f k t s (wrap64 ((i:Int)+1))).bind fun zM=>(if zM.2<0 then(some ((-1),(-1)))else(some (wrap64 (al - zM.1),zM.2))))else(if(bt s i)=40 then((jX.f k t s (wrap64 ((i:Int)+1))).bind fun vE=>(if vE.2<0 then(jX.j2 k t s al vE.1 vE.2 true)else(jX.j2 k t s al vE.1 vE.2 (decide (vE.2≥(s.size:Int))))))else(some ((-1),(-1)))))else(none))else(none)))→Ev g r→Ev (fun k=>jX.j0 k t s (i:Int) al false) r:=fun hg h=>Ev.step (fun k=>(hg k).symm) h
    have go:∀{r},Ev (fun k=>jX.j0 k t s (i:Int) al false) r→Ev (fun k=>jX.f k t s (i:Int)) r:=by
      intro r h;refine Ev.step (fun k=>rfl) (jW hge (nt (hal) (jb (by omega) (jb (by omega) (jW yp (jW h48 ?_))))));by_cases h97:bt s i≥97
      · refine jb h97 ?_
        rw[decide_eq_false (by omega)];exact h
      · exact jW h97 h
    refine go ?_;have h1:=ih (i+1) (by omega);by_cases zN:bt s i=33
    · rw[if_pos zN]
      refine st (fun k=>rfl) (jb (by omega) (jb (by omega) (jb zN ?_)));rw[e1];refine Ev.bind h1 ?_;cases hr:vo t s n (i+1)with
      |none=>exact jb (by show(-1:Int)<0;omega) (Ev.now _)
      |some x=>
        obtain⟨a,b,c⟩:=qM ht s _ _ _ hr;refine jW (by show¬((x.2:Int)<0);clear a;omega) (oQ (Ev.now _) ?_)
        show(wrap64 (al - (x.1:Int)),(x.2:Int))=(((all t^^^x.1:Nat):Int),(x.2:Int))
        have hle:x.1≤all t:=Nat.le_of_lt_succ (Nat.lt_of_lt_of_eq a (tV ht).symm);have DV:=uO t;rw[CW,←yo ht a,qZ (by clear a;omega) (by clear a;omega)];clear a;congr 1;omega
    rw[if_neg zN];by_cases xn:bt s i=40
    · rw[if_pos xn]
      refine st (fun k=>rfl) (jb (Int.natCast_nonneg i) (jb (Int.ofNat_lt.2 hlt) (jW zN (jb xn ?_))));rw[e1];refine Ev.bind h1 ?_;have CF:∀a e:Int,Ev (fun k=>jX.j2 k t s al a e true) (-1, -1):=fun a e=>Ev.step (f:=fun _=>some (-1, -1)) (fun k=>rfl) (Ev.now _)
      have Bw:∀a e a2 e2:Int,Ev (fun k=>jX.j3 k s al a e a2 e2 true) (-1, -1):=fun a e a2 e2=>Ev.step (f:=fun _=>some (-1, -1)) (fun k=>rfl) (Ev.now _)
      cases hr:vo t s n (i+1)with
      |none=>exact jb (by decide) (CF _ _)
      |some x=>
        obtain⟨ra,rb,rc⟩:=qM ht s _ _ _ hr;obtain⟨a1,m⟩:=x;simp only at ra rb rc;have Cf:a1<256:=Nat.lt_of_lt_of_le ra (xl t);replace ra:kn (a1<2^wn t):=⟨ra⟩;refine jW (Int.not_lt.2 (Int.natCast_nonneg m)) ?_
        show Ev (fun k=>jX.j2 k t s al (a1:Int) (m:Int) (decide ((m:Int)≥(s.size:Int)))) (Bv (if m<s.size then(vo t s n (m+1)).bind fun y=>if y.2<s.size∧bt s y.2=41 then(Af t (bt s m) a1 y.1).map fun z=>(z,y.2+1)else none else none))
        by_cases hm:m<s.size
        · have hm1:¬((m:Int)≥(s.size:Int)):=Int.not_le.2 (Int.ofNat_lt.2 hm)
          rw[if_pos hm,decide_eq_false hm1];have em:wrap64 ((m:Int)+1)=((m+1:Nat):Int):=w1 hm (DU hs);have h2:=ih (m+1) (CE hi (Nat.lt_of_succ_lt rb));refine Ev.step (f:=fun k=>(jX.f k t s (wrap64 ((m:Int)+1))).bind fun re=>(if re.2<0 then(jX.j3 k s al (a1:Int) (m:Int) re.1 re.2 true)else(if re.2≥(s.size:Int)then(jX.j3 k s al (a1:Int) (m:Int) re.1 re.2 true)else(if 0≤re.2 then(if re.2<(s.size:Int)then(jX.j3 k s al (a1:Int) (m:Int) re.1 re.2 ((bt s re.2) !=41))else(none))else(none))))) (fun k=>rfl) ?_;rw[em];refine Ev.bind h2 ?_;cases hr2:vo t s n (m+1)with
          |none=>exact jb (by decide) (Bw _ _ _ _)
          |some y=>
            obtain⟨sa,sb,sc⟩:=qM ht s _ _ _ hr2;obtain⟨a2,e⟩:=y;simp only at sa sb sc;have Cg:a2<256:=Nat.lt_of_lt_of_le sa (xl t);clear sa;refine jW (Int.not_lt.2 (Int.natCast_nonneg e)) ?_
            show Ev (fun k=>if(e:Int)≥(s.size:Int)then(jX.j3 k s al (a1:Int) (m:Int) (a2:Int) (e:Int) true)else(if 0≤(e:Int)then(if(e:Int)<(s.size:Int)then(jX.j3 k s al (a1:Int) (m:Int) (a2:Int) (e:Int) ((bt s e) !=41))else(none))else(none))) (Bv (if e<s.size∧bt s e=41 then(Af t (bt s m) a1 a2).map fun z=>(z,e+1)else none))
            by_cases he:e<s.size
            · refine jW (Int.not_le.2 (Int.ofNat_lt.2 he)) (jb (Int.natCast_nonneg e) (jb (Int.ofNat_lt.2 he) ?_))
              by_cases AE:bt s e=41
              · rw[if_pos ⟨he,AE⟩,show(bt s e !=41)=false from by rw[AE];rfl]
                have ee:wrap64 ((e:Int)+1)=((e+1:Nat):Int):=w1 he (DU hs);have Em:∀{g:Nat→Option (Int×Int)} {r},(∀k,g k=(if 0≤(m:Int)then(if(m:Int)<(s.size:Int)then(if(bt s m)=38 then((oa.f k (a1:Int) (a2:Int)).bind fun Dt=>(some (Dt,wrap64 ((e:Int)+1))))else(if(bt s m)=124 then((oV.f k (a1:Int) (a2:Int)).bind fun Du=>(some (Du,wrap64 ((e:Int)+1))))else(if(bt s m)=62 then((oV.f k (wrap64 (al - (a1:Int))) (a2:Int)).bind fun Bx=>(some (Bx,wrap64 ((e:Int)+1))))else(some ((-1),(-1))))))else(none))else(none)))→Ev g r→Ev (fun k=>jX.j3 k s al (a1:Int) (m:Int) (a2:Int) (e:Int) false) r:=fun hg h=>Ev.step (fun k=>(hg k).symm) h
                refine Em (fun k=>rfl) (jb (Int.natCast_nonneg m) (jb (Int.ofNat_lt.2 hm) ?_));rw[ee];unfold Af;by_cases q1:bt s m=38
                · rw[if_pos q1]
                  exact jb q1 (Ev.bind (vB Cf) (Ev.now _))
                rw[if_neg q1];refine jW q1 ?_;by_cases q2:bt s m=124
                · rw[if_pos q2]
                  exact jb q2 (Ev.bind (vD Cf Cg) (Ev.now _))
                rw[if_neg q2];refine jW q2 ?_;by_cases q3:bt s m=62
                · rw[if_pos q3]
                  refine jb q3 ?_;have hx:=vZ ht ra.out;have hle:a1≤all t:=Nat.le_of_lt_succ (Nat.lt_of_lt_of_eq ra.out (tV ht).symm);have DV:=uO t;have ew:wrap64 (al - (a1:Int))=((all t^^^a1:Nat):Int):=by rw[CW,←yo ht ra.out,qZ (by clear hx;omega) (by clear hx;omega)];clear hx;omega
                  rw[ew];exact Ev.bind (vD (Nat.lt_of_lt_of_le hx (xl t)) Cg) (Ev.now _)
                rw[if_neg q3];exact jW q3 (Ev.now _)
              · rw[if_neg (fun k=>AE k.2),show(bt s e !=41)=true from bne_iff_ne.2 AE]
                exact Bw _ _ _ _
            · rw[if_neg (fun k=>he k.1)]
              exact jb (Int.ofNat_le.2 (Nat.le_of_not_lt he)) (Bw _ _ _ _)
        · have hm2:(m:Int)≥(s.size:Int):=Int.ofNat_le.2 (Nat.le_of_not_lt hm)
          rw[if_neg hm,decide_eq_true hm2];exact CF _ _
    rw[if_neg xn];exact st (fun k=>rfl) (jb (Int.natCast_nonneg i) (jb (Int.ofNat_lt.2 hlt) (jW zN (jW xn (Ev.now _)))))
def holds (t:Int) (s:ByteArray):Int×Bool:=if(1≤t∧t≤3)∧s.size≤120 then(match vo t s s.size 0 with|some x=>if x.2=s.size then((x.1:Int),true)else(-1,false)|none=>(-1,false))else(-1,false)
theorem uf {t:Int} {s:ByteArray} {a:Int} (h:holds t s=(a,true)):(1≤t∧t≤3)∧0≤a∧a≤all t:=by
  unfold holds at h;split at h
  · rename_i hc
    split at h
    · rename_i x hx
      split at h
      · obtain⟨ra,_,_⟩:=qM hc.1 s _ _ _ hx
        have:=tV hc.1;have:(x.1:Int)=a:=congrArg Prod.fst h;exact⟨hc.1,by omega,by omega⟩
      · cases h
    · cases h
  · cases h
theorem ui (t:Int) (s:ByteArray):Ev (fun k=>nZ.f k t s) (holds t s):=by
  unfold nZ.f holds;have bad:Ev (fun k=>nZ.j0 k t s true) (-1,false):=Ev.step (f:=fun _=>some (-1,false)) (fun k=>rfl) (Ev.now _);by_cases ht:1≤t∧t≤3
  · by_cases hs:(s.size:Int)>120
    · rw[if_neg (by omega)]
      refine nt (qI _ _ _) (jb (by simpa using ht) ?_);rw[decide_eq_true hs];exact bad
    · rw[if_pos ⟨ht,by omega⟩]
      have h:=yU ht s (by omega) s.size 0 (by omega);refine nt (qI _ _ _) (jb (by simpa using ht) ?_);rw[decide_eq_false hs];refine Ev.step (f:=fun k=>(jX.f k t s 0).bind fun AW=>(if AW.2=(s.size:Int)then(some (AW.1,true))else(some ((-1),false)))) (fun k=>rfl) (Ev.bind h ?_);cases hr:vo t s s.size 0 with
      |none=>exact jW (by show¬((-1:Int)=_);omega) (Ev.now _)
      |some x=>
        show Ev (fun k=>if(x.2:Int)=(s.size:Int)then(some ((x.1:Int),true))else(some ((-1),false))) (if x.2=s.size then((x.1:Int),true)else(-1,false))
        by_cases he:x.2=s.size
        · rw[if_pos he]
          exact jb (by omega) (Ev.now _)
        · rw[if_neg he]
          exact jW (by omega) (Ev.now _)
  · rw[if_neg (fun k=>ht k.1)]
    exact nt (qI _ _ _) (jW (by simpa using ht) bad)
theorem uD {t:Int} {s:ByteArray} {i:Nat} (hs:s.size≤1000000000) (h:i<s.size):nj.f t s (i:Int)=some (bt s i,t,s,((i+1:Nat):Int)):=by
  unfold nj.f;have e1:wrap64 ((i:Int)+1)=((i+1:Nat):Int):=w1 h (by omega);have e2:wrap64 (((i+1:Nat):Int) - 1)=(i:Int):=by rw[qZ (by omega) (by omega)];omega
  rw[if_neg (by omega),e1,e2,if_pos (by omega),if_pos (by omega)]
theorem uP {t:Int} {s:ByteArray}:nj.f t s (s.size:Int)=some (0,t,s,(s.size:Int)):=by
  unfold nj.f;rw[if_pos rfl]
theorem yV:∀t:Fin 3,∀c:Fin 3,nQ.f (jf.p (c.val:Int)) ((t.val:Int)+1)=some ((vt c.val (wn ((t.val:Int)+1)):Nat):Int):=by decide+kernel
theorem uQ {t:Int} (ht:1≤t∧t≤3) (c:Nat) (hc:c<3):nQ.f (jf.p (c:Int)) t=some ((vt c (wn t):Nat):Int):=by
  have:=yV ⟨(t - 1).toNat,by omega⟩ ⟨c,hc⟩;rw[show(((t - 1).toNat:Nat):Int)+1=t from by omega]at this;exact this
theorem Dv {z i n:Nat} (h:z - i≤n+1):z - (i+1)≤n:=by omega
theorem small {a:Nat} (h:a<256):a<2^62:=Nat.lt_trans h (by decide)
def CX (o:Option (Nat×Nat)) (_s:ByteArray) (x:Int) (b:Bool) (p:Int):Prop:=match o with
  |some y=>x=(y.1:Int)∧b=true∧p=(y.2:Int)
  |none=>b=false
set_option maxHeartbeats 2000000 in
theorem zO {t:Int} (ht:1≤t∧t≤3) (s:ByteArray) (hs:s.size≤1000000000):∀(n:Nat) (i:Nat),i≤s.size→s.size - i≤n→∃x b p,Ev (fun k=>jf.f k t s (i:Int)) (x,b,t,s,p)∧CX (vo t s n i) s x b p:=by
  have last:∀(i:Nat),i=s.size→Ev (fun k=>jf.f k t s (i:Int)) (0,false,t,s,(i:Int)):=by
    rintro i rfl;exact Ev.step (fun k=>rfl) (nt (tF ht) (nt uP (jW (show¬((0:Int)=48) by decide) (jW (show¬((0:Int)=49) by decide) (jW (show¬((0:Int)=97) by decide) (jW (show¬((0:Int)=98) by decide) (jW (show¬((0:Int)=99) by decide) (jW (show¬((0:Int)=33) by decide) (jW (show¬((0:Int)=40) by decide) (Ev.now _))))))))))
  intro n;induction n with
  |zero=>intro i hi hn;exact⟨0,false,_,last i (by omega),rfl⟩
  |succ n ih=>
    intro i hi hn;by_cases hge:i=s.size
    · refine⟨0,false,_,last i hge,?_⟩
      unfold vo;rw[if_neg (by omega)];rfl
    have hlt:i<s.size:=by omega
    unfold vo;rw[if_pos hlt]
    have st:∀{r},Ev (fun k=>(fun(al:Int) (b:Int×Int×ByteArray×Int)=>
      if b.1=48 then some (0,true,b.2.1,b.2.2.1,b.2.2.2)
      else if b.1=49 then some (al,true,b.2.1,b.2.2.1,b.2.2.2)
      else if b.1=97 then(nQ.f (jf.p 0) b.2.1).bind fun x=>some (x,decide (0<b.2.1),b.2.1,b.2.2.1,b.2.2.2)
      else if b.1=98 then(nQ.f (jf.p 1) b.2.1).bind fun x=>some (x,decide (1<b.2.1),b.2.1,b.2.2.1,b.2.2.2)
      else if b.1=99 then(nQ.f (jf.p 2) b.2.1).bind fun x=>some (x,decide (2<b.2.1),b.2.1,b.2.2.1,b.2.2.2)
      else if b.1=33 then(jf.f k b.2.1 b.2.2.1 b.2.2.2).bind fun c=>some (Go.bits .xor .i64 al c.1,c.2.1,c.2.2.1,c.2.2.2.1,c.2.2.2.2)
      else if b.1=40 then(jf.f k b.2.1 b.2.2.1 b.2.2.2).bind fun c=>
        if c.2.1=true then(nj.f c.2.2.1 c.2.2.2.1 c.2.2.2.2).bind fun sg=>(jf.f k sg.2.1 sg.2.2.1 sg.2.2.2).bind fun d=>
          if d.2.1=true then(nj.f d.2.2.1 d.2.2.2.1 d.2.2.2.2).bind fun e=>
            if e.1=41 then
              (if sg.1=38 then some (Go.bits .and .i64 c.1 d.1,true,e.2.1,e.2.2.1,e.2.2.2)
              else if sg.1=124 then some (Go.bits .or .i64 c.1 d.1,true,e.2.1,e.2.2.1,e.2.2.2)
              else if sg.1=62 then some (Go.bits .or .i64 (Go.bits .xor .i64 al c.1) d.1,true,e.2.1,e.2.2.1,e.2.2.2)
              else some (0,false,e.2.1,e.2.2.1,e.2.2.2))
            else some (0,false,e.2.1,e.2.2.1,e.2.2.2)
          else some (0,false,d.2.2.1,d.2.2.2.1,d.2.2.2.2)
        else some (0,false,c.2.2.1,c.2.2.2.1,c.2.2.2.2)
      else some (0,false,b.2.1,b.2.2.1,b.2.2.2)) ((all t:Nat):Int) (bt s i,t,s,((i+1:Nat):Int))) r→Ev (fun k=>jf.f k t s (i:Int)) r:=by
      intro r h;exact Ev.step (fun k=>rfl) (nt (tF ht) (nt (uD hs hlt) h))
    by_cases yp:bt s i=49
    · rw[if_pos yp]
      exact⟨_,true,_,st (jW (by show¬bt s i=48;omega) (jb yp (Ev.now _))),rfl,rfl,rfl⟩
    rw[if_neg yp];by_cases h48:bt s i=48
    · rw[if_pos h48]
      exact⟨_,true,_,st (jb h48 (Ev.now _)),rfl,rfl,rfl⟩
    rw[if_neg h48];by_cases h97:bt s i=97
    · refine⟨_,decide ((0:Int)<t),_,st (jW h48 (jW yp (jb h97 (nt (uQ ht 0 (by decide)) (Ev.now _))))),?_⟩
      rw[if_pos (by omega),decide_eq_true (by omega),h97];exact⟨rfl,rfl,rfl⟩
    by_cases CY:bt s i=98
    · refine⟨_,decide ((1:Int)<t),_,st (jW h48 (jW yp (jW h97 (jb CY (nt (uQ ht 1 (by decide)) (Ev.now _)))))),?_⟩
      by_cases h:1<t
      · rw[if_pos (by omega),decide_eq_true h,CY]
        exact⟨rfl,rfl,rfl⟩
      · rw[if_neg (by omega),decide_eq_false h,if_neg (by omega),if_neg (by omega)]
        rfl
    by_cases Dw:bt s i=99
    · refine⟨_,decide ((2:Int)<t),_,st (jW h48 (jW yp (jW h97 (jW CY (jb Dw (nt (uQ ht 2 (by decide)) (Ev.now _))))))),?_⟩
      by_cases h:2<t
      · rw[if_pos (by omega),decide_eq_true h,Dw]
        exact⟨rfl,rfl,rfl⟩
      · rw[if_neg (by omega),decide_eq_false h,if_neg (by omega),if_neg (by omega)]
        rfl
    rw[if_neg (show¬(97≤bt s i∧bt s i - 97<t) by omega)];obtain⟨x1,b1,p1,hx1,hg1⟩:=ih (i+1) hlt (Dv hn);have pre:∀{g:Nat→Option (Int×Bool×Int×ByteArray×Int)} {r},Ev g r→Ev (fun k=>if bt s i=48 then some (0,true,t,s,((i+1:Nat):Int))else if bt s i=49 then some (((all t:Nat):Int),true,t,s,((i+1:Nat):Int))else if bt s i=97 then(nQ.f (jf.p 0) t).bind fun x=>some (x,decide (0<t),t,s,((i+1:Nat):Int))else if bt s i=98 then(nQ.f (jf.p 1) t).bind fun x=>some (x,decide (1<t),t,s,((i+1:Nat):Int))else if bt s i=99 then(nQ.f (jf.p 2) t).bind fun x=>some (x,decide (2<t),t,s,((i+1:Nat):Int))else g k) r:=fun h=>jW h48 (jW yp (jW h97 (jW CY (jW Dw h))))
    by_cases zN:bt s i=33
    · rw[if_pos zN]
      refine⟨_,b1,p1,st (pre (jb zN (Ev.bind hx1 (Ev.now _)))),?_⟩;cases hr:vo t s n (i+1)with
      |none=>rw[hr]at hg1;exact hg1
      |some y=>
        rw[hr]at hg1;obtain⟨rfl,rfl,rfl⟩:=hg1;obtain⟨ra,_,_⟩:=qM ht s _ _ _ hr;exact⟨Bp _ _ (small (uO t)) (small (Nat.lt_of_lt_of_le ra (xl t))),rfl,rfl⟩
    rw[if_neg zN];by_cases xn:bt s i=40
    · rw[if_pos xn]
      have go:∀{x b p},Ev (fun k=>if b1=true then(nj.f t s p1).bind fun sg=>(jf.f k sg.2.1 sg.2.2.1 sg.2.2.2).bind fun d=>
          if d.2.1=true then(nj.f d.2.2.1 d.2.2.2.1 d.2.2.2.2).bind fun e=>
            if e.1=41 then
              (if sg.1=38 then some (Go.bits .and .i64 x1 d.1,true,e.2.1,e.2.2.1,e.2.2.2)
              else if sg.1=124 then some (Go.bits .or .i64 x1 d.1,true,e.2.1,e.2.2.1,e.2.2.2)
              else if sg.1=62 then some (Go.bits .or .i64 (Go.bits .xor .i64 ((all t:Nat):Int) x1) d.1,true,e.2.1,e.2.2.1,e.2.2.2)
              else some (0,false,e.2.1,e.2.2.1,e.2.2.2))
            else some (0,false,e.2.1,e.2.2.1,e.2.2.2)
          else some (0,false,d.2.2.1,d.2.2.2.1,d.2.2.2.2)
        else some (0,false,t,s,p1)) (x,b,t,s,p)→Ev (fun k=>jf.f k t s (i:Int)) (x,b,t,s,p):=by
        intro x b p h;exact st (pre (jW zN (jb xn (Ev.bind hx1 h))))
      cases hr:vo t s n (i+1)with
      |none=>
        rw[hr]at hg1;have:b1=false:=hg1;subst this;exact⟨0,false,p1,go (qy (Ev.now _)),rfl⟩
      |some y=>
        rw[hr]at hg1;obtain⟨a1,m⟩:=y;obtain⟨rfl,rfl,rfl⟩:=hg1;obtain⟨ra,rb,rc⟩:=qM ht s _ _ _ hr;simp only at ra rb rc;have Cf:=small (Nat.lt_of_lt_of_le ra (xl t));have En:=small (Nat.lt_of_lt_of_le (vZ ht ra) (xl t));clear ra;by_cases hm:m<s.size
        · obtain⟨x2,b2,p2,hx2,hg2⟩:=ih (m+1) hm (CE hn (Nat.lt_of_succ_lt rb))
          show∃x b p,Ev _ _∧CX (if m<s.size then(vo t s n (m+1)).bind fun y=>if y.2<s.size∧bt s y.2=41 then(Af t (bt s m) a1 y.1).map fun z=>(z,y.2+1)else none else none) s x b p
          rw[if_pos hm]
          have go2:∀{x b p},Ev (fun k=>if b2=true then(nj.f t s p2).bind fun e=>
              if e.1=41 then
                (if bt s m=38 then some (Go.bits .and .i64 ((a1:Nat):Int) x2,true,e.2.1,e.2.2.1,e.2.2.2)
                else if bt s m=124 then some (Go.bits .or .i64 ((a1:Nat):Int) x2,true,e.2.1,e.2.2.1,e.2.2.2)
                else if bt s m=62 then some (Go.bits .or .i64 (Go.bits .xor .i64 ((all t:Nat):Int) ((a1:Nat):Int)) x2,true,e.2.1,e.2.2.1,e.2.2.2)
                else some (0,false,e.2.1,e.2.2.1,e.2.2.2))
              else some (0,false,e.2.1,e.2.2.1,e.2.2.2)
            else some (0,false,t,s,p2)) (x,b,t,s,p)→Ev (fun k=>jf.f k t s (i:Int)) (x,b,t,s,p):=by
            intro x b p h;exact go (pO (nt (uD hs hm) (Ev.bind hx2 h)))
          cases hr2:vo t s n (m+1)with
          |none=>
            rw[hr2]at hg2;have:b2=false:=hg2;subst this;exact⟨0,false,p2,go2 (qy (Ev.now _)),rfl⟩
          |some z=>
            rw[hr2]at hg2;obtain⟨a2,e⟩:=z;obtain⟨rfl,rfl,rfl⟩:=hg2;obtain⟨sa,sb,sc⟩:=qM ht s _ _ _ hr2;simp only at sa sb sc;have Cg:=small (Nat.lt_of_lt_of_le sa (xl t));clear sa
            show∃x b p,Ev _ _∧CX (if e<s.size∧bt s e=41 then(Af t (bt s m) a1 a2).map fun z=>(z,e+1)else none) s x b p
            by_cases he:e<s.size
            · by_cases AE:bt s e=41
              · rw[if_pos ⟨he,AE⟩]
                have CZ:∀{x b p},Ev (fun _=>if bt s m=38 then some (Go.bits .and .i64 ((a1:Nat):Int) ((a2:Nat):Int),true,t,s,((e+1:Nat):Int))
                    else if bt s m=124 then some (Go.bits .or .i64 ((a1:Nat):Int) ((a2:Nat):Int),true,t,s,((e+1:Nat):Int))
                    else if bt s m=62 then some (Go.bits .or .i64 (Go.bits .xor .i64 ((all t:Nat):Int) ((a1:Nat):Int)) ((a2:Nat):Int),true,t,s,((e+1:Nat):Int))
                    else some (0,false,t,s,((e+1:Nat):Int))) (x,b,t,s,p)→Ev (fun k=>jf.f k t s (i:Int)) (x,b,t,s,p):=by
                  intro x b p h;exact go2 (pO (nt (uD hs he) (jb AE h)))
                unfold Af;by_cases q1:bt s m=38
                · rw[if_pos q1]
                  exact⟨_,true,_,CZ (jb q1 (Ev.now _)),band _ _ Cf Cg,rfl,rfl⟩
                rw[if_neg q1];by_cases q2:bt s m=124
                · rw[if_pos q2]
                  exact⟨_,true,_,CZ (jW q1 (jb q2 (Ev.now _))),Dq _ _ Cf Cg,rfl,rfl⟩
                rw[if_neg q2];by_cases q3:bt s m=62
                · rw[if_pos q3]
                  refine⟨_,true,_,CZ (jW q1 (jW q2 (jb q3 (Ev.now _)))),?_,rfl,rfl⟩;rw[Bp _ _ (small (uO t)) Cf];exact Dq _ _ En Cg
                rw[if_neg q3];exact⟨0,false,_,CZ (jW q1 (jW q2 (jW q3 (Ev.now _)))),rfl⟩
              · rw[if_neg (fun k=>AE k.2)]
                exact⟨0,false,_,go2 (pO (nt (uD hs he) (jW AE (Ev.now _)))),rfl⟩
            · rw[if_neg (fun k=>he k.1)]
              have ez:e=s.size:=Nat.le_antisymm sc (Nat.le_of_not_lt he);subst ez;exact⟨0,false,_,go2 (pO (nt uP (jW (show¬((0:Int)=41) by decide) (Ev.now _)))),rfl⟩
        · show∃x b p,Ev _ _∧CX (if m<s.size then(vo t s n (m+1)).bind fun y=>if y.2<s.size∧bt s y.2=41 then(Af t (bt s m) a1 y.1).map fun z=>(z,y.2+1)else none else none) s x b p
          rw[if_neg hm];have ez:m=s.size:=Nat.le_antisymm rc (Nat.le_of_not_lt hm);subst ez;exact⟨0,false,_,go (pO (nt uP (Ev.bind (last _ rfl) (qy (Ev.now _))))),rfl⟩
    rw[if_neg xn];exact⟨0,false,_,st (pre (jW zN (jW xn (Ev.now _)))),rfl⟩
theorem xo {t:Int} (ht:1≤t∧t≤3) (s:ByteArray) (hs:s.size≤120):Ev (fun k=>pd.f k t s) (holds t s):=by
  obtain⟨x,b,p,hx,hg⟩:=zO ht s (by omega) s.size 0 (Nat.zero_le _) (by omega);unfold holds pd.f;rw[if_pos ⟨ht,hs⟩];refine Ev.bind hx ?_;cases hr:vo t s s.size 0 with
  |none=>
    rw[hr]at hg;have:b=false:=hg;subst this;exact qy (Ev.now _)
  |some y=>
    rw[hr]at hg;obtain⟨rfl,rfl,rfl⟩:=hg;refine pO ?_
    show Ev (fun _=>if(y.2:Int)=(s.size:Int)then some ((y.1:Int),true)else some (-1,false)) (if y.2=s.size then((y.1:Int),true)else(-1,false))
    by_cases he:y.2=s.size
    · rw[if_pos he]
      exact jb (by omega) (Ev.now _)
    · rw[if_neg he]
      exact jW (by omega) (Ev.now _)
theorem uj (t:Int) (s:ByteArray):Ev (fun k=>pr.f k t s) (holds t s):=by
  unfold pr.f;refine nt (tE t) ?_;by_cases ht:1≤t∧t≤3
  · refine jb (decide_eq_true ht) ?_
    by_cases hs:(s.size:Int)>120
    · unfold holds
      rw[if_neg (by omega)];exact jb hs (Ev.now _)
    · exact jW hs (Ev.bind (xo ht s (by omega)) (Ev.now _))
  · unfold holds
    rw[if_neg (fun k=>ht k.1)];exact jW (by simpa using ht) (Ev.now _)
def qa (t:Int) (l:List Int):Bool:=pT t l&&decide (pH l=l)
theorem uR (t:Int) {l:List Int} (hn:l.length≤9223372036854775807):Ev (fun k=>nU.f k t l) (qa t l):=by
  unfold nU.f qa;refine Ev.bind (rm t hn) ?_;cases h:pT t l with
  |false=>exact qy (Ev.now _)
  |true=>
    have hlen:=pZ l;refine pO (Ev.bind (rF h) ?_)
    have key:∀i,i≤l.length→Ev (fun k=>nU.l0 k l (pH l) (i:Int)) (decide ((pH l).drop i=l.drop i)):=by
      apply down
      · refine Ev.step (fun k=>rfl) (jW (by omega) (oQ (Ev.now _) ?_))
        rw[List.drop_length,List.drop_of_length_le (by omega)];exact(decide_eq_true rfl).symm
      · intro i hi ih
        refine Ev.step (fun k=>rfl) (jb (by omega) (jb (by omega) (jb (by omega) ?_)));rw[qc hi,qc (l:=pH l) (by omega),List.drop_eq_getElem_cons hi,List.drop_eq_getElem_cons (l:=pH l) (by omega)];by_cases e:(pH l)[i]=l[i]
        · refine jb e ?_
          rw[w1 hi hn];refine oQ ih (decide_eq_decide.2 ?_);rw[List.cons.injEq];exact⟨fun h=>⟨e,h⟩,fun h=>h.2⟩
        · refine jW e (oQ (Ev.now _) ?_)
          rw[decide_eq_false (fun h=>e (List.cons.inj h).1)]
    have:=key 0 (Nat.zero_le _);rw[List.drop_zero,List.drop_zero]at this;rw[Bool.true_and];exact this
def pU (t:Int) (l:List Int) (ls:List (List Int)):Bool:=qa t l&&(decide (ls.length≤10)&&ls.all (qa t))
theorem rQ {l:List (List Int)} {i:Nat} (h:i<l.length):oP l (i:Int)=l[i]:=by
  unfold oP;rw[Int.toNat_natCast,List.getD_eq_getElem?_getD,List.getElem?_eq_getElem h];rfl
theorem qJ (t:Int) {l:List Int} {ls:List (List Int)} (hn:l.length≤9223372036854775807) (hs:ls.length≤9223372036854775807) (hl:∀y∈ls,y.length≤9223372036854775807):Ev (fun k=>kr.f k t l ls) (pU t l ls):=by
  unfold kr.f
  have key:∀i,i≤ls.length→Ev (fun k=>kr.l0 k (i:Int) t l ls) (qa t l&&(decide (ls.length≤10)&&(ls.drop i).all (qa t))):=by
    apply down
    · refine Ev.step (fun k=>rfl) (jW (by omega) (Ev.bind (uR t hn) ?_))
      rw[List.drop_length,List.all_nil,Bool.and_true];cases qa t l with
      |false=>exact qy (Ev.now _)
      |true=>
        refine pO (oQ (Ev.now _) ?_);rw[Bool.true_and];exact decide_eq_decide.2 (by omega)
    · intro i hi ih
      refine Ev.step (fun k=>rfl) (jb (by omega) (jb (by omega) ?_));rw[rQ hi,w1 hi hs];refine Ev.bind (uR t (hl _ (List.getElem_mem hi))) ?_;rw[List.drop_eq_getElem_cons hi,List.all_cons];cases qa t ls[i]with
      |false=>exact qy (oQ (Ev.now _) (by simp))
      |true=>
        refine pO (oQ ih ?_);rw[Bool.true_and]
  have:=key 0 (Nat.zero_le _);rw[List.drop_zero]at this;exact this
theorem vF (t:Int) {l:List Int} (hn:l.length≤9223372036854775807):Ev (fun k=>oM.f k t l) (qa t l):=by
  unfold oM.f qa;refine Ev.bind (yR t hn) ?_;cases h:pT t l with
  |false=>exact qy (Ev.now _)
  |true=>
    obtain⟨_,hl,hx,_⟩:=pk.1 h;have:=(qW t).1;refine pO (Ev.bind (yk (by omega) fun x hx'=>(hx x hx').1) (Ev.bind (wO (l:=pH l) (m:=l) (by rw[pZ];omega)) (oQ (Ev.now _) ?_)));rw[Bool.true_and]
theorem zP (t:Int):∀(ls:List (List Int)),(∀y∈ls,y.length≤9223372036854775807)→∀i:Int,0≤i→∃r,Ev (fun k=>Hof.uh (oc.no k t) ls i) r∧decide (0≤r)= !ls.all (qa t):=by
  intro ls;induction ls with
  |nil=>exact fun _ i _=>⟨-1,Ev.now _,rfl⟩
  |cons y ys ih=>
    intro hl i hi;have hy:=vF t (hl y List.mem_cons_self);have hno:Ev (fun k=>oc.no k t y) (!qa t y):=Ev.bind hy (Ev.now _);cases e:qa t y with
    |true=>
      rw[e]at hno;obtain⟨r,h1,h2⟩:=ih (fun z hz=>hl z (List.mem_cons_of_mem _ hz)) (i+1) (by omega);refine⟨r,Ev.bind hno (qy h1),?_⟩;rw[h2,List.all_cons,e,Bool.true_and]
    |false=>
      rw[e]at hno;refine⟨i,Ev.bind hno (pO (Ev.now _)),?_⟩;rw[List.all_cons,e,decide_eq_true hi];rfl
theorem vG (t:Int) {l:List Int} {ls:List (List Int)} (hn:l.length≤9223372036854775807) (hl:∀y∈ls,y.length≤9223372036854775807):Ev (fun k=>oc.f k t l ls) (pU t l ls):=by
  unfold oc.f pU;refine Ev.bind (vF t hn) ?_;cases qa t l with
  |false=>exact qy (Ev.now _)
  |true=>
    refine pO ?_;by_cases h:ls.length≤10
    · obtain⟨r,h1,h2⟩:=zP t ls hl 0 (by omega)
      refine jb (by omega) (Ev.bind (Ev.bind h1 (Ev.now _)) (oQ (Ev.now _) ?_));rw[h2,decide_eq_true h,Bool.true_and,Bool.true_and,Bool.not_not]
    · refine jW (by omega) (oQ (Ev.now _) ?_)
      rw[decide_eq_false h];rfl
theorem xp (t:Int) {l:List Int} {ls:List (List Int)} (hn:l.length≤100) (hs:ls.length≤100) (hl:∀y∈ls,y.length≤100):Ev (fun k=>na.f k t l ls) (t,l,ls):=by
  unfold na.f
  have key:∀i:Nat,i≤ls.length→Ev (fun k=>na.l0 k (i:Int) t l ls t l (ls.take i)) (t,l,ls):=by
    apply down
    · refine Ev.step (fun k=>rfl) (jW (by omega) (oQ (Ev.now _) ?_))
      rw[List.take_length]
    · intro i hi ih
      have hy:=hl _ (List.getElem_mem hi);refine Ev.step (fun k=>rfl) (jb (by omega) (nt rfl (jb (by omega) (jb (by rw[rQ hi];simp only[List.length_nil];omega) (jb (by rw[List.length_take];omega) ?_)))));rw[rQ hi,w1 hi (by omega),List.nil_append];rw[List.take_succ_eq_append_getElem hi]at ih;exact ih
  refine nt rfl (jb (by simp only[List.length_nil];omega) ?_);rw[List.nil_append];exact key 0 (Nat.zero_le _)
theorem uS:∀{l:List Int},l≠ []→∃x∈l,∀y∈l,x≤y
  | [],h=>absurd rfl h
  | [x],_=>⟨x,List.mem_singleton.2 rfl,fun y hy=>by rw[List.mem_singleton.1 hy];exact Int.le_refl _⟩
  |x::z::l,_=>by
    obtain⟨m,hm,h⟩:=uS (l:=z::l) (by simp)
    by_cases hx:x≤m
    · refine⟨x,List.mem_cons_self,fun y hy=>?_⟩
      rcases List.mem_cons.1 hy with rfl|hy
      · exact Int.le_refl _
      · exact Int.le_trans hx (h y hy)
    · refine⟨m,List.mem_cons_of_mem _ hm,fun y hy=>?_⟩
      rcases List.mem_cons.1 hy with rfl|hy
      · omega
      · exact h y hy
theorem we {t:Int} {l:List Int} (h:pT t l=true) (F:Nat):pT t (pH (raise l F))=true:=by
  obtain⟨ht,hl,hx,h0⟩:=pk.1 h;have h8:=qW t;have hn:∀y∈raise l F,0≤y:=fun y hy=>by obtain⟨x,h1,h2⟩:=ta hy;have:=hx x h1;omega
  have hlen:(raise l F).length=wn t:=by rw[pP];exact hl
  refine pk.2 ⟨ht,by rw[pZ];exact hlen,fun y hy=>?_,?_⟩
  · obtain⟨x,hx1,rfl⟩:=tT.1 hy
    have:=vq hx1 (hn x hx1);omega
  · obtain⟨x,hx1,hx2⟩:=uS (l:=raise l F) (by intro e;rw[e]at hlen;simp at hlen;omega)
    refine tT.2 ⟨x,hx1,?_⟩;rw[zG (fun y hy _=>hx2 y hy)];rfl
theorem uT {t:Int} {l:List Int} (h:pT t l=true) (a:Int) (s:Nat):qa t (vr l a s)=true:=by
  unfold qa vr;have hx:=(pk.1 h).2.2.1;rw[we h,wM (fun y hy=>by obtain⟨x,h1,h2⟩:=ta hy;have:=hx x h1;omega),decide_eq_true rfl];rfl
theorem qn {t:Int} {l:List Int}:qa t l=true↔pT t l=true∧pH l=l:=by
  unfold qa;rw[Bool.and_eq_true,decide_eq_true_iff]
theorem AF {x y:List Int} (hl:x.length=y.length) (hn:x.length≤100):∀i,i≤x.length→Ev (fun k=>nf.l0 k x y (i:Int)) (decide (x.drop i=y.drop i)):=by
  apply down
  · refine Ev.step (fun k=>rfl) (jW (by omega) (oQ (Ev.now _) ?_))
    rw[List.drop_length,List.drop_of_length_le (by omega)];exact(decide_eq_true rfl).symm
  · intro i hi ih
    refine Ev.step (fun k=>rfl) (jb (by omega) (jb (by omega) (jb (by omega) ?_)));rw[qc hi,qc (by omega),List.drop_eq_getElem_cons hi,List.drop_eq_getElem_cons (l:=y) (by omega)];by_cases e:x[i]=y[i]
    · refine jb e ?_
      rw[w1 hi (by omega)];refine oQ ih (decide_eq_decide.2 ?_);rw[List.cons.injEq];exact⟨fun h=>⟨e,h⟩,fun h=>h.2⟩
    · refine jW e (oQ (Ev.now _) ?_)
      rw[decide_eq_false (fun h=>e (List.cons.inj h).1)]
theorem wg {t:Int} {x y:List Int} (hx:pT t x=true) (hy:pT t y=true):Ev (fun k=>nf.f k t x y) (decide (pH x=pH y)):=by
  have lx:=(pk.1 hx).2.1;have ly:=(pk.1 hy).2.1;have h8:=qW t;have rx:=rm t (l:=x) (by omega);have ry:=rm t (l:=y) (by omega);rw[hx]at rx;rw[hy]at ry;unfold nf.f;refine Ev.bind rx (pO (Ev.bind ry ?_));refine Ev.step (f:=fun k=>if(!true)=true then(some false)else((jV.f k t x).bind fun Dx=>((jV.f k t y).bind fun Dy=>(nf.l0 k Dx Dy 0)))) (fun k=>rfl) (jW (by decide) (Ev.bind (rF hx) (Ev.bind (rF hy) ?_)));exact AF (by rw[pZ,pZ,lx,ly]) (by rw[pZ];omega) 0 (Nat.zero_le _)
theorem wh {t:Int} {l:List Int} (h:pT t l=true) {v:Int} (h0:0≤v) (h1:v≤all t) {a:Int} (ha:a=0∨a=1):Ev (fun k=>nP.f k t l a v) (if v=0 then([],false)else(vr l a v.toNat,true)):=by
  obtain⟨ht,hl,hx,_⟩:=pk.1 h;have h8:=qW t;have r:=rm t (l:=l) (by omega);rw[h]at r;have hs:zK t v=true:=decide_eq_true ⟨ht,h0,h1⟩;have DV:=uO t;unfold nP.f;refine Ev.bind r (pO (nt (zL t v) ?_));rw[hs];refine pO ?_;by_cases e:v=0
  · rw[if_pos e]
    exact jb e (Ev.step (f:=fun _=>some ((([]:List Int)),false)) (fun k=>rfl) (Ev.now _))
  · rw[if_neg e]
    refine jW e (nt (qI _ _ _) ?_);rw[decide_eq_true (by omega)];obtain⟨n,rfl⟩:=Int.eq_ofNat_of_zero_le h0;rw[Int.toNat_natCast];refine Ev.step (f:=fun k=>if(!true)=true then(some ((([]:List Int)),false))else(if a=0 then((nq.f k l (n:Int)).bind fun Dz=>((nM.f k l Dz).bind fun DA=>(some (DA,true))))else((nM.f k l (n:Int)).bind fun DB=>(some (DB,true))))) (fun k=>rfl) (jW (by decide) ?_);unfold vr;by_cases a0:a=0
    · rw[if_pos a0]
      exact jb a0 (Ev.bind (xj (by omega) n) (Ev.bind (vC (by omega) hx _) (Ev.now _)))
    · rw[if_neg a0]
      exact jW a0 (Ev.bind (vC (by omega) hx n) (Ev.now _))
theorem qX (t:Int) {l:List Int} {ls:List (List Int)} (hn:l.length≤100) (hs:ls.length≤100) (hl:∀y∈ls,y.length≤100):Ev (fun k=>kp.f k t l ls) (t,l,ls):=by
  unfold kp.f;refine nt rfl (jb (by show 0+l.length<_;omega) ?_);rw[List.nil_append]
  have key:∀i,i≤ls.length→Ev (fun k=>kp.l0 k ls (ls.length:Int) (i:Int) t l (ls.take i)) (t,l,ls):=by
    apply down
    · refine Ev.step (fun k=>rfl) (jW (by omega) (oQ (Ev.now _) ?_))
      rw[List.take_length]
    · intro i hi ih
      have:=hl _ (List.getElem_mem hi);refine Ev.step (fun k=>rfl) (jb (by omega) (jb (by omega) (jb (by omega) (nt rfl (jb (by rw[rQ hi];show 0+ls[i].length<_;omega) (jb (by rw[List.length_take];omega) ?_))))));rw[rQ hi,w1 hi (by omega),List.nil_append];rw[List.take_succ_eq_append_getElem hi]at ih;exact ih
  exact key 0 (Nat.zero_le _)
theorem tG {α:Type} {l:List α} {y:α} (h:y∈l.dropLast):y∈l:=by rw[List.dropLast_eq_take]at h;exact List.mem_of_mem_take h
def rJ (t:Int) (l:List Int) (ls:List (List Int)):Int×List Int×List (List Int)×Bool:=(t,l,ls,false)
def push (l:List Int) (ls:List (List Int)):List (List Int):=if ls.length+1>10 then(ls++ [l]).drop 1 else ls++ [l]
def rG (t:Int) (l:List Int) (ls:List (List Int)) (a:Int) (s:ByteArray):Int×List Int×List (List Int)×Bool:=
  if a=2∧s.size=0 then(if ls= []then rJ t l ls else(t,ls.getLastD [],ls.dropLast,true))
  else if a=0∨a=1 then
    (if(holds t s).2=true then(if(holds t s).1=0 then rJ t l ls else(if vr l a (holds t s).1.toNat=l then rJ t l ls else(t,vr l a (holds t s).1.toNat,push l ls,true)))else rJ t l ls)
  else rJ t l ls
theorem qo {t:Int} {l:List Int} {ls:List (List Int)}:pU t l ls=true↔qa t l=true∧ls.length≤10∧∀y∈ls,qa t y=true:=by
  unfold pU;rw[Bool.and_eq_true,Bool.and_eq_true,decide_eq_true_iff,List.all_eq_true]
theorem yq {ls:List (List Int)} (h:ls≠ []):oP ls (wrap64 ((ls.length:Int) - 1))=ls.getLastD []∧wrap64 ((ls.length:Int) - 1)=((ls.length - 1:Nat):Int)∧ls.take (wrap64 ((ls.length:Int) - 1)).toNat=ls.dropLast∨¬ls.length≤100:=by
  by_cases hn:ls.length≤100
  · left
    have hp:0<ls.length:=List.length_pos_iff.2 h;have e:wrap64 ((ls.length:Int) - 1)=((ls.length - 1:Nat):Int):=by rw[qZ (by omega) (by omega)];omega
    refine⟨?_,e,?_⟩
    · rw[e,rQ (by omega),List.getLastD_eq_getLast?,List.getLast?_eq_getElem?,List.getElem?_eq_getElem (by omega)]
      rfl
    · rw[e,Int.toNat_natCast,List.dropLast_eq_take]
  · exact Or.inr hn
theorem isNil (a:Int) (s:ByteArray):(a==2&&(s.toList==([]:List UInt8)))=true↔a=2∧s.size=0:=by
  rw[Bool.and_eq_true,beq_iff_eq,beq_iff_eq,rv]
set_option maxHeartbeats 1000000 in
theorem rZ {t:Int} {l:List Int} {ls:List (List Int)} (hm:pU t l ls=true) (a:Int) (s:ByteArray):Ev (fun k=>ks.f k t l ls a s) (rG t l ls a s):=by
  obtain⟨htl,h9,hls⟩:=qo.1 hm;obtain⟨hr,_⟩:=qn.1 htl;obtain⟨ht,hl,hx,_⟩:=pk.1 hr;have h8:=(qW t).1
  have hlen:∀y∈ls,y.length≤100:=fun y hy=>by
    have:=(pk.1 (qn.1 (hls y hy)).1).2.1;omega
  have hc:=qX t (l:=l) (ls:=ls) (by omega) (by omega) hlen;unfold ks.f rG;refine Ev.bind hc ?_;by_cases hb:a=2∧s.size=0
  · rw[if_pos hb]
    refine jb ((isNil a s).2 hb) ?_;by_cases he:ls= []
    · rw[if_pos he]
      subst he;exact jb (show wrap64 (((([]:List (List Int)).length:Nat):Int) - 1)<0 by decide+kernel) (Ev.now _)
    · rw[if_neg he]
      have hp:0<ls.length:=List.length_pos_iff.2 he;obtain⟨r1,r2,r3⟩:=(yq he).resolve_right (fun k=>k (by omega));have hlast:ls.getLastD []∈ls:=by rw[List.getLastD_eq_getLast?,List.getLast?_eq_some_getLast he];exact List.getLast_mem he
      have hc2:=qX t (l:=ls.getLastD []) (ls:=ls.dropLast) (hlen _ hlast) (by rw[List.length_dropLast];omega) (fun y hy=>hlen y (tG hy));refine jW (by dsimp only;rw[r2];omega) (jb (by dsimp only;rw[r2];omega) (jb (by dsimp only;rw[r2];omega) (jb (by dsimp only;rw[r2];omega) ?_)));dsimp only;rw[r1,r3];exact Ev.bind hc2 (Ev.now _)
  · rw[if_neg hb]
    refine jW (fun k=>hb ((isNil a s).1 k)) ?_;have no:Ev (fun k=>ks.j0 k true t l ls a s t l ls) (rJ t l ls):=Ev.step (f:=fun _=>some (t,l,ls,false)) (fun k=>rfl) (Ev.now _);have Ch:∀v:Int,Ev (fun k=>ks.j1 k v true t l ls a s t l ls) (rJ t l ls):=fun v=>Ev.step (f:=fun _=>some (t,l,ls,false)) (fun k=>rfl) (Ev.now _)
    have go:a=0∨a=1→Ev (fun k=>ks.j0 k false t l ls a s t l ls) (if(holds t s).2=true then(if(holds t s).1=0 then rJ t l ls else(if vr l a (holds t s).1.toNat=l then rJ t l ls else(t,vr l a (holds t s).1.toNat,push l ls,true)))else rJ t l ls):=by
      intro ha;refine Ev.step (f:=fun k=>(pr.f k t s).bind fun yr=>(if yr.2=true then(ks.j1 k yr.1 (yr.1==0) t l ls a s t l ls)else(ks.j1 k yr.1 true t l ls a s t l ls))) (fun k=>rfl) (Ev.bind (uj t s) ?_);by_cases h2:(holds t s).2=true
      · rw[if_pos h2]
        refine jb h2 ?_;have eh:holds t s=((holds t s).1,true):=by rw[←h2]
        obtain⟨_,v0,v1⟩:=uf eh;obtain⟨v,ev⟩:=Int.eq_ofNat_of_zero_le v0;have hv2:v<2^wn t:=by have:=tV ht;omega
        rw[ev,Int.toNat_natCast];by_cases e0:(v:Int)=0
        · rw[if_pos e0,show((v:Int)==0)=true from by rw[e0];rfl]
          exact Ch _
        · rw[if_neg e0,show((v:Int)==0)=false from beq_eq_false_iff_ne.2 e0]
          have hq:=uT hr a v;have hql:(vr l a v).length≤100:=by have:=(pk.1 (qn.1 hq).1).2.1;omega
          have two:Ev (fun k=>ks.j2 k (v:Int) a t l ls t l ls) (if vr l a v=l then rJ t l ls else(t,vr l a v,push l ls,true)):=by
            refine Ev.step (f:=fun k=>(kY.f k t l a (v:Int)).bind fun Bz=>((ky.f k Bz l).bind fun DC=>(if DC=true then(some (t,l,ls,false))else(if ls.length<5864062014805 then((some (ls++ [l]:List (List Int))).bind fun AG=>(if(AG.length:Int)>10 then(if 1≤(AG.length:Int)then((kp.f k t Bz (AG.drop (1:Int).toNat)).bind fun uU=>(some (uU.1,uU.2.1,uU.2.2,true)))else(none))else((kp.f k t Bz AG).bind fun uU=>(some (uU.1,uU.2.1,uU.2.2,true)))))else(none))))) (fun k=>rfl) (Ev.bind (xk ht hl hx hv2 a) (Ev.bind (wO (by omega)) ?_));by_cases e:vr l a v=l
            · rw[if_pos e]
              exact jb (decide_eq_true e) (Ev.now _)
            · rw[if_neg e]
              have hall:∀y∈ls++ [l],y.length≤100:=fun y hy=>by
                rcases List.mem_append.1 hy with hy|hy
                · exact hlen y hy
                · rw[List.mem_singleton.1 hy];omega
              have hln:(ls++ [l]).length=ls.length+1:=by rw[List.length_append,List.length_singleton]
              refine jW (by rw[decide_eq_false e];decide) (jb (by omega) (nt rfl ?_));unfold push;by_cases h10:ls.length+1>10
              · rw[if_pos h10]
                have hc3:=qX t (l:=vr l a v) (ls:=(ls++ [l]).drop 1) hql (by rw[List.length_drop];omega) (fun y hy=>hall y (List.mem_of_mem_drop hy));exact jb (by rw[hln];omega) (jb (by rw[hln];omega) (Ev.bind hc3 (Ev.now _)))
              · rw[if_neg h10]
                have hc3:=qX t (l:=vr l a v) (ls:=ls++ [l]) hql (by omega) hall;exact jW (by rw[hln];omega) (Ev.bind hc3 (Ev.now _))
          refine Ev.step (f:=fun k=>if a=1 then(ks.j2 k (v:Int) 1 t l ls t l ls)else(ks.j2 k (v:Int) 0 t l ls t l ls)) (fun k=>rfl) ?_;rcases ha with rfl|rfl
          · exact jW (by decide) two
          · exact jb rfl two
      · rw[if_neg h2]
        exact jW h2 (Ch _)
    by_cases a0:a=0
    · rw[if_pos (Or.inl a0)]
      exact jb a0 (go (Or.inl a0))
    · refine jW a0 ?_
      by_cases a1:a=1
      · rw[if_pos (Or.inr a1),show(a !=1)=false from by rw[a1];rfl]
        exact go (Or.inr a1)
      · rw[if_neg (by omega),show(a !=1)=true from bne_iff_ne.2 a1]
        exact no
theorem zQ {l:List Int} {ls:List (List Int)} (h:ls.length≤10):(push l ls).length≤10:=by
  unfold push;split
  · rw[List.length_drop,List.length_append,List.length_singleton];omega
  · rw[List.length_append,List.length_singleton];omega
theorem zR {l y:List Int} {ls:List (List Int)} (h:y∈push l ls):y∈ls∨y=l:=by
  have:y∈ls++ [l]:=by
    unfold push at h;split at h
    · exact List.mem_of_mem_drop h
    · exact h
  rcases List.mem_append.1 this with k|k
  · exact Or.inl k
  · exact Or.inr (List.mem_singleton.1 k)
theorem wi {t:Int} {l:List Int} {ls:List (List Int)} (hm:pU t l ls=true) (a:Int) (s:ByteArray):pU (rG t l ls a s).1 (rG t l ls a s).2.1 (rG t l ls a s).2.2.1=true:=by
  obtain⟨htl,h10,hls⟩:=qo.1 hm;unfold rG;have no:pU (rJ t l ls).1 (rJ t l ls).2.1 (rJ t l ls).2.2.1=true:=hm;split
  · split
    · exact no
    · rename_i he
      have hlast:ls.getLastD []∈ls:=by rw[List.getLastD_eq_getLast?,List.getLast?_eq_some_getLast he];exact List.getLast_mem he
      exact qo.2 ⟨hls _ hlast,by rw[List.length_dropLast];omega,fun y hy=>hls y (tG hy)⟩
  · split
    · split
      · split
        · exact no
        · split
          · exact no
          · exact qo.2 ⟨uT (qn.1 htl).1 _ _,zQ h10,fun y hy=>(zR hy).elim (hls y) (fun e=>e▸htl)⟩
      · exact no
    · exact no
set_option maxHeartbeats 1000000 in
theorem se {t:Int} {l:List Int} {ls:List (List Int)} (hn:l.length≤9223372036854775807) (hs:ls.length≤9223372036854775807) (hl:∀y∈ls,y.length≤9223372036854775807) (a:Int) (s:ByteArray):
    Ev (fun k=>ku.f k t l ls a s) (if pU t l ls=true then rG t l ls a s else(0,[],[],false)):=by
  unfold ku.f;refine Ev.bind (qJ t hn hs hl) ?_;by_cases hm:pU t l ls=true
  · rw[if_pos hm]
    refine jb hm ?_;obtain⟨htl,h9,hls⟩:=qo.1 hm;obtain⟨hr,htd⟩:=qn.1 htl;obtain⟨ht,hll,hx,_⟩:=pk.1 hr;have h8:=(qW t).1
    have hlen:∀y∈ls,y.length≤100:=fun y hy=>by
      have:=(pk.1 (qn.1 (hls y hy)).1).2.1;omega
    refine Ev.bind (xp t (by omega) (by omega) hlen) ?_;unfold rG;have Ch:∀v:Int,Ev (fun k=>ku.j1 k v true t l ls a s t l ls) (rJ t l ls):=fun v=>Ev.step (f:=fun _=>some (t,l,ls,false)) (fun k=>rfl) (Ev.now _)
    have go:Ev (fun k=>ku.j0 k false t l ls a s t l ls) (if a=0∨a=1 then(if(holds t s).2=true then(if(holds t s).1=0 then rJ t l ls else(if vr l a (holds t s).1.toNat=l then rJ t l ls else(t,vr l a (holds t s).1.toNat,push l ls,true)))else rJ t l ls)else rJ t l ls):=by
      refine Ev.step (f:=fun k=>(nZ.f k t s).bind fun zS=>(if zS.2=true then((ov.f a 0 1).bind fun DD=>(ku.j1 k zS.1 (!DD) t l ls a s t l ls))else(ku.j1 k zS.1 true t l ls a s t l ls))) (fun k=>rfl) (Ev.bind (ui t s) ?_);by_cases h2:(holds t s).2=true
      · refine jb h2 (nt (qI _ _ _) ?_)
        by_cases ha:a=0∨a=1
        · rw[if_pos ha,if_pos h2,decide_eq_true (by omega)]
          have eh:holds t s=((holds t s).1,true):=by rw[←h2]
          obtain⟨_,v0,v1⟩:=uf eh;have hch:=wh hr v0 v1 ha;obtain⟨v,ev⟩:=Int.eq_ofNat_of_zero_le v0;rw[ev]at hch⊢;rw[Int.toNat_natCast]at hch⊢;have DW:∀q:List Int,Ev (fun k=>ku.j2 k q true t l ls) (rJ t l ls):=fun q=>Ev.step (f:=fun _=>some (t,l,ls,false)) (fun k=>rfl) (Ev.now _)
          refine Ev.step (f:=fun k=>(nP.f k t l a (v:Int)).bind fun re=>(if re.2=true then((nf.f k t re.1 l).bind fun Bx=>(ku.j2 k re.1 Bx t l ls))else(ku.j2 k re.1 true t l ls))) (fun k=>rfl) (Ev.bind hch ?_);by_cases e0:(v:Int)=0
          · rw[if_pos e0,if_pos e0]
            exact qy (DW _)
          · rw[if_neg e0,if_neg e0]
            have hq:=uT hr a v;obtain⟨hq1,hq2⟩:=qn.1 hq;have hso:=wg hq1 hr;rw[hq2,htd]at hso;refine pO (Ev.bind hso ?_);by_cases e:vr l a v=l
            · rw[if_pos e,decide_eq_true e]
              exact DW _
            · rw[if_neg e,decide_eq_false e]
              refine Ev.step (f:=fun k=>if ls.length<5864062014805 then((some (ls++ [l]:List (List Int))).bind fun BA=>(if(BA.length:Int)>10 then(some (t,vr l a v,BA.drop (1:Int).toNat,true))else(some (t,vr l a v,BA,true))))else(none)) (fun k=>rfl) (jb (by omega) (nt rfl ?_));have hln:(ls++ [l]).length=ls.length+1:=by rw[List.length_append,List.length_singleton]
              unfold push;by_cases h10:ls.length+1>10
              · rw[if_pos h10]
                exact jb (by rw[hln];omega) (Ev.now _)
              · rw[if_neg h10]
                exact jW (by rw[hln];omega) (Ev.now _)
        · rw[if_neg ha,decide_eq_false (by omega)]
          exact Ch _
      · refine jW h2 ?_
        by_cases ha:a=0∨a=1
        · rw[if_pos ha,if_neg h2]
          exact Ch _
        · rw[if_neg ha]
          exact Ch _
    by_cases hb:a=2∧s.size=0
    · rw[if_pos hb]
      refine jb ((isNil a s).2 hb) ?_;by_cases he:ls= []
      · rw[if_pos he]
        rw[if_neg (by omega)]at go;rw[show decide (((ls.length:Nat):Int)>0)=false from by rw[he];rfl];exact go
      · rw[if_neg he]
        have hp:0<ls.length:=List.length_pos_iff.2 he;obtain⟨r1,r2,r3⟩:=(yq he).resolve_right (fun k=>k (by omega));rw[decide_eq_true (by omega)];refine Ev.step (f:=fun k=>if 0≤(wrap64 ((ls.length:Int) - 1))then(if(wrap64 ((ls.length:Int) - 1))<(ls.length:Int)then(some (t,oP ls (wrap64 ((ls.length:Int) - 1)),ls.take (wrap64 ((ls.length:Int) - 1)).toNat,true))else(none))else(none)) (fun k=>rfl) (jb (by rw[r2];omega) (jb (by rw[r2];omega) ?_));rw[r1,r3];exact Ev.now _
    · rw[if_neg hb]
      exact jW (fun k=>hb ((isNil a s).1 k)) go
  · rw[if_neg hm]
    exact jW hm (Ev.now _)
theorem qN {t:Int} {l:List Int} (h:qa t l=true):0<l.length∧l.length≤8:=by
  have h1:=(pk.1 (qn.1 h).1).2.1;have:=qW t;omega
theorem yt (t:Int) (l:List Int) (ls:List (List Int)) (a:Int) (s:ByteArray):(rG t l ls a s).2.2.1.length≤ls.length+1:=by
  have no:(rJ t l ls).2.2.1.length≤ls.length+1:=Nat.le_succ _;unfold rG;split
  · split
    · exact no
    · show(ls.dropLast).length≤_
      rw[List.length_dropLast];omega
  · split
    · split
      · split
        · exact no
        · split
          · exact no
          · show(push l ls).length≤_
            unfold push;split
            · rw[List.length_drop,List.length_append,List.length_singleton];omega
            · rw[List.length_append,List.length_singleton];omega
      · exact no
    · exact no
theorem xq (t:Int) {l:List Int} {ls:List (List Int)} (hn:l.length≤100) (hs:ls.length≤9) (hl:∀y∈ls,y.length≤100) (a:Int) (s:ByteArray):
    ∃r1 r2 r3 r4,Ev (fun k=>ku.f k t l ls a s) (r1,r2,r3,r4)∧(r4=true→(0<r2.length∧r2.length≤8)∧r3.length≤ls.length+1∧∀y∈r3,y.length≤8):=by
  have h:=se (t:=t) (l:=l) (ls:=ls) (by omega) (by omega) (fun y hy=>by have:=hl y hy;omega) a s;by_cases hm:pU t l ls=true
  · rw[if_pos hm]at h
    obtain⟨o1,_,o3⟩:=qo.1 (wi hm a s);exact⟨(rG t l ls a s).1,(rG t l ls a s).2.1,(rG t l ls a s).2.2.1,(rG t l ls a s).2.2.2,h,fun _=>⟨qN o1,yt t l ls a s,fun y hy=>(qN (o3 y hy)).2⟩⟩
  · rw[if_neg hm]at h
    exact⟨0,[],[],false,h,fun k=>by cases k⟩
def wj (t:Int) (l:List Int):Int×List Int×List (List Int):=if pT t l=true then(t,pH l,[])else(0,[],[])
theorem xr {t:Int} {l:List Int} (h:pT t l=true):l.length≤8:=by
  have:=(pk.1 h).2.1;have:=(qW t).1;omega
theorem uk (t:Int) {l:List Int} (hn:l.length≤9223372036854775807):Ev (fun k=>pE.f k t l) (wj t l):=by
  unfold pE.f wj;refine Ev.bind (rm t hn) ?_;by_cases h:pT t l=true
  · rw[if_pos h]
    exact jb h (Ev.bind (rF h) (Ev.now _))
  · rw[if_neg h]
    exact jW h (Ev.now _)
theorem uV:pe.f=some true:=by decide+kernel
def Code (b:List Int):Prop:=b.length≤2000∧∀x,x∈b→0≤x∧x≤255
theorem wk {b:List Int} (h:Code b) {i:Int} (h0:0≤i) (h1:i<(b.length:Int)):0≤rd b i∧rd b i≤255:=by
  obtain⟨n,rfl⟩:=Int.eq_ofNat_of_zero_le h0;exact h.2 _ (Bq (by omega))
theorem xt {x y:Int} (h0:0≤x) (h1:x<4611686018427387904) (k0:0≤y) (k1:y<4611686018427387904):0≤Go.bits .xor .i64 x y:=by
  obtain⟨a,rfl⟩:=Int.eq_ofNat_of_zero_le h0;obtain⟨b,rfl⟩:=Int.eq_ofNat_of_zero_le k0;rw[Bp a b (by omega) (by omega)];omega
theorem tmod_in {x n:Int} (h:0≤x) (hn:1≤n):0≤Int.tmod x n∧Int.tmod x n<n:=by
  rw[Int.tmod_eq_emod_of_nonneg h];exact⟨Int.emod_nonneg _ (by omega),Int.emod_lt_of_pos _ (by omega)⟩
theorem yu {x n:Int} (h:0≤x) (hn:1≤n):0≤Int.tdiv x n∧Int.tdiv x n≤x:=by
  rw[Int.tdiv_eq_ediv_of_nonneg h];exact⟨Int.ediv_nonneg h (by omega),Int.ediv_le_self _ h⟩
theorem pW {b:List Int} (hb:Code b) {p:Int} (h0:0≤p) (h1:p≤1000000000) (n:Int):
    ∃r,Ev (fun k=>jT.f k b p n) (r,p+1)∧0≤r∧(1≤n→r<n)∧(n<1→r=0):=by
  have hl:=hb.1;have hw:wrap64 (p+1)=p+1:=qZ (by omega) (by omega);have hw2:wrap64 (p+1 - 1)=p:=by rw[qZ (by omega) (by omega)];omega
  unfold jT.f;rw[hw];by_cases hn:n<1
  · refine⟨0,jb hn (Ev.step (f:=fun _=>some (0,p+1)) (fun k=>rfl) (Ev.now _)),Int.le_refl _,fun h=>by omega,fun _=>rfl⟩
  · by_cases he:(b.length:Int)=0
    · refine⟨0,jW hn ?_,Int.le_refl _,fun h=>by omega,fun _=>rfl⟩
      rw[he];exact Ev.step (f:=fun _=>some (0,p+1)) (fun k=>rfl) (Ev.now _)
    · have he':((b.length:Int)==0)=false:=beq_eq_false_iff_ne.2 he
      by_cases hk:p<(b.length:Int)
      · obtain⟨a1,a2⟩:=wk hb h0 hk
        have hm:=tmod_in (x:=rd b p) (n:=n) a1 (by omega);refine⟨Int.tmod (rd b p) n,jW hn ?_,hm.1,fun _=>hm.2,fun h=>by omega⟩;rw[he'];refine Ev.step (fun k=>rfl) ?_;simp only[jT.j0,hw2];refine jW (by decide) (jb hk (jb h0 (jW (by omega) (oQ (Ev.now _) ?_))));rw[qZ (by omega) (by omega)]
      · have hlp:1≤(b.length:Int):=by omega
        have m1:=tmod_in (x:=p) (n:=(b.length:Int)) h0 hlp;have e7:wrap64 (p*7)=p*7:=qZ (by omega) (by omega);have Eo:wrap64 (p*7+3)=p*7+3:=qZ (by omega) (by omega);have m2:=tmod_in (x:=p*7+3) (n:=(b.length:Int)) (by omega) hlp;have c1:=wk hb m1.1 m1.2;have c2:=wk hb m2.1 m2.2;have d1:=yu (x:=p) (n:=(b.length:Int)) h0 hlp;generalize hA:rd b (Int.tmod p (b.length:Int))=A at c1;generalize hB:rd b (Int.tmod (p*7+3) (b.length:Int))=B at c2;generalize hD:Int.tdiv p (b.length:Int)=D at d1;have hx0:0≤A*131+B*1117+p*29+D*53:=by omega
        have hx1:A*131+B*1117+p*29+D*53<4611686018427387904:=by omega
        have d2:=yu (x:=A*131+B*1117+p*29+D*53) (n:=64) hx0 (by omega);have DE:=xt hx0 hx1 d2.1 (by omega);have hm:=tmod_in (n:=n) DE (by omega);refine⟨_,jW hn ?_,hm.1,fun _=>hm.2,fun h=>by omega⟩;rw[he'];refine Ev.step (fun k=>rfl) ?_;simp only[jT.j0,hw2,e7,Eo,hA,hB,hD];refine jW (by decide) (jW hk (jW he (jb m1.1 (jb m1.2 (jb m2.1 (jb m2.2 (jW (by omega) (oQ (Ev.now _) ?_))))))));rw[qZ (n:=A) (by omega) (by omega),qZ (n:=B) (by omega) (by omega),qZ (n:=A*131) (by omega) (by omega),qZ (n:=B*1117) (by omega) (by omega),qZ (n:=A*131+B*1117) (by omega) (by omega),qZ (n:=p*29) (by omega) (by omega),qZ (n:=A*131+B*1117+p*29) (by omega) (by omega),qZ (n:=D) (by omega) (by omega),qZ (n:=D*53) (by omega) (by omega),qZ (n:=A*131+B*1117+p*29+D*53) (by omega) (by omega),qZ (n:=Int.tdiv _ 64) (by omega) (by omega)]
theorem wm {b:List Int} (hb:Code b) {p:Int} (h0:0≤p) (h1:p≤1000000000) (n:Int):
    ∃r p',Ev (fun k=>nr.f k b p n) (r,p')∧p≤p'∧p'≤p+1:=by
  unfold nr.f;by_cases hn:n>0
  · obtain⟨r,hr,_⟩:=pW hb h0 h1 n
    exact⟨_,p+1,jb hn (Ev.bind hr (Ev.now _)),by omega,by omega⟩
  · exact⟨false,p,jW hn (Ev.now _),by omega,by omega⟩
theorem yv {c:List Int} (h:∀x∈c,(Lit.int .u8 x).wf=true):∃b,pt.f c=some (b,0)∧Code b:=by
  have hc:∀x,x∈c→0≤x∧x≤255:=fun x hx=>by
    have:=h x hx;simp[Lit.wf,IntKind.min,IntKind.max,IntKind.signed,IntKind.bits]at this;omega
  unfold pt.f;by_cases hl:(c.length:Int)>2000
  · refine⟨c.take 2000,by rw[if_pos hl,if_pos (by omega)],by rw[List.length_take];omega,fun x hx=>hc x (List.mem_of_mem_take hx)⟩
  · exact⟨c,by rw[if_neg hl],by omega,hc⟩
theorem yw {b:List Int} (hb:Code b) {p:Int} (h0:0≤p) (h1:p≤900000000) (t d:Int):
    ∃s,Ev (fun k=>ko.j0 k t d true b p) (s,p+2)∧s.size≤1:=by
  obtain⟨i,hi,i0,i1,_⟩:=pW hb (p:=p) h0 (by omega) 8;have i1:=i1 (by omega);have hm:1≤mx (mn t 3) 1∧mx (mn t 3) 1≤3:=by unfold mx mn;split<;>split<;>omega
  have hd:Int.tdiv i 7=0∨Int.tdiv i 7=1:=by
    rw[Int.tdiv_eq_ediv_of_nonneg i0];omega
  generalize hn:wrap64 ((mx (mn t 3) 1)+(wrap64 ((wrap64 (Int.tdiv i 7))*3)))=n
  have hn1:1≤n∧n≤6:=by
    rw[←hn];rcases hd with e|e
    · rw[e,qZ (n:=(0:Int)) (by omega) (by omega),qZ (n:=(0:Int)*3) (by omega) (by omega),qZ (by omega) (by omega)];omega
    · rw[e,qZ (n:=(1:Int)) (by omega) (by omega),qZ (n:=(1:Int)*3) (by omega) (by omega),qZ (by omega) (by omega)];omega
  obtain⟨j,hj,j0,j1,_⟩:=pW hb (p:=p+1) (by omega) (by omega) n;have j1:=j1 hn1.1;have e2:p+1+1=p+2:=by omega
  rw[e2]at hj;refine⟨rdOf ByteArray.empty [(⟨#[97]⟩:ByteArray),(⟨#[98]⟩:ByteArray),(⟨#[99]⟩:ByteArray),(⟨#[97]⟩:ByteArray),(⟨#[48]⟩:ByteArray),(⟨#[49]⟩:ByteArray)] j,Ev.step (f:=fun k=>((some (([(⟨#[97]⟩:ByteArray),(⟨#[98]⟩:ByteArray),(⟨#[99]⟩:ByteArray),(⟨#[97]⟩:ByteArray),(⟨#[48]⟩:ByteArray),(⟨#[49]⟩:ByteArray)]:List ByteArray):List ByteArray)).bind fun CG=>((jT.f k b p 8).bind fun AX=>((jT.f k b AX.2 (wrap64 ((mx (mn t 3) 1)+(wrap64 ((wrap64 (Int.tdiv AX.1 7))*3))))).bind fun yx=>(if 0≤yx.1 then(if yx.1<(CG.length:Int)then(some (rdOf ByteArray.empty CG yx.1,yx.2))else(none))else(none)))))) (fun k=>rfl) (nt rfl (Ev.bind hi ?_)),?_⟩
  · rw[hn]
    exact Ev.bind hj (jb j0 (jb (by show j<6;omega) (Ev.now _)))
  · have:j=0∨j=1∨j=2∨j=3∨j=4∨j=5:=by omega
    rcases this with rfl|rfl|rfl|rfl|rfl|rfl<;>decide+kernel
theorem vH {b:List Int} (hb:Code b) (t:Int) (d c m:Nat) (hd:d<100) (hc:c≤1000) (hm:m≤1000)
    (H:∀p:Int,0≤p→p≤900000000 - 2*c - 10→∃s p',Ev (fun k=>ko.f k b p t (d:Int)) (s,p')∧p≤p'∧p'≤p+c∧s.size≤m):
    ∀p:Int,0≤p→p≤900000000 - 2*(2*c+5:Nat) - 10→∃s p',Ev (fun k=>ko.f k b p t ((d+1:Nat):Int)) (s,p')∧p≤p'∧p'≤p+(2*c+5:Nat)∧s.size≤2*m+3:=by
  intro p h0 h1;obtain⟨y,hy,_,_,_⟩:=pW hb h0 (by omega) 3;have hd1:wrap64 (((d+1:Nat):Int) - 1)=(d:Int):=by rw[qZ (by omega) (by omega)];omega
  have st:∀{r},Ev (fun k=>ko.j0 k t ((d+1:Nat):Int) (y==0) b (p+1)) r→Ev (fun k=>ko.f k b p t ((d+1:Nat):Int)) r:=fun h=>Ev.step (f:=fun k=>if((d+1:Nat):Int)=0 then(ko.j0 k t ((d+1:Nat):Int) true b p)else((jT.f k b p 3).bind fun wT=>(ko.j0 k t ((d+1:Nat):Int) (wT.1==0) b wT.2))) (fun k=>rfl) (jW (by omega) (Ev.bind hy h))
  by_cases e0:y=0
  · obtain⟨s,hs,h2⟩:=yw hb (p:=p+1) (by omega) (by omega) t ((d+1:Nat):Int)
    have eb:(y==0)=true:=beq_iff_eq.2 e0;rw[eb]at st;exact⟨s,p+1+2,st hs,by omega,by omega,by omega⟩
  · have eb:(y==0)=false:=beq_eq_false_iff_ne.2 e0
    rw[eb]at st;obtain⟨z,hz,_,_,_⟩:=pW hb (p:=p+1) (by omega) (by omega) 4;obtain⟨s1,p1,hs1,a1,a2,a3⟩:=H (p+1+1) (by omega) (by omega);obtain⟨s2,p2,hs2,b1,b2,b3⟩:=H p1 (by omega) (by omega);rw[←hd1]at hs1 hs2;have Ew:∀x:ByteArray,x.size=1→((x++s1)++x).size=s1.size+2:=fun x hx=>by rw[ByteArray.size_append,ByteArray.size_append,hx];omega
    have one:∀x:UInt8,(⟨#[x]⟩:ByteArray).size=1:=fun x=>rfl
    by_cases z0:z=0
    · refine⟨(⟨#[33]⟩:ByteArray)++s1,p1,st (Ev.step (fun k=>rfl) (Ev.bind hz (jb z0 (Ev.bind hs1 (jb (by dsimp only;(try simp only[ByteArray.size_append,one]);omega) (Ev.now _)))))),by omega,by omega,?_⟩
      rw[ByteArray.size_append,one];omega
    by_cases z1:z=1
    · refine⟨((((⟨#[40]⟩:ByteArray)++s1)++(⟨#[38]⟩:ByteArray))++s2)++(⟨#[41]⟩:ByteArray),p2,st (Ev.step (fun k=>rfl) (Ev.bind hz (jW z0 (jb z1 (Ev.bind hs1 (jb (by dsimp only;(try simp only[ByteArray.size_append,one]);omega) (jb (by dsimp only;(try simp only[ByteArray.size_append,one]);omega) (Ev.bind hs2 (jb (by dsimp only;(try simp only[ByteArray.size_append,one]);omega) (jb (by dsimp only;(try simp only[ByteArray.size_append,one]);omega) (Ev.now _))))))))))),by omega,by omega,?_⟩
      simp only[ByteArray.size_append,one];omega
    by_cases z2:z=2
    · refine⟨((((⟨#[40]⟩:ByteArray)++s1)++(⟨#[124]⟩:ByteArray))++s2)++(⟨#[41]⟩:ByteArray),p2,st (Ev.step (fun k=>rfl) (Ev.bind hz (jW z0 (jW z1 (jb z2 (Ev.bind hs1 (jb (by dsimp only;(try simp only[ByteArray.size_append,one]);omega) (jb (by dsimp only;(try simp only[ByteArray.size_append,one]);omega) (Ev.bind hs2 (jb (by dsimp only;(try simp only[ByteArray.size_append,one]);omega) (jb (by dsimp only;(try simp only[ByteArray.size_append,one]);omega) (Ev.now _)))))))))))),by omega,by omega,?_⟩
      simp only[ByteArray.size_append,one];omega
    · refine⟨((((⟨#[40]⟩:ByteArray)++s1)++(⟨#[62]⟩:ByteArray))++s2)++(⟨#[41]⟩:ByteArray),p2,st (Ev.step (fun k=>rfl) (Ev.bind hz (jW z0 (jW z1 (jW z2 (Ev.bind hs1 (jb (by dsimp only;(try simp only[ByteArray.size_append,one]);omega) (jb (by dsimp only;(try simp only[ByteArray.size_append,one]);omega) (Ev.bind hs2 (jb (by dsimp only;(try simp only[ByteArray.size_append,one]);omega) (jb (by dsimp only;(try simp only[ByteArray.size_append,one]);omega) (Ev.now _)))))))))))),by omega,by omega,?_⟩
      simp only[ByteArray.size_append,one];omega
theorem AH {b:List Int} (hb:Code b) (t:Int) {p:Int} (h0:0≤p) (h1:p≤800000000):∃s p',Ev (fun k=>ko.f k b p t 2) (s,p')∧p≤p'∧p'≤p+30∧s.size≤20:=by
  have H0:∀p:Int,0≤p→p≤900000000 - 2*(2:Nat) - 10→∃s p',Ev (fun k=>ko.f k b p t ((0:Nat):Int)) (s,p')∧p≤p'∧p'≤p+(2:Nat)∧s.size≤1:=by
    intro p h0 h1;obtain⟨s,hs,h2⟩:=yw hb (p:=p) h0 (by omega) t ((0:Nat):Int);exact⟨s,p+2,Ev.step (f:=fun k=>if((0:Nat):Int)=0 then(ko.j0 k t ((0:Nat):Int) true b p)else((jT.f k b p 3).bind fun wT=>(ko.j0 k t ((0:Nat):Int) (wT.1==0) b wT.2))) (fun k=>rfl) (jb rfl hs),by omega,by omega,h2⟩
  have H1:=vH hb t 0 2 1 (by omega) (by omega) (by omega) H0;have H2:=vH hb t 1 9 5 (by omega) (by omega) (by omega) H1;obtain⟨s,p',a,b1,b2,b3⟩:=H2 p h0 (by omega);exact⟨s,p',a,b1,by omega,by omega⟩
theorem CH (b:List Int) (p:Int):Ev (fun k=>nr.f k b p 0) (false,p):=by
  unfold nr.f;exact jW (by omega) (Ev.now _)
theorem xu {b:List Int} (hb:Code b) {p:Int} (h0:0≤p) (h1:p≤900000000):
    ∃r,Ev (fun k=>pj.f k b p 0) (r,p+1)∧1≤r∧r≤3:=by
  unfold pj.f;obtain⟨r,hr,r0,r1,_⟩:=pW hb (p:=p) h0 (by omega) 5;have r1:=r1 (by omega);refine⟨rd [1,2,2,3,3] r,Ev.bind (CH b p) (jW Bool.false_ne_true (nt rfl (Ev.bind hr (jb r0 (jb (by simpa using r1) (Ev.now _)))))),?_⟩;have:r=0∨r=1∨r=2∨r=3∨r=4:=by omega
  rcases this with rfl|rfl|rfl|rfl|rfl<;>decide+kernel
theorem zT {b:List Int} (hb:Code b) {t:Int} (ht:1≤t∧t≤3) {x:Int} (x0:0≤x) (x1:x<3):∀i:Nat,i≤wn t→∀(l:List Int) (p:Int),l.length=i→(∀y∈l,0≤y∧y≤9)→0≤p→p+10*(wn t - i:Nat)≤800000000→
    ∃r p',Ev (fun k=>nG.l0 k 0 l (wn t:Int) x (i:Int) b p) (r,p')∧p≤p'∧p'≤p+10*(wn t - i:Nat)+10∧pT t r=true:=by
  have hw:=qW t;apply down
  · intro l p hl hx h0 h1
    obtain⟨j,hj,j0,j1,_⟩:=pW hb (p:=p) (by omega) (by omega) (wn t:Int);have j1:=j1 (by omega);obtain⟨m,rfl⟩:=Int.eq_ofNat_of_zero_le j0;have hm:m<l.length:=by omega
    refine⟨l.set ((m:Int)).toNat 0,p+1,Ev.step (fun k=>rfl) (jW (by omega) (Ev.bind hj (jb j0 (jb (by omega) (nt rfl (Ev.bind (CH b (p+1)) (qy (Ev.now _)))))))),by omega,by omega,pk.2 ⟨ht,by rw[List.length_set,hl],fun y hy=>?_,?_⟩⟩
    · rcases List.mem_or_eq_of_mem_set hy with h|rfl
      · exact hx y h
      · omega
    · rw[Int.toNat_natCast]
      exact List.mem_set hm 0
  · intro i hi ih l p hl hx h0 h1
    obtain⟨z,hz,z0,z1,_⟩:=pW hb (p:=p) (by omega) (by omega) (rd [2,4,10] x)
    have hq:1≤rd [2,4,10] x∧rd [2,4,10] x≤10:=by
      have:x=0∨x=1∨x=2:=by omega
      rcases this with rfl|rfl|rfl<;>decide+kernel
    have z1:=z1 hq.1
    obtain⟨r,p',hr,b1,b2,b3⟩:=ih (l++ [z]) (p+1) (by rw[List.length_append,hl];rfl) (fun y hy=>by
      rcases List.mem_append.1 hy with h|h
      · exact hx y h
      · rw[List.mem_singleton.1 h];omega) (by omega) (by omega)
    refine⟨r,p',Ev.step (fun k=>rfl) (jb (by omega) (nt rfl (jb x0 (jb (by simpa using x1) (Ev.bind hz (jb (by omega) ?_)))))),by omega,by omega,b3⟩;rw[w1 hi (by omega)];exact hr
theorem zU {b:List Int} (hb:Code b) {p:Int} (h0:0≤p) (h1:p≤700000000) {t:Int} (ht:1≤t∧t≤3):
    ∃r p',Ev (fun k=>nG.f k b p t 0) (r,p')∧p≤p'∧p'≤p+100∧pT t r=true:=by
  have hw:=qW t
  have hv:pQ.f t=some (wn t:Int):=by
    unfold pQ.f;rw[qI,Option.bind_some,decide_eq_true ht,if_pos rfl,if_pos (by omega),uL ht]
  obtain⟨x,hx,x0,x1,_⟩:=pW hb h0 (by omega) 3;have x1:=x1 (by omega);have hmx:mx (wn t:Int) 1=(wn t:Int):=by unfold mx;split<;>omega
  obtain⟨r,p',hr,b1,b2,b3⟩:=zT hb ht x0 x1 0 (Nat.zero_le _) [] (p+1) rfl (by simp) (by omega) (by omega);unfold nG.f;refine⟨r,p',nt hv (Ev.bind hx ?_),by omega,by omega,b3⟩;rw[hmx];exact hr
theorem yy {b:List Int} (hb:Code b) (t:Int) (l:List Int) (ls:List (List Int)) {p:Int} (h0:0≤p) (h1:p≤700000000):∃a s p',Ev (fun k=>od.f k b p t l ls) (a,s,p')∧p≤p'∧p'≤p+40∧s.size≤21:=by
  obtain⟨i,hi,i0,i1,_⟩:=pW hb (p:=p) h0 (by omega) 7;have i1:=i1 (by omega);obtain⟨j,hj,_,_,_⟩:=pW hb (p:=p+1) (by omega) (by omega) 60;unfold od.f;generalize hK:wrap64 ((rd [0,0,0,1,1,1,2] i)+(wrap64 ((wrap64 (Int.tdiv j 59))*3)))=K;have one:∀x:UInt8,(⟨#[x]⟩:ByteArray).size=1:=fun x=>rfl
  by_cases e:K=2
  · obtain⟨o,p1,ho,a1,a2⟩:=wm hb (p:=p+1+1) (by omega) (by omega) 40
    cases o with
    |true=>
      refine⟨K,(⟨#[]⟩:ByteArray)++(⟨#[41]⟩:ByteArray),p1,nt rfl (Ev.bind hi (jb i0 (jb (by show i<7;omega) (Ev.bind hj ?_)))),by omega,by omega,by decide⟩;simp only[hK];exact jb e (Ev.bind ho (pO (jb (by decide) (Ev.now _))))
    |false=>
      refine⟨K,(⟨#[]⟩:ByteArray),p1,nt rfl (Ev.bind hi (jb i0 (jb (by show i<7;omega) (Ev.bind hj ?_)))),by omega,by omega,by decide⟩;simp only[hK];exact jb e (Ev.bind ho (qy (Ev.now _)))
  · obtain⟨s,p2,hs,c1,c2,c3⟩:=AH hb t (p:=p+1+1) (by omega) (by omega)
    obtain⟨o,p1,ho,a1,a2⟩:=wm hb (p:=p2) (by omega) (by omega) 40;cases o with
    |true=>
      refine⟨K,s++(⟨#[41]⟩:ByteArray),p1,nt rfl (Ev.bind hi (jb i0 (jb (by show i<7;omega) (Ev.bind hj ?_)))),by omega,by omega,by rw[ByteArray.size_append,one];omega⟩;simp only[hK];exact jW e (Ev.bind hs (Ev.bind ho (pO (jb (by show s.size+1≤_;omega) (Ev.now _)))))
    |false=>
      refine⟨K,s,p1,nt rfl (Ev.bind hi (jb i0 (jb (by show i<7;omega) (Ev.bind hj ?_)))),by omega,by omega,by omega⟩;simp only[hK];exact jW e (Ev.bind hs (Ev.bind ho (qy (Ev.now _))))
theorem AJ {b:List Int} (hb:Code b) (n:Int):∀(x:Nat) (t:Int) (l:List Int) (ls:List (List Int)) (p:Int),x≤5→0≤p→p+100*x≤600000000→0<l.length→l.length≤8→ls.length+x≤5→(∀y∈ls,y.length≤8)→
    ∃t' l' ls' p',Ev (fun k=>nu.l0 k n (x:Int) b p t l ls) (t',l',ls',p')∧p≤p'∧p'≤p+100*x+10∧l'.length≤8∧ls'.length≤6∧∀y∈ls',y.length≤8:=by
  intro x;induction x with
  |zero=>
    intro t l ls p _ h0 h1 hl0 Ci hs hr;obtain⟨o,p1,ho,a1,a2⟩:=wm hb h0 (by omega) n;cases o with
    |false=>exact⟨t,l,ls,p1,Ev.step (fun k=>rfl) (jW (by omega) (Ev.bind ho (qy (Ev.now _)))),by omega,by omega,Ci,by omega,hr⟩
    |true=>
      obtain⟨z,hz,z0,z1,_⟩:=pW hb (p:=p1) (by omega) (by omega) 3;by_cases e0:z=0
      · exact⟨4,l,ls,p1+1,Ev.step (fun k=>rfl) (jW (by omega) (Ev.bind ho (pO (Ev.bind hz (jb e0 (Ev.now _)))))),by omega,by omega,Ci,by omega,hr⟩
      by_cases e1:z=1
      · exact⟨t,l.set (0:Int).toNat 9,ls,p1+1,Ev.step (fun k=>rfl) (jW (by omega) (Ev.bind ho (pO (Ev.bind hz (jW e0 (jb e1 (jb (by omega) (Ev.now _)))))))),by omega,by omega,by rw[List.length_set];exact Ci,by omega,hr⟩
      · refine⟨t,l,ls++ [[1]],p1+1,Ev.step (fun k=>rfl) (jW (by omega) (Ev.bind ho (pO (Ev.bind hz (jW e0 (jW e1 (jb (by omega) (Ev.now _)))))))),by omega,by omega,Ci,by rw[List.length_append,List.length_singleton];omega,fun y hy=>?_⟩
        rcases List.mem_append.1 hy with h|h
        · exact hr y h
        · rw[List.mem_singleton.1 h];decide
  |succ x ih=>
    intro t l ls p hx h0 h1 hl0 Ci hs hr;obtain⟨a,s,p1,hd,a1,a2,a3⟩:=yy hb t l ls h0 (by omega);obtain⟨r1,r2,r3,r4,hm,hgood⟩:=xq t (l:=l) (ls:=ls) (by omega) (by omega) (fun y hy=>by have:=hr y hy;omega) a s;have hw:wrap64 (((x+1:Nat):Int) - 1)=(x:Int):=by rw[qZ (by omega) (by omega)];omega
    cases r4 with
    |true=>
      obtain⟨g1,g2,g3⟩:=hgood rfl;obtain⟨t',l',ls',p',h2,b1,b2,b3⟩:=ih r1 r2 r3 p1 (by omega) (by omega) (by omega) g1.1 g1.2 (by omega) g3;refine⟨t',l',ls',p',Ev.step (fun k=>rfl) (jb (by omega) (Ev.bind hd (Ev.bind hm (pO ?_)))),by omega,by omega,b3⟩;rw[hw];exact h2
    |false=>
      obtain⟨t',l',ls',p',h2,b1,b2,b3⟩:=ih t l ls p1 (by omega) (by omega) (by omega) hl0 Ci (by omega) hr;refine⟨t',l',ls',p',Ev.step (fun k=>rfl) (jb (by omega) (Ev.bind hd (Ev.bind hm (qy ?_)))),by omega,by omega,b3⟩;rw[hw];exact h2
theorem yz {b:List Int} (hb:Code b) (n:Int) {p:Int} (h0:0≤p) (h1:p≤500000000):
    ∃t l ls p',Ev (fun k=>nu.f k b p n) (t,l,ls,p')∧p≤p'∧p'≤p+1000∧l.length≤8∧ls.length≤6∧∀y∈ls,y.length≤8:=by
  unfold nu.f;obtain⟨t,ht,t0,t1⟩:=xu hb h0 (by omega);obtain⟨l,p1,hl,a1,a2,a3⟩:=zU hb (p:=p+1) (by omega) (by omega) (t:=t) ⟨t0,t1⟩;have h8:=xr a3;have hw:=qW t;have hlen:=(pk.1 a3).2.1;have hn:=uk t (l:=l) (by omega);have en:wj t l=(t,pH l,[]):=if_pos a3;rw[en]at hn;obtain⟨x,hx,x0,x1,_⟩:=pW hb (p:=p1) (by omega) (by omega) 6;have x1:=x1 (by omega);obtain⟨m,rfl⟩:=Int.eq_ofNat_of_zero_le x0;obtain⟨t',l',ls',p',h2,b1,b2,b3⟩:=AJ hb n m t (pH l) [] (p1+1) (by omega) (by omega) (by omega) (by rw[pZ];omega) (by rw[pZ];omega) (by simp only[List.length_nil];omega) (by simp);exact⟨t',l',ls',p',Ev.bind ht (Ev.bind hl (Ev.bind hn (Ev.bind hx h2))),by omega,by omega,b3⟩
theorem xv (t:Int) {l:List Int} {ls:List (List Int)} (hn:l.length≤100) (hs:ls.length≤9223372036854775800) (hl:∀y∈ls,y.length≤100) (a:Int) (s:ByteArray):
    ∃r1 r2 r3 r4,Ev (fun k=>ku.f k t l ls a s) (r1,r2,r3,r4)∧(r4=true→(0<r2.length∧r2.length≤8)∧r3.length≤ls.length+1∧∀y∈r3,y.length≤8):=by
  have h:=se (t:=t) (l:=l) (ls:=ls) (by omega) (by omega) (fun y hy=>by have:=hl y hy;omega) a s;by_cases hm:pU t l ls=true
  · rw[if_pos hm]at h
    obtain⟨o1,_,o3⟩:=qo.1 (wi hm a s);exact⟨(rG t l ls a s).1,(rG t l ls a s).2.1,(rG t l ls a s).2.2.1,(rG t l ls a s).2.2.2,h,fun _=>⟨qN o1,yt t l ls a s,fun y hy=>(qN (o3 y hy)).2⟩⟩
  · rw[if_neg hm]at h
    exact⟨0,[],[],false,h,fun k=>by cases k⟩
theorem zV {b:List Int} (hb:Code b):∀(x:Nat) (q:List oK) (t:Int) (l:List Int) (ls:List (List Int)) (p:Int),x≤6→q.length+x≤6→(∀y∈q,y.f1.size≤21)→0≤p→p+100*x≤600000000→l.length≤100→ls.length+x≤9223372036854775800→(∀y∈ls,y.length≤100)→
    ∃q' p',Ev (fun k=>nO.l0 k q (x:Int) b p t l ls) (q',p')∧p≤p'∧p'≤p+100*x∧q'.length≤6∧∀y∈q',y.f1.size≤21:=by
  intro x;induction x with
  |zero=>
    intro q t l ls p _ hq hs h0 h1 _ _ _;exact⟨q,p,Ev.step (fun k=>rfl) (jW (by omega) (Ev.now _)),by omega,by omega,by omega,hs⟩
  |succ x ih=>
    intro q t l ls p hx hq hs h0 h1 hl hls hr;obtain⟨a,s,p1,hd,a1,a2,a3⟩:=yy hb t l ls h0 (by omega);obtain⟨r1,r2,r3,r4,hm,hgood⟩:=xv t (l:=l) (ls:=ls) (by omega) (by omega) hr a s;have hw:wrap64 (((x+1:Nat):Int) - 1)=(x:Int):=by rw[qZ (by omega) (by omega)];omega
    have hq2:(q++ [(⟨a,s⟩:oK)]).length=q.length+1:=by rw[List.length_append,List.length_singleton]
    have hs2:∀y∈q++ [(⟨a,s⟩:oK)],y.f1.size≤21:=fun y hy=>by
      rcases List.mem_append.1 hy with h|h
      · exact hs y h
      · rw[List.mem_singleton.1 h];exact a3
    cases r4 with
    |true=>
      obtain⟨g1,g2,g3⟩:=hgood rfl;obtain⟨q',p',h2,b1,b2,b3⟩:=ih (q++ [(⟨a,s⟩:oK)]) r1 r2 r3 p1 (by omega) (by omega) hs2 (by omega) (by omega) (by omega) (by omega) (fun y hy=>by have:=g3 y hy;omega);refine⟨q',p',Ev.step (fun k=>rfl) (jb (by omega) (Ev.bind hd (Ev.bind hm (pO (jb (by omega) ?_))))),by omega,by omega,b3⟩;rw[hw];exact h2
    |false=>
      obtain⟨q',p',h2,b1,b2,b3⟩:=ih (q++ [(⟨a,s⟩:oK)]) t l ls p1 (by omega) (by omega) hs2 (by omega) (by omega) hl (by omega) hr;refine⟨q',p',Ev.step (fun k=>rfl) (jb (by omega) (Ev.bind hd (Ev.bind hm (qy (jb (by omega) ?_))))),by omega,by omega,b3⟩;rw[hw];exact h2
theorem wU {b:List Int} (hb:Code b) (t:Int) {l:List Int} {ls:List (List Int)} {p:Int} (h0:0≤p) (h1:p≤500000000) (hl:l.length≤100) (hls:ls.length≤6) (hr:∀y∈ls,y.length≤100):
    ∃q p',Ev (fun k=>nO.f k b p t l ls) (q,p')∧p≤p'∧p'≤p+1000∧q.length≤6∧∀y∈q,y.f1.size≤21:=by
  unfold nO.f;obtain⟨x,hx,x0,x1,_⟩:=pW hb (p:=p) h0 (by omega) 7;have x1:=x1 (by omega);obtain⟨m,rfl⟩:=Int.eq_ofNat_of_zero_le x0;obtain⟨q,p',h2,b1,b2,b3,b4⟩:=zV hb m [] t l ls (p+1) (by omega) (by simp only[List.length_nil];omega) (by simp) (by omega) (by omega) hl (by omega) hr;exact⟨q,p',Ev.bind hx h2,by omega,by omega,b3,b4⟩
theorem rR {l:List oK} {i:Nat} (h:i<l.length):la l (i:Int)=l[i]:=by
  unfold la;rw[Int.toNat_natCast,List.getD_eq_getElem?_getD,List.getElem?_eq_getElem h];rfl
def rB:List oK→Int→List Int→List (List Int)→Int→Int×List Int×List (List Int)×Int
  | [],t,l,ls,n=>(t,l,ls,n)
  |d::q,t,l,ls,n=>if(rG t l ls d.f0 d.f1).2.2.2=true then rB q (rG t l ls d.f0 d.f1).1 (rG t l ls d.f0 d.f1).2.1 (rG t l ls d.f0 d.f1).2.2.1 (n+1)else rB q t l ls n
theorem uE:∀(q:List oK) {t:Int} {l:List Int} {ls:List (List Int)} (n:Int),pU t l ls=true→pU (rB q t l ls n).1 (rB q t l ls n).2.1 (rB q t l ls n).2.2.1=true
  | [],_,_,_,_,h=>h
  |d::q,t,l,ls,n,h=>by
    unfold rB
    split
    · exact uE q (n+1) (wi h d.f0 d.f1)
    · exact uE q n h
theorem sf:∀(p q:List oK) (t:Int) (l:List Int) (ls:List (List Int)) (n:Int),rB (p++q) t l ls n=rB q (rB p t l ls n).1 (rB p t l ls n).2.1 (rB p t l ls n).2.2.1 (rB p t l ls n).2.2.2
  | [],_,_,_,_,_=>rfl
  |d::p,q,t,l,ls,n=>by
    have e:∀q:List oK,rB (d::q) t l ls n=if(rG t l ls d.f0 d.f1).2.2.2=true then rB q (rG t l ls d.f0 d.f1).1 (rG t l ls d.f0 d.f1).2.1 (rG t l ls d.f0 d.f1).2.2.1 (n+1)else rB q t l ls n:=fun _=>rfl
    rw[List.cons_append,e,e]
    split
    · rw[sf p q]
    · rw[sf p q]
theorem tW {t:Int} {l:List Int} {ls:List (List Int)} (hm:pU t l ls=true):l.length≤8∧ls.length≤10∧∀y∈ls,y.length≤8:=by
  obtain⟨o1,o2,o3⟩:=qo.1 hm;exact⟨(qN o1).2,o2,fun y hy=>(qN (o3 y hy)).2⟩
theorem um {t:Int} {l:List Int} {ls:List (List Int)} {q:List oK} (hn:l.length≤9223372036854775807) (hl:∀y∈ls,y.length≤9223372036854775807) (hq:q.length≤1048576):
    Ev (fun k=>nc.f k t l ls q) (if pU t l ls=true∧q.length≤40 then rB q t l ls 0 else(0,[],[],0)):=by
  unfold nc.f;refine Ev.bind (vG t hn hl) ?_;have no:Ev (fun k=>nc.j0 k q true t l ls) (0,[],[],0):=Ev.step (f:=fun _=>some (0,([]:List Int),([]:List (List Int)),0)) (fun k=>rfl) (Ev.now _);by_cases hm:pU t l ls=true
  · refine jb hm ?_
    by_cases xn:q.length≤40
    · rw[if_pos ⟨hm,xn⟩,decide_eq_false (by omega)]
      obtain⟨b1,b2,b3⟩:=tW hm
      have key:∀i,i≤q.length→∀(n:Nat) (t:Int) (l:List Int) (ls:List (List Int)),n≤i→pU t l ls=true→Ev (fun k=>nc.l0 k (n:Int) q (q.length:Int) (i:Int) t l ls) (rB (q.drop i) t l ls (n:Int)):=by
        apply down
        · intro n t l ls _ _
          refine Ev.step (fun k=>rfl) (jW (by omega) (oQ (Ev.now _) ?_));rw[List.drop_length];rfl
        · intro i hi ih n t l ls hni hm
          refine Ev.step (fun k=>rfl) (jb (by omega) (jb (by omega) (jb (by omega) ?_)));rw[rR hi,List.drop_eq_getElem_cons hi,w1 hi (by omega),w1 (i:=n) (n:=n+1) (by omega) (by omega)];refine Ev.bind (rZ hm q[i].f0 q[i].f1) ?_;unfold rB;by_cases c:(rG t l ls q[i].f0 q[i].f1).2.2.2=true
          · rw[if_pos c]
            exact jb c (ih (n+1) _ _ _ (by omega) (wi hm _ _))
          · rw[if_neg c]
            exact jW c (ih n t l ls (by omega) hm)
      have go:=key 0 (Nat.zero_le _) 0 t l ls (Nat.le_refl _) hm;rw[List.drop_zero]at go;exact Ev.step (f:=fun k=>(kp.f k t l ls).bind fun zW=>(nc.l0 k 0 q (q.length:Int) 0 zW.1 zW.2.1 zW.2.2)) (fun k=>rfl) (Ev.bind (qX t (by omega) (by omega) (fun y hy=>by have:=b3 y hy;omega)) go)
    · rw[if_neg (fun k=>xn k.2),decide_eq_true (by omega)]
      exact no
  · rw[if_neg (fun k=>hm k.1)]
    exact jW hm no
theorem wV {l m:List Int} (hn:l.length≤9223372036854775807):Ev (fun k=>ny.f k l m) (decide (l=m)):=by
  unfold ny.f;by_cases hl:l.length=m.length
  · refine jb (by omega) ?_
    have key:∀i,i≤l.length→Ev (fun k=>ny.l0 k l m (i:Int)) (decide (l.drop i=m.drop i)):=by
      apply down
      · refine Ev.step (fun k=>rfl) (jW (by omega) (oQ (Ev.now _) ?_))
        rw[List.drop_length,hl,List.drop_length,decide_eq_true rfl]
      · intro i hi ih
        have hm:i<m.length:=by omega
        refine Ev.step (fun k=>rfl) (jb (by omega) (jb (by omega) (jb (by omega) ?_)));rw[qc hi,qc hm,w1 hi hn,List.drop_eq_getElem_cons hi,List.drop_eq_getElem_cons hm];by_cases e:l[i]=m[i]
        · refine jb e (oQ ih ?_)
          exact decide_eq_decide.2 ⟨fun k=>by rw[e,k],fun k=>(List.cons.inj k).2⟩
        · refine jW e (oQ (Ev.now _) ?_)
          exact(decide_eq_false (fun k=>e (List.cons.inj k).1)).symm
    have:=key 0 (Nat.zero_le _);simpa using this
  · refine jW (by omega) (oQ (Ev.now _) ?_)
    exact(decide_eq_false (fun k=>hl (by rw[k]))).symm
theorem th {l:List Int} (hn:l.length≤9223372036854775807):Ev (fun k=>ny.f k l l) true:=oQ (wV hn) (decide_eq_true rfl)
theorem vu {l:List (List Int)} (hn:l.length≤9223372036854775807) (hl:∀y∈l,y.length≤9223372036854775807):Ev (fun k=>nW.f k l l) true:=by
  unfold nW.f;refine jb rfl ?_
  have key:∀i,i≤l.length→Ev (fun k=>nW.l0 k l l (i:Int)) true:=by
    apply down
    · exact Ev.step (fun k=>rfl) (jW (by omega) (Ev.now _))
    · intro i hi ih
      refine Ev.step (fun k=>rfl) (jb (by omega) (jb (by omega) (jb (by omega) ?_)));rw[rQ hi,w1 hi hn];exact Ev.bind (th (hl _ (List.getElem_mem hi))) (pO ih)
  exact key 0 (Nat.zero_le _)
theorem vv (t:Int) {l:List Int} {ls:List (List Int)} (hn:l.length≤9223372036854775807) (hs:ls.length≤9223372036854775807) (hl:∀y∈ls,y.length≤9223372036854775807):Ev (fun k=>oU.f k t l ls t l ls) true:=by
  unfold oU.f;exact jb rfl (Ev.bind (th hn) (pO (Ev.bind (vu hs hl) (Ev.now _))))
def plain (s:ByteArray):Bool:=(List.range s.size).all fun(j:Nat)=>decide (32≤bt s (j:Int)∧bt s (j:Int)≤126)
def plainFrom (s:ByteArray) (i:Nat):Bool:=(List.range' i (s.size - i)).all fun(j:Nat)=>decide (32≤bt s (j:Int)∧bt s (j:Int)≤126)
theorem tj (s:ByteArray):plainFrom s s.size=true:=by unfold plainFrom;rw[Nat.sub_self];rfl
theorem si (s:ByteArray) {i:Nat} (h:i<s.size):plainFrom s i=(decide (32≤bt s (i:Int)∧bt s (i:Int)≤126)&&plainFrom s (i+1)):=by
  unfold plainFrom;rw[show s.size - i=(s.size - (i+1))+1 from by omega,List.range'_succ,List.all_cons]
theorem tk (s:ByteArray):plainFrom s 0=plain s:=by
  unfold plainFrom plain;rw[Nat.sub_zero,List.range_eq_range']
theorem wW {s:ByteArray} (hs:s.size≤9223372036854775807):Ev (fun k=>nX.f k s) (plain s&&decide (s.size≠0)):=by
  unfold nX.f;rw[←tk]
  have key:∀i,i≤s.size→Ev (fun k=>nX.l0 k s (i:Int)) (plainFrom s i&&decide (s.size≠0)):=by
    apply down
    · refine Ev.step (fun k=>rfl) (jW (by omega) (oQ (Ev.now _) ?_))
      rw[tj,Bool.true_and];exact decide_eq_decide.2 (by omega)
    · intro i hi ih
      refine Ev.step (fun k=>rfl) (jb (by omega) (jb (by omega) ?_));rw[si s hi];by_cases h1:bt s (i:Int)<32
      · rw[decide_eq_false (by omega)]
        exact jb h1 (Ev.now _)
      · by_cases h2:bt s (i:Int)>126
        · rw[decide_eq_false (by omega)]
          exact jW h1 (jb h2 (Ev.now _))
        · rw[decide_eq_true (by omega),w1 hi hs]
          exact jW h1 (jW h2 ih)
  exact key 0 (Nat.zero_le _)
theorem uW {s:ByteArray} (hs:s.size≤9223372036854775807):Ev (fun k=>nI.f k s) (plain s):=by
  unfold nI.f;rw[←tk]
  have key:∀i,i≤s.size→Ev (fun k=>nI.l0 k s (s.size:Int) (i:Int)) (plainFrom s i):=by
    apply down
    · refine Ev.step (fun k=>rfl) (jW (by omega) (oQ (Ev.now _) ?_))
      rw[tj]
    · intro i hi ih
      refine Ev.step (fun k=>rfl) (jb (by omega) (jb (by omega) (jb (by omega) ?_)));rw[si s hi];by_cases h1:bt s (i:Int)<32
      · rw[decide_eq_false (by omega)]
        exact jb h1 (Ev.now _)
      · by_cases h2:bt s (i:Int)>126
        · rw[decide_eq_false (by omega)]
          exact jW h1 (jb h2 (Ev.now _))
        · rw[decide_eq_true (by omega),w1 hi hs]
          exact jW h1 (jW h2 ih)
  exact key 0 (Nat.zero_le _)
def uX:ByteArray:=⟨#[102,105,114,115,116,32]⟩
def zX:ByteArray:=⟨#[97,108,108,32]⟩
def yA:ByteArray:=⟨#[98,97,99,107]⟩
def oY (kind:Int) (s:ByteArray):ByteArray:=
  if kind=2∧s.size=0 then yA else if plain s=true∧s.size≠0 then(if kind=0 then uX++s else if kind=1 then zX++s else⟨#[]⟩)else⟨#[]⟩
theorem uF (kind:Int) (s:ByteArray):(kind==2&&(s.toList==([]:List UInt8)))=true↔kind=2∧s.size=0:=by
  rw[Bool.and_eq_true,beq_iff_eq,beq_iff_eq,rv]
theorem yW (s:ByteArray):((⟨#[102,105,114,115,116]⟩:ByteArray)++(⟨#[32]⟩:ByteArray))++s=uX++s:=by congr 1
theorem AK (s:ByteArray):((⟨#[97,108,108]⟩:ByteArray)++(⟨#[32]⟩:ByteArray))++s=zX++s:=by congr 1
theorem qO (kind:Int) {s:ByteArray} (hs:s.size≤9223372036854775000):Ev (fun k=>kV.f k kind s) (oY kind s):=by
  unfold kV.f oY;refine nt (qI _ _ _) ?_
  have off:(¬(plain s=true∧s.size≠0)∨(kind≠0∧kind≠1))→Ev (fun k=>kV.j0 k false kind s) (if kind=2∧s.size=0 then yA else if plain s=true∧s.size≠0 then(if kind=0 then uX++s else if kind=1 then zX++s else⟨#[]⟩)else⟨#[]⟩):=by
    intro h;refine Ev.step (fun k=>rfl) ?_;simp only[kV.j0];refine jW Bool.false_ne_true ?_;by_cases h2:kind=2∧s.size=0
    · rw[if_pos h2]
      exact jb ((uF kind s).2 h2) (Ev.now _)
    · rw[if_neg h2]
      refine jW (fun x=>h2 ((uF kind s).1 x)) (oQ (Ev.now _) ?_);rcases h with h|h
      · rw[if_neg h]
      · rw[if_neg h.1,if_neg h.2,ite_self]
  by_cases h:0≤kind∧kind≤1
  · refine jb (decide_eq_true h) (Ev.bind (wW (by omega)) ?_)
    by_cases hp:plain s=true∧s.size≠0
    · rw[hp.1,decide_eq_true hp.2,if_neg (by omega),if_pos ⟨rfl,hp.2⟩]
      refine Ev.step (fun k=>rfl) ?_;simp only[kV.j0];have hk:kind=0∨kind=1:=by omega
      rcases hk with rfl|rfl
      · exact jb rfl (nt rfl (jb (by omega) (jb (by decide) (jb (by decide) (jb (by rw[ByteArray.size_append];show 6+s.size≤_;omega) (oQ (Ev.now _) (yW s)))))))
      · exact jb rfl (nt rfl (jb (by omega) (jb (by decide) (jb (by decide) (jb (by rw[ByteArray.size_append];show 4+s.size≤_;omega) (oQ (Ev.now _) (AK s)))))))
    · have e:(plain s&&decide (s.size≠0))=false:=by
        rw[Bool.eq_false_iff];intro x;rw[Bool.and_eq_true,decide_eq_true_iff]at x;exact hp x
      rw[e];exact off (Or.inl hp)
  · exact jW (by rw[decide_eq_false h];decide) (off (Or.inr (by omega)))
theorem pz (kind:Int) {s:ByteArray} (hs:s.size≤9223372036854775000):Ev (fun k=>ng.f k kind s) (oY kind s):=by
  unfold ng.f oY;by_cases h2:kind=2∧s.size=0
  · rw[if_pos h2]
    exact jb ((uF kind s).2 h2) (Ev.now _)
  rw[if_neg h2];refine jW (fun x=>h2 ((uF kind s).1 x)) ?_;by_cases h0:s.size=0
  · rw[if_neg (fun x=>x.2 h0)]
    refine jb ((rv s).2 h0) (Ev.step (fun k=>rfl) ?_);simp only[ng.j0];exact jb trivial (Ev.now _)
  · refine jW (fun x=>h0 ((rv s).1 x)) (Ev.bind (uW (by omega)) ?_)
    cases hp:plain s with
    |false=>
      rw[if_neg (fun x=>Bool.false_ne_true x.1)];refine Ev.step (fun k=>rfl) ?_;simp only[ng.j0,Bool.not_false];exact jb trivial (Ev.now _)
    |true=>
      rw[if_pos ⟨rfl,h0⟩];refine Ev.step (fun k=>rfl) ?_;simp only[ng.j0,Bool.not_true];refine jW Bool.false_ne_true ?_;by_cases k0:kind=0
      · exact jb k0 (jb (by omega) (oQ (Ev.now _) (if_pos k0).symm))
      · refine jW k0 ?_
        by_cases k1:kind=1
        · exact jb k1 (jb (by omega) (oQ (Ev.now _) ((if_neg k0).trans (if_pos k1)).symm))
        · exact jW k1 (oQ (Ev.now _) ((if_neg k0).trans (if_neg k1)).symm)
theorem nB (s:ByteArray):s.toList.length=s.size:=by rw[toList_data,Array.length_toList];rfl
theorem qf (a b:ByteArray):(a++b).toList=a.toList++b.toList:=by
  rw[toList_data,toList_data,toList_data,ByteArray.data_append,Array.toList_append]
theorem qu (s:ByteArray) (i j:Nat):(s.extract i j).toList=(s.toList.drop i).take (j - i):=by
  rw[toList_data,toList_data,ByteArray.data_extract,Array.toList_extract,List.extract_eq_take_drop]
theorem qj (s:ByteArray) (i:Nat):(s.extract i s.size).toList=s.toList.drop i:=by
  rw[qu];apply List.take_of_length_le;rw[List.length_drop,nB];omega
theorem rH (l:List UInt8):(⟨l.toArray⟩:ByteArray).toList=l:=by rw[toList_data]
theorem AL (s:ByteArray) {i:Nat} (h:i<s.size):bt s (i:Int)=((s.toList[i]'(by rw[nB];exact h)).toNat:Int):=by
  have h2:=bt_at s (i:Int) (by simpa using h);rw[←h2];simp only[toList_data];rfl
theorem uo (l:List UInt8) (c:UInt8):(Lib.indexByte l c= -1∧c∉l)∨∃(a b:List UInt8),l=a++c::b∧c∉a∧Lib.indexByte l c=(a.length:Int):=by
  induction l with
  |nil=>exact Or.inl ⟨rfl,by simp⟩
  |cons x l ih=>
    unfold Lib.indexByte;by_cases hx:(x==c)=true
    · rw[if_pos hx]
      exact Or.inr ⟨[],l,by rw[beq_iff_eq.1 hx];rfl,by simp,rfl⟩
    · rw[if_neg hx]
      have DX:c≠x:=fun e=>hx (by rw[e];exact beq_self_eq_true x)
      rcases ih with⟨h1,h2⟩|⟨a,b,h1,h2,h3⟩
      · rw[h1,if_pos (by decide)]
        exact Or.inl ⟨rfl,by rw[List.mem_cons];rintro(h|h);exact DX h;exact h2 h⟩
      · rw[h3,if_neg (by rw[beq_iff_eq];omega)]
        exact Or.inr ⟨x::a,b,by rw[h1];rfl,by rw[List.mem_cons];rintro(h|h);exact DX h;exact h2 h,by rw[List.length_cons];omega⟩
theorem tX (s:ByteArray) (c:UInt8) (hs:s.size<9223372036854775807):
    (strings_Cut.f s ⟨#[c]⟩=some (s,(⟨#[]⟩:ByteArray),false)∧c∉s.toList)∨
    ∃a b:ByteArray,strings_Cut.f s ⟨#[c]⟩=some (a,b,true)∧s.toList=a.toList++c::b.toList∧c∉a.toList:=by
  have hbt:bt (⟨#[c]⟩:ByteArray) 0=(c.toNat:Int):=rfl
  have key:∀i:Int,stringslite_Index.f s ⟨#[c]⟩=some i→i=Lib.indexByte s.toList c→((strings_Cut.f s ⟨#[c]⟩=some (s,(⟨#[]⟩:ByteArray),false)∧c∉s.toList)∨
    ∃a b:ByteArray,strings_Cut.f s ⟨#[c]⟩=some (a,b,true)∧s.toList=a.toList++c::b.toList∧c∉a.toList):=by
    intro i hi hv;unfold strings_Cut.f stringslite_Cut.f;rw[hi,Option.bind_some];rcases uo s.toList c with⟨h1,h2⟩|⟨a,b,h1,h2,h3⟩
    · rw[hv,h1,if_pos (by decide)]
      exact Or.inl ⟨rfl,h2⟩
    · have hl:a.length+(b.length+1)=s.size:=by rw[←nB,h1,List.length_append,List.length_cons]
      rw[hv,h3,if_neg (by omega),Int.toNat_natCast,if_pos (by show a.length+1≤s.size;omega)];refine Or.inr ⟨_,_,rfl,?_,?_⟩
      · rw[qu,List.drop_zero,Nat.sub_zero,qj,h1,List.take_left]
        congr 1
        show c::b=c::(a++c::b).drop (a.length+1)
        rw[List.drop_append,List.drop_of_length_le (by omega),show a.length+1 - a.length=1 from by omega];rfl
      · rw[qu,List.drop_zero,Nat.sub_zero,h1,List.take_left]
        exact h2
  unfold stringslite_Index.f at key;rw[if_pos (show(⟨#[c]⟩:ByteArray).size=1 from rfl),if_pos hs]at key;by_cases he:((⟨#[c]⟩:ByteArray).toList==s.toList)=true
  · rw[if_pos he]at key
    refine key 0 rfl ?_;have:s.toList= [c]:=by rw[←beq_iff_eq.1 he];exact rH [c]
    rw[this]
    show(0:Int)=if c==c then 0 else _
    rw[if_pos (beq_self_eq_true c)]
  · rw[if_neg he]at key
    refine key _ rfl ?_
    show Lib.indexByte s.data.toList ((bt (⟨#[c]⟩:ByteArray) 0).toNat.toUInt8)=_
    rw[hbt,Int.toNat_natCast,toList_data];congr 1;simp
def pR (s:ByteArray):Int×ByteArray×Bool:=
  if s.toList= [98,97,99,107]then(2,(⟨#[]⟩:ByteArray),true)
  else if[102,105,114,115,116,32]<+:s.toList∧plain (s.extract 6 s.size)=true∧6<s.size then(0,s.extract 6 s.size,true)
  else if[97,108,108,32]<+:s.toList∧plain (s.extract 4 s.size)=true∧4<s.size then(1,s.extract 4 s.size,true)
  else(0,(⟨#[]⟩:ByteArray),false)
theorem vI:yA.toList= [98,97,99,107]:=by decide+kernel
theorem uY:uX.toList= [102,105,114,115,116,32]:=by decide+kernel
theorem wX:zX.toList= [97,108,108,32]:=by decide+kernel
theorem qK:(⟨#[]⟩:ByteArray).toList= []:=by decide+kernel
theorem uZ {p:List UInt8} {s:ByteArray} (h:p<+:s.toList):s.toList=p++(s.extract p.length s.size).toList:=by
  obtain⟨t,ht⟩:=h;rw[qj,←ht,List.drop_left]
theorem extract_size (s:ByteArray) {i:Nat} (_:i≤s.size):(s.extract i s.size).size=s.size - i:=by rw[←nB,qj,List.length_drop,nB]
theorem tm (s t:ByteArray):(oY 0 t).toList=s.toList↔(s.toList= [102,105,114,115,116,32]++t.toList∧plain t=true∧t.size≠0)∨(¬(plain t=true∧t.size≠0)∧s.toList= []):=by
  unfold oY;rw[if_neg (by omega)];by_cases h:plain t=true∧t.size≠0
  · rw[if_pos h,if_pos rfl,qf,uY]
    exact⟨fun k=>Or.inl ⟨k.symm,h⟩,fun k=>k.elim (fun k=>k.1.symm) (fun k=>absurd h k.1)⟩
  · rw[if_neg h,qK]
    exact⟨fun k=>Or.inr ⟨h,k.symm⟩,fun k=>k.elim (fun k=>absurd k.2 h) (fun k=>k.2.symm)⟩
theorem tY (s t:ByteArray):(oY 1 t).toList=s.toList↔(s.toList= [97,108,108,32]++t.toList∧plain t=true∧t.size≠0)∨(¬(plain t=true∧t.size≠0)∧s.toList= []):=by
  unfold oY;rw[if_neg (by omega)];by_cases h:plain t=true∧t.size≠0
  · rw[if_pos h,if_neg (by omega),if_pos rfl,qf,wX]
    exact⟨fun k=>Or.inl ⟨k.symm,h⟩,fun k=>k.elim (fun k=>k.1.symm) (fun k=>absurd h k.1)⟩
  · rw[if_neg h,qK]
    exact⟨fun k=>Or.inr ⟨h,k.symm⟩,fun k=>k.elim (fun k=>absurd k.2 h) (fun k=>k.2.symm)⟩
theorem sk {s t:ByteArray} (h:s.toList= [102,105,114,115,116,32]++t.toList) (hp:plain t=true) (h0:t.size≠0):pR s=(0,t,true):=by
  have e:s.extract 6 s.size=t:=ext_list (by rw[qj,h];rfl);have hl:s.size=6+t.size:=by rw[←nB,h,List.length_append,nB];rfl
  unfold pR;rw[if_neg (by rw[h];intro k;injection k with k _;exact absurd k (by decide)),if_pos ⟨⟨t.toList,h.symm⟩,by rw[e];exact hp,by omega⟩,e]
theorem tZ {s t:ByteArray} (h:s.toList= [97,108,108,32]++t.toList) (hp:plain t=true) (h0:t.size≠0):pR s=(1,t,true):=by
  have e:s.extract 4 s.size=t:=ext_list (by rw[qj,h];rfl);have hl:s.size=4+t.size:=by rw[←nB,h,List.length_append,nB];rfl
  unfold pR
  rw[if_neg (by rw[h];intro k;injection k with k _;exact absurd k (by decide)),
    if_neg (fun k=>by obtain⟨⟨u,hu⟩,_⟩:=k;rw[h]at hu;injection hu with hu _;exact absurd hu (by decide)),
    if_pos ⟨⟨t.toList,h.symm⟩,by rw[e];exact hp,by omega⟩,e]
theorem tn {s:ByteArray} (h:s.toList= [98,97,99,107]):pR s=(2,(⟨#[]⟩:ByteArray),true):=by unfold pR;rw[if_pos h]
theorem qp {s:ByteArray} (h1:s.toList≠ [98,97,99,107]) (h2:∀t:ByteArray,s.toList= [102,105,114,115,116,32]++t.toList→¬(plain t=true∧t.size≠0))
    (h3:∀t:ByteArray,s.toList= [97,108,108,32]++t.toList→¬(plain t=true∧t.size≠0)):pR s=(0,(⟨#[]⟩:ByteArray),false):=by
  unfold pR
  rw[if_neg h1,if_neg (fun k=>h2 _ (uZ k.1) ⟨k.2.1,by show(s.extract 6 s.size).size≠0;rw[extract_size s (by omega)];omega⟩),
    if_neg (fun k=>h3 _ (uZ k.1) ⟨k.2.1,by show(s.extract 4 s.size).size≠0;rw[extract_size s (by omega)];omega⟩)]
theorem ug (s:ByteArray):(s.toList= [98,97,99,107]∧pR s=(2,(⟨#[]⟩:ByteArray),true))∨
    (∃t:ByteArray,s.toList= [102,105,114,115,116,32]++t.toList∧plain t=true∧t.size≠0∧pR s=(0,t,true))∨
    (∃t:ByteArray,s.toList= [97,108,108,32]++t.toList∧plain t=true∧t.size≠0∧pR s=(1,t,true))∨
    (s.toList≠ [98,97,99,107]∧(∀t:ByteArray,s.toList= [102,105,114,115,116,32]++t.toList→¬(plain t=true∧t.size≠0))∧(∀t:ByteArray,s.toList= [97,108,108,32]++t.toList→¬(plain t=true∧t.size≠0))∧pR s=(0,(⟨#[]⟩:ByteArray),false)):=by
  by_cases h1:s.toList= [98,97,99,107]
  · exact Or.inl ⟨h1,tn h1⟩
  by_cases h2:∃t:ByteArray,s.toList= [102,105,114,115,116,32]++t.toList∧plain t=true∧t.size≠0
  · obtain⟨t,a,b,c⟩:=h2
    exact Or.inr (Or.inl ⟨t,a,b,c,sk a b c⟩)
  by_cases h3:∃t:ByteArray,s.toList= [97,108,108,32]++t.toList∧plain t=true∧t.size≠0
  · obtain⟨t,a,b,c⟩:=h3
    exact Or.inr (Or.inr (Or.inl ⟨t,a,b,c,tZ a b c⟩))
  have k2:∀t:ByteArray,s.toList= [102,105,114,115,116,32]++t.toList→¬(plain t=true∧t.size≠0):=fun t a b=>h2 ⟨t,a,b⟩
  have k3:∀t:ByteArray,s.toList= [97,108,108,32]++t.toList→¬(plain t=true∧t.size≠0):=fun t a b=>h3 ⟨t,a,b⟩
  exact Or.inr (Or.inr (Or.inr ⟨h1,k2,k3,qp h1 k2 k3⟩))
theorem tp {c:UInt8}:∀{a a' b b':List UInt8},c∉a→c∉a'→a++c::b=a'++c::b'→a=a'
  | [],[],_,_,_,_,_=>rfl
  | [],y::a',_,_,_,h2,e=>by injection e with e _;exact absurd (by rw[e];exact List.mem_cons_self) h2
  |x::a,[],_,_,h1,_,e=>by injection e with e _;exact absurd (by rw[←e];exact List.mem_cons_self) h1
  |x::a,y::a',_,_,h1,h2,e=>by
    injection e with e1 e2
    rw[e1,tp (fun k=>h1 (List.mem_cons_of_mem _ k)) (fun k=>h2 (List.mem_cons_of_mem _ k)) e2]
theorem vk (t:ByteArray) (h:t.size=0):(oY 2 t).toList= [98,97,99,107]:=by unfold oY;rw[if_pos ⟨rfl,h⟩,vI]
theorem AM (t:ByteArray) (h:t.size≠0):(oY 2 t).toList= []:=by
  unfold oY;rw[if_neg (fun k=>h k.2)];split
  · rw[if_neg (by omega),if_neg (by omega),qK]
  · exact qK
theorem qP {s:ByteArray} (hs:s.size≤9223372036854774000):Ev (fun k=>oF.f k s) (pR s):=by
  unfold oF.f;rcases tX s 32 (by omega)with⟨hc,hn⟩|⟨a,b,hc,hl,hn⟩
  · refine nt hc ?_
    show Ev (fun k=>if s.toList=_ then _ else _) _
    have n1:∀t:ByteArray,s.toList≠ [102,105,114,115,116,32]++t.toList:=fun t e=>hn (by rw[e];simp)
    have n2:∀t:ByteArray,s.toList≠ [97,108,108,32]++t.toList:=fun t e=>hn (by rw[e];simp)
    by_cases h1:s.toList= [102,105,114,115,116]
    · refine jb h1 (Ev.bind (pz 0 (s:=⟨#[]⟩) (by decide)) (jW ?_ ?_))
      · show¬(oY 0 (⟨#[]⟩:ByteArray)).toList=s.toList
        rw[tm];rintro(⟨e,_⟩|⟨_,e⟩)
        · exact n1 _ e
        · rw[h1]at e;cases e
      · rw[qp (by rw[h1];decide) (fun t e=>absurd e (n1 t)) (fun t e=>absurd e (n2 t))]
        exact Ev.now _
    refine jW h1 ?_;by_cases h2:s.toList= [97,108,108]
    · refine jb h2 (Ev.bind (pz 1 (s:=⟨#[]⟩) (by decide)) (jW ?_ ?_))
      · show¬(oY 1 (⟨#[]⟩:ByteArray)).toList=s.toList
        rw[tY];rintro(⟨e,_⟩|⟨_,e⟩)
        · exact n2 _ e
        · rw[h2]at e;cases e
      · rw[qp (by rw[h2];decide) (fun t e=>absurd e (n1 t)) (fun t e=>absurd e (n2 t))]
        exact Ev.now _
    refine jW h2 ?_;by_cases h3:s.toList= [98,97,99,107]
    · refine jb h3 (Ev.bind (pz 2 (s:=⟨#[]⟩) (by decide)) (jb ?_ ?_))
      · show(oY 2 (⟨#[]⟩:ByteArray)).toList=s.toList
        rw[vk _ rfl,h3]
      · rw[tn h3]
        exact Ev.now _
    refine jW h3 ?_;rw[qp h3 (fun t e=>absurd e (n1 t)) (fun t e=>absurd e (n2 t))];exact Ev.now _
  · refine nt hc ?_
    show Ev (fun k=>if a.toList=_ then _ else _) _
    have hbs:b.size≤9223372036854775000:=by
      have:=congrArg List.length hl;rw[List.length_append,List.length_cons,nB,nB,nB]at this;omega
    have nb:s.toList≠ [98,97,99,107]:=fun e=>by
      have:(32:UInt8)∈s.toList:=by rw[hl];simp
      rw[e]at this;revert this;decide
    by_cases h1:a.toList= [102,105,114,115,116]
    · have hl1:s.toList= [102,105,114,115,116,32]++b.toList:=by rw[hl,h1];rfl
      refine jb h1 (Ev.bind (pz 0 hbs) ?_);by_cases hp:plain b=true∧b.size≠0
      · rw[sk hl1 hp.1 hp.2]
        exact jb ((tm s b).2 (Or.inl ⟨hl1,hp⟩)) (Ev.now _)
      · refine jW (fun k=>?_) ?_
        · rcases(tm s b).1 k with k|k
          · exact hp k.2
          · rw[hl1]at k;cases k.2
        · rw[qp nb (fun t e k=>hp (by
            have:t=b:=ext_list (List.append_cancel_left (e.symm.trans hl1));rwa [this]at k)) (fun t e=>by rw[hl1]at e;injection e with e _;exact absurd e (by decide))]
          exact Ev.now _
    refine jW h1 ?_;by_cases h2:a.toList= [97,108,108]
    · have hl1:s.toList= [97,108,108,32]++b.toList:=by rw[hl,h2];rfl
      refine jb h2 (Ev.bind (pz 1 hbs) ?_);by_cases hp:plain b=true∧b.size≠0
      · rw[tZ hl1 hp.1 hp.2]
        exact jb ((tY s b).2 (Or.inl ⟨hl1,hp⟩)) (Ev.now _)
      · refine jW (fun k=>?_) ?_
        · rcases(tY s b).1 k with k|k
          · exact hp k.2
          · rw[hl1]at k;cases k.2
        · rw[qp nb (fun t e=>by rw[hl1]at e;injection e with e _;exact absurd e (by decide)) (fun t e k=>hp (by
            have:t=b:=ext_list (List.append_cancel_left (e.symm.trans hl1));rwa [this]at k))]
          exact Ev.now _
    refine jW h2 ?_
    have n1:∀t:ByteArray,s.toList≠ [102,105,114,115,116,32]++t.toList:=fun t e=>by
      have e2:a.toList++32::b.toList= [102,105,114,115,116]++32::t.toList:=hl.symm.trans e;exact h1 (tp hn (by decide) e2)
    have n2:∀t:ByteArray,s.toList≠ [97,108,108,32]++t.toList:=fun t e=>by
      have e2:a.toList++32::b.toList= [97,108,108]++32::t.toList:=hl.symm.trans e;exact h2 (tp hn (by decide) e2)
    by_cases h3:a.toList= [98,97,99,107]
    · refine jb h3 (Ev.bind (pz 2 hbs) (jW (fun k=>?_) ?_))
      · have hk:(oY 2 b).toList=s.toList:=k
        by_cases hb0:b.size=0
        · rw[vk b hb0]at hk;exact nb hk.symm
        · rw[AM b hb0,hl]at hk;simp at hk
      · rw[qp nb (fun t e=>absurd e (n1 t)) (fun t e=>absurd e (n2 t))]
        exact Ev.now _
    refine jW h3 ?_;rw[qp nb (fun t e=>absurd e (n1 t)) (fun t e=>absurd e (n2 t))];exact Ev.now _
def qv (s:ByteArray):List oK→Int×ByteArray×Bool
  | []=>(0,(⟨#[]⟩:ByteArray),false)
  |x::t=>if s.toList≠ []∧(oY x.f0 x.f1).toList=s.toList then(x.f0,x.f1,true)else qv s t
theorem zY (s:ByteArray) {L:List oK} (hL:L.length≤1000) (hs:∀x∈L,x.f1.size≤9223372036854774000):
    ∀i,i≤L.length→Ev (fun k=>kt.l0 k s L (i:Int)) (qv s (L.drop i)):=by
  apply down
  · rw[List.drop_length]
    exact Ev.step (fun k=>rfl) (jW (by omega) (Ev.now _))
  · intro i hi ih
    rw[List.drop_eq_getElem_cons hi];refine Ev.step (fun k=>rfl) (jb (by omega) ?_);by_cases h0:s.toList= []
    · refine jb h0 ?_
      rw[w1 hi (by omega)];unfold qv;rw[if_neg (fun k=>k.1 h0)];exact ih
    · refine jW h0 (jb (by omega) ?_)
      rw[rR hi];refine Ev.bind (qO _ (s:=L[i].f1) (by have:=hs _ (List.getElem_mem hi);omega)) ?_;unfold qv;by_cases hd:(oY L[i].f0 L[i].f1).toList=s.toList
      · rw[if_pos ⟨h0,hd⟩]
        exact jb hd (Ev.now _)
      · rw[if_neg (fun k=>hd k.2),w1 hi (by omega)]
        exact jW hd ih
def yB (s:ByteArray):List oK:=(⟨2,(⟨#[]⟩:ByteArray)⟩:oK)::((if 6<s.size then[(⟨0,s.extract 6 s.size⟩:oK)]else[])++(if 4<s.size then[(⟨1,s.extract 4 s.size⟩:oK)]else[]))
theorem wY (s:ByteArray):qv s (yB s)=pR s:=by
  have f0:∀L:List oK,(∀x∈L,s.toList= []∨(oY x.f0 x.f1).toList≠s.toList)→qv s L=(0,(⟨#[]⟩:ByteArray),false):=by
    intro L h;induction L with
    |nil=>rfl
    |cons x t ih=>
      unfold qv;rw[if_neg (fun k=>by rcases h x List.mem_cons_self with h|h;exact k.1 h;exact h k.2)];exact ih (fun y hy=>h y (List.mem_cons_of_mem _ hy))
  have fb:s.toList≠ [98,97,99,107]→qv s (yB s)=qv s ((if 6<s.size then[(⟨0,s.extract 6 s.size⟩:oK)]else[])++(if 4<s.size then[(⟨1,s.extract 4 s.size⟩:oK)]else[])):=by
    intro h
    show(if _ then _ else _)=_
    rw[if_neg (fun k=>h (by rw[←k.2];exact vk _ rfl))]
  rcases ug s with⟨h,e⟩|⟨t,h,hp,h0,e⟩|⟨t,h,hp,h0,e⟩|⟨h1,h2,h3,e⟩
  · rw[e]
    show(if _ then _ else _)=_
    rw[if_pos ⟨by rw[h];decide,by rw[h];exact vk _ rfl⟩]
  · have hl:s.size=6+t.size:=by rw[←nB,h,List.length_append,nB];rfl
    have ex:s.extract 6 s.size=t:=ext_list (by rw[qj,h];rfl);rw[e,fb (by rw[h];intro k;injection k with k _;exact absurd k (by decide)),if_pos (by omega),ex]
    show(if _ then _ else _)=_
    rw[if_pos ⟨by rw[h];simp,(tm s t).2 (Or.inl ⟨h,hp,h0⟩)⟩]
  · have hl:s.size=4+t.size:=by rw[←nB,h,List.length_append,nB];rfl
    have ex:s.extract 4 s.size=t:=ext_list (by rw[qj,h];rfl)
    have n6:qv s ((if 6<s.size then[(⟨0,s.extract 6 s.size⟩:oK)]else[])++ [(⟨1,t⟩:oK)])=qv s [(⟨1,t⟩:oK)]:=by
      by_cases c:6<s.size
      · rw[if_pos c]
        show(if _ then _ else _)=_
        rw[if_neg (fun k=>by
          rcases(tm s _).1 k.2 with⟨k,_⟩|⟨_,k⟩
          · rw[h]at k;injection k with k _;exact absurd k (by decide)
          · rw[h]at k;simp at k)]
        rfl
      · rw[if_neg c];rfl
    rw[e,fb (by rw[h];intro k;injection k with k _;exact absurd k (by decide)),if_pos (c:=4<s.size) (by omega),ex,n6]
    show(if _ then _ else _)=_
    rw[if_pos ⟨by rw[h];simp,(tY s t).2 (Or.inl ⟨h,hp,h0⟩)⟩]
  · rw[e,fb h1]
    apply f0;intro x hx;by_cases hs0:s.toList= []
    · exact Or.inl hs0
    refine Or.inr fun k=>?_
    rcases List.mem_append.1 hx with hx|hx
    · by_cases c:6<s.size
      · rw[if_pos c]at hx
        rw[List.mem_singleton.1 hx]at k;rcases(tm s _).1 k with⟨k,k2⟩|⟨_,k⟩
        · exact h2 _ k k2
        · exact hs0 k
      · rw[if_neg c]at hx;simp at hx
    · by_cases c:4<s.size
      · rw[if_pos c]at hx
        rw[List.mem_singleton.1 hx]at k;rcases(tY s _).1 k with⟨k,k2⟩|⟨_,k⟩
        · exact h3 _ k k2
        · exact hs0 k
      · rw[if_neg c]at hx;simp at hx
theorem ua {s:ByteArray} (hs:s.size≤9223372036854774000):Ev (fun k=>kt.f k s) (pR s):=by
  have hx:∀i:Nat,(s.extract i s.size).size≤9223372036854774000:=fun i=>by rw[←nB,qj,List.length_drop,nB];omega
  rw[←wY]
  have fin:∀L:List oK,L.length≤1000→(∀x∈L,x.f1.size≤9223372036854774000)→Ev (fun k=>kt.j1 k s L) (qv s L):=by
    intro L h1 h2;refine Ev.step (fun k=>rfl) ?_;simp only[kt.j1];exact zY s h1 h2 0 (Nat.zero_le _)
  unfold kt.f;refine nt rfl ?_
  have go:∀L:List oK,L.length≤900→(∀x∈L,x.f1.size≤9223372036854774000)→Ev (fun k=>kt.j0 k s L) (qv s (L++(if 4<s.size then[(⟨1,s.extract 4 s.size⟩:oK)]else[]))):=by
    intro L h1 h2;refine Ev.step (fun k=>rfl) ?_;simp only[kt.j0];by_cases c:4<s.size
    · rw[if_pos c]
      refine jb (by omega) (jb (by omega) (jb (by omega) (fin _ (by rw[List.length_append];exact Nat.add_le_add h1 (by decide:1≤100)) ?_)));intro x hm;rcases List.mem_append.1 hm with hm|hm
      · exact h2 x hm
      · rw[List.mem_singleton.1 hm];exact hx 4
    · rw[if_neg c,List.append_nil]
      exact jW (by omega) (fin _ (by omega) h2)
  by_cases c:6<s.size
  · refine jb (by omega) (jb (by omega) (jb (by decide) ?_))
    have:=go ([(⟨2,(⟨#[]⟩:ByteArray)⟩:oK)]++ [(⟨0,s.extract 6 s.size⟩:oK)]) (by simp) (by
      intro x hm;rcases List.mem_append.1 hm with hm|hm
      · rw[List.mem_singleton.1 hm];exact(by decide:(0:Nat)≤9223372036854774000)
      · rw[List.mem_singleton.1 hm];exact hx 6)
    unfold yB;rw[if_pos c];exact this
  · refine jW (by omega) ?_
    have:=go [(⟨2,(⟨#[]⟩:ByteArray)⟩:oK)] (by decide) (by
      intro x hm;rw[List.mem_singleton.1 hm];exact(by decide:(0:Nat)≤9223372036854774000))
    unfold yB;rw[if_neg c,List.nil_append];exact this
def ox (l:List UInt8):List UInt8:=l.takeWhile (· !=10)
def sl:Nat→List UInt8→List oK×Nat
  |0,_=>([],0)
  |n+1,l=>
    if(ox l).length=l.length then([],0)
    else if(pR ⟨(ox l).toArray⟩).2.2=true then
      ((⟨(pR ⟨(ox l).toArray⟩).1,(pR ⟨(ox l).toArray⟩).2.1⟩:oK)::(sl n (l.drop ((ox l).length+1))).1,(ox l).length+1+(sl n (l.drop ((ox l).length+1))).2)
    else([],0)
theorem tq {a b:List UInt8} (h:(10:UInt8)∉a):ox (a++10::b)=a:=by
  unfold ox;rw[List.takeWhile_append_of_pos (fun x hx=>by simp;rintro rfl;exact h hx)];simp
theorem vl {a:List UInt8} (h:(10:UInt8)∉a):ox a=a:=by
  unfold ox;induction a with
  |nil=>rfl
  |cons x a ih=>
    rw[List.takeWhile_cons,if_pos (by simp;rintro rfl;exact h List.mem_cons_self),ih (fun k=>h (List.mem_cons_of_mem _ k))]
theorem tH:∀(n:Nat) (l:List UInt8),(sl n l).2≤l.length∧(sl n l).1.length≤(sl n l).2
  |0,_=>⟨Nat.zero_le _,Nat.le_refl _⟩
  |n+1,l=>by
    have ih:=tH n (l.drop ((ox l).length+1))
    have hle:(ox l).length≤l.length:=(List.takeWhile_prefix _).length_le
    rw[List.length_drop]at ih
    unfold sl
    split
    · exact⟨Nat.zero_le _,Nat.le_refl _⟩
    · split
      · rename_i h _
        show _+1+_≤_∧_+1≤_+1+_
        omega
      · exact⟨Nat.zero_le _,Nat.le_refl _⟩
theorem yC {s:ByteArray} (hs:s.size≤1048576):∀(n p:Nat) (acc:List oK),s.size - p<n→p≤s.size→acc.length≤p→
    Ev (fun k=>nw.l0 k s acc (p:Int)) (acc++(sl n (s.toList.drop p)).1,((p+(sl n (s.toList.drop p)).2:Nat):Int))
  |0,p,acc,h,_,_=>by omega
  |n+1,p,acc,h,hp,ha=>by
    have hex:(s.extract p s.size).toList=s.toList.drop p:=qj s p
    have hsz:(s.extract p s.size).size=s.size - p:=extract_size s hp
    refine Ev.step (fun k=>rfl) (jb (by omega) (jb (by omega) ?_))
    rw[Int.toNat_natCast]
    rcases tX (s.extract p s.size) 10 (by omega)with⟨hc,hn⟩|⟨a,b,hc,hl,hn⟩
    · refine nt hc (Ev.bind (qP (s:=s.extract p s.size) (by omega)) (jW (by simp) (oQ (Ev.now _) ?_)))
      have:sl (n+1) (s.toList.drop p)=([],0):=by
        unfold sl;rw[←hex,vl hn,if_pos rfl]
      rw[this,List.append_nil];rfl
    · have hl':s.toList.drop p=a.toList++10::b.toList:=hex.symm.trans hl
      have has:a.size+(b.size+1)=s.size - p:=by
        have:=congrArg List.length hl;rw[List.length_append,List.length_cons,nB,nB,nB]at this;omega
      have hln:ox (s.toList.drop p)=a.toList:=by rw[hl'];exact tq hn
      have DF:(⟨(ox (s.toList.drop p)).toArray⟩:ByteArray)=a:=ext_list (by rw[rH,hln]);have hlen:¬(ox (s.toList.drop p)).length=(s.toList.drop p).length:=by rw[hln,nB,List.length_drop,nB];omega
      have BB:(ox (s.toList.drop p)).length=a.size:=by rw[hln,nB]
      refine nt hc (Ev.bind (qP (s:=a) (by omega)) (jb rfl ?_));unfold sl;rw[if_neg hlen,DF,BB];by_cases hd:(pR a).2.2=true
      · rw[if_pos hd]
        have ih:=yC hs n (p+(a.size+1)) (acc++ [(⟨(pR a).1,(pR a).2.1⟩:oK)]) (by omega) (by omega) (by rw[List.length_append];show _+1≤_;omega);refine jb hd (jb (by omega) ?_)
        have e:wrap64 ((p:Int)+wrap64 ((a.size:Int)+1))=((p+(a.size+1):Nat):Int):=by
          rw[qZ (n:=(a.size:Int)+1) (by omega) (by omega),qZ (by omega) (by omega)];omega
        rw[e,List.drop_drop];refine oQ ih ?_;rw[List.append_assoc];simp only[List.singleton_append,Prod.mk.injEq,true_and];omega
      · rw[if_neg hd]
        refine jW hd (oQ (Ev.now _) ?_);rw[List.append_nil];rfl
def rj (s:ByteArray):List oK×Int:=((sl (s.size+1) s.toList).1,((sl (s.size+1) s.toList).2:Int))
theorem rf {s:ByteArray} (hs:s.size≤1048576):Ev (fun k=>nw.f k s) (rj s):=by
  have:=yC hs (s.size+1) 0 [] (by omega) (by omega) (by simp);rw[List.drop_zero,List.nil_append,Nat.zero_add]at this;exact this
theorem xw (s:ByteArray):(rj s).1.length≤s.size:=by
  have:=tH (s.size+1) s.toList;rw[nB]at this
  show(sl _ _).1.length≤_
  omega
theorem yD {s:ByteArray} (acc:List oK) (p:Int) {e:Nat} (he:e≤s.size) (hs:s.size≤1048576) {r:List oK×Int} (h:Ev (fun k=>nh.l0 k s acc p (e:Int)) r):
    ∀q,q≤e→(∀j,q≤j→j<e→bt s (j:Int)≠10)→Ev (fun k=>nh.l0 k s acc p (q:Int)) r:=by
  apply down (P:=fun q=>(∀j,q≤j→j<e→bt s (j:Int)≠10)→Ev (fun k=>nh.l0 k s acc p (q:Int)) r)
  · intro _;exact h
  · intro q hq ih hn
    refine Ev.step (fun k=>rfl) (jb (by omega) (jb (by omega) (jW (hn q (Nat.le_refl _) hq) ?_)));rw[w1 (n:=s.size) (by omega) (by omega)];exact ih (fun j h1 h2=>hn j (by omega) h2)
theorem wo (s:ByteArray) {p j:Nat} (h:p+j<s.size):bt s ((p+j:Nat):Int)=(((s.toList.drop p)[j]'(by rw[List.length_drop,nB];omega)).toNat:Int):=by
  rw[AL s h,List.getElem_drop]
theorem yE {s:ByteArray} (hs:s.size≤1048576):∀(n p:Nat) (acc:List oK),s.size - p<n→p≤s.size→acc.length≤p→
    Ev (fun k=>nh.l0 k s acc (p:Int) (p:Int)) (acc++(sl n (s.toList.drop p)).1,((p+(sl n (s.toList.drop p)).2:Nat):Int))
  |0,p,acc,h,_,_=>by omega
  |n+1,p,acc,h,hp,ha=>by
    have hex:(s.extract p s.size).toList=s.toList.drop p:=qj s p
    rcases tX (s.extract p s.size) 10 (by rw[extract_size s hp];omega)with⟨_,hn⟩|⟨a,b,_,hl,hn⟩
    · have:sl (n+1) (s.toList.drop p)=([],0):=by
        unfold sl;rw[←hex,vl hn,if_pos rfl]
      rw[this,List.append_nil];refine yD acc p (Nat.le_refl _) hs (Ev.step (fun k=>rfl) (jW (by omega) (Ev.now _))) p hp (fun j h1 h2=>?_);obtain⟨d,rfl⟩:∃d,j=p+d:=⟨j - p,by omega⟩;rw[wo s h2];intro e;apply hn;rw[hex];have hm:=List.getElem_mem (l:=s.toList.drop p) (n:=d) (by rw[List.length_drop,nB];omega);have:(s.toList.drop p)[d]'(by rw[List.length_drop,nB];omega)=10:=UInt8.toNat_inj.1 (by have h10:(10:UInt8).toNat=10:=rfl;omega);rw[this]at hm;exact hm
    · have hl':s.toList.drop p=a.toList++10::b.toList:=hex.symm.trans hl
      have has:a.size+(b.size+1)=s.size - p:=by
        have:=congrArg List.length hl;rw[List.length_append,List.length_cons,nB,nB,nB,extract_size s hp]at this;omega
      have hln:ox (s.toList.drop p)=a.toList:=by rw[hl'];exact tq hn
      have DF:(⟨(ox (s.toList.drop p)).toArray⟩:ByteArray)=a:=ext_list (by rw[rH,hln]);have hlen:¬(ox (s.toList.drop p)).length=(s.toList.drop p).length:=by rw[hln,nB,List.length_drop,nB];omega
      have BB:(ox (s.toList.drop p)).length=a.size:=by rw[hln,nB]
      have DG:s.extract p (p+a.size)=a:=ext_list (by rw[qu,hl',Nat.add_sub_cancel_left,←nB,List.take_left])
      have DH:bt s ((p+a.size:Nat):Int)=10:=by
        rw[wo s (by omega)]
        have:(s.toList.drop p)[a.size]'(by rw[List.length_drop,nB];omega)=10:=by
          simp only[hl'];rw[List.getElem_append_right (by rw[nB];exact Nat.le_refl _)];simp[nB]
        rw[this];rfl
      have fin:Ev (fun k=>nh.l0 k s acc (p:Int) ((p+a.size:Nat):Int)) (acc++(sl (n+1) (s.toList.drop p)).1,((p+(sl (n+1) (s.toList.drop p)).2:Nat):Int)):=by
        refine Ev.step (fun k=>rfl) (jb (by omega) (jb (by omega) (jb DH (jb (by omega) (jb (by omega) (jb (by omega) ?_))))));rw[Int.toNat_natCast,Int.toNat_natCast,DG];refine Ev.bind (ua (s:=a) (by omega)) ?_;unfold sl;rw[if_neg hlen,DF,BB];by_cases hd:(pR a).2.2=true
        · rw[if_pos hd]
          have ih:=yE hs n (p+(a.size+1)) (acc++ [(⟨(pR a).1,(pR a).2.1⟩:oK)]) (by omega) (by omega) (by rw[List.length_append];show _+1≤_;omega);refine jb hd (jb (by omega) ?_);have e:wrap64 (((p+a.size:Nat):Int)+1)=((p+(a.size+1):Nat):Int):=by rw[qZ (by omega) (by omega)];omega
          rw[e,List.drop_drop];refine oQ ih ?_;rw[List.append_assoc];simp only[List.singleton_append,Prod.mk.injEq,true_and];omega
        · rw[if_neg hd]
          refine jW hd (oQ (Ev.now _) ?_);rw[List.append_nil];rfl
      refine yD acc p (by omega) hs fin p (by omega) (fun j h1 h2=>?_);obtain⟨d,rfl⟩:∃d,j=p+d:=⟨j - p,by omega⟩;rw[wo s (by omega)];intro e;apply hn;have hd:d<a.toList.length:=by rw[nB];omega
      have hm:=List.getElem_mem (l:=a.toList) (n:=d) hd;have:(s.toList.drop p)[d]'(by rw[List.length_drop,nB];omega)=10:=UInt8.toNat_inj.1 (by have h10:(10:UInt8).toNat=10:=rfl;omega);simp only[hl']at this;rw[List.getElem_append_left hd]at this;rw[this]at hm;exact hm
theorem td {s:ByteArray} (hs:s.size≤1048576):Ev (fun k=>nh.f k s) (rj s):=by
  have:=yE hs (s.size+1) 0 [] (by omega) (by omega) (by simp);rw[List.drop_zero,List.nil_append,Nat.zero_add]at this;exact this
def qq (l:List oK):Nat:=(l.map fun x=>x.f1.size).sum
def te (l:List oK):ByteArray:=if(l.all fun x=>decide ((oY x.f0 x.f1).toList≠ []))=true then⟨(l.flatMap fun x=>(oY x.f0 x.f1).toList++ [10]).toArray⟩else⟨#[]⟩
theorem tb (l:List oK):(te l).toList=if(l.all fun x=>decide ((oY x.f0 x.f1).toList≠ []))=true then(l.flatMap fun x=>(oY x.f0 x.f1).toList++ [10])else[]:=by
  unfold te;split
  · exact rH _
  · exact qK
theorem rU (a:Int) (s:ByteArray):(oY a s).size≤s.size+6:=by
  unfold oY;have f:uX.size=6:=rfl;have g:zX.size=4:=rfl;have b:yA.size=4:=rfl;have n:(⟨#[]⟩:ByteArray).size=0:=rfl;split
  · omega
  · split
    · split
      · rw[ByteArray.size_append];omega
      · split
        · rw[ByteArray.size_append];omega
        · omega
    · omega
theorem tf {l:List oK} (hn:l.length≤1048576) (hs:qq l≤1048576):Ev (fun k=>nv.f k l) (te l):=by
  unfold nv.f
  have hm:∀i,i<l.length→∀h:i<l.length,l[i].f1.size+qq (l.drop (i+1))=qq (l.drop i):=by
    intro i hi h;unfold qq;rw[List.drop_eq_getElem_cons hi,List.map_cons,List.sum_cons]
  have hle:∀i,qq (l.drop i)≤qq l:=by
    intro i
    have:qq l=qq (l.take i)+qq (l.drop i):=by
      unfold qq;rw[←List.sum_append,←List.map_append,List.take_append_drop]
    omega
  have key:∀i,i≤l.length→∀x:ByteArray,x.size+qq (l.drop i)+8*(l.length - i)≤100000000→∃r:ByteArray,Ev (fun k=>nv.l0 k l x (i:Int)) r∧
      r.toList=if((l.drop i).all fun x=>decide ((oY x.f0 x.f1).toList≠ []))=true then x.toList++((l.drop i).flatMap fun x=>(oY x.f0 x.f1).toList++ [10])else[]:=by
    apply down
    · intro x _
      refine⟨x,Ev.step (fun k=>rfl) (jW (by omega) (Ev.now _)),?_⟩;rw[List.drop_length];simp
    · intro i hi ih x hx
      have h1:=hm i hi hi;have h2:=hle i;have hd:=rU l[i].f0 l[i].f1
      have sp:Ev (fun k=>kV.f k (la l (i:Int)).f0 (la l (i:Int)).f1) (oY l[i].f0 l[i].f1):=by
        rw[rR hi];exact qO _ (by omega)
      rw[List.drop_eq_getElem_cons hi,List.all_cons,List.flatMap_cons];by_cases c:(oY l[i].f0 l[i].f1).toList= []
      · refine⟨⟨#[]⟩,Ev.step (fun k=>rfl) (jb (by omega) (jb (by omega) (Ev.bind sp (jb c (Ev.now _))))),?_⟩
        rw[decide_eq_false (fun k=>k c),Bool.false_and,if_neg (by decide),qK]
      · obtain⟨r,hr,e⟩:=ih ((x++oY l[i].f0 l[i].f1)++(⟨#[10]⟩:ByteArray)) (by rw[ByteArray.size_append,ByteArray.size_append];show x.size+_+1+_+_≤_;omega)
        refine⟨r,Ev.step (fun k=>rfl) (jb (by omega) (jb (by omega) (Ev.bind sp (jW c (Ev.bind sp (jb (by omega) (jb (by rw[ByteArray.size_append];omega) ?_))))))),?_⟩
        · rw[w1 hi (by omega)];exact hr
        · rw[e,decide_eq_true (p:=_≠_) c,Bool.true_and,qf,qf,List.append_assoc,List.append_assoc,List.append_assoc]
          have:(⟨#[10]⟩:ByteArray).toList= [10]:=rH [10];rw[this]
  obtain⟨r,hr,e⟩:=key 0 (Nat.zero_le _) ⟨#[]⟩ (by rw[List.drop_zero];show 0+_+_≤_;omega);have:r=te l:=ext_list (by rw[e,tb,List.drop_zero,qK];rfl);rw[←this];exact hr
theorem tg {l:List oK} (hn:l.length≤1048576) (hs:qq l≤1048576):Ev (fun k=>mM.f k l) (te l):=by
  unfold mM.f
  have hm:∀i,i<l.length→∀h:i<l.length,l[i].f1.size+qq (l.drop (i+1))=qq (l.drop i):=by
    intro i hi h;unfold qq;rw[List.drop_eq_getElem_cons hi,List.map_cons,List.sum_cons]
  have hle:∀i,qq (l.drop i)≤qq l:=by
    intro i
    have:qq l=qq (l.take i)+qq (l.drop i):=by
      unfold qq;rw[←List.sum_append,←List.map_append,List.take_append_drop]
    omega
  have key:∀i,i≤l.length→∀x:ByteArray,x.size+qq (l.drop i)+8*(l.length - i)≤100000000→∃r:ByteArray,Ev (fun k=>mM.l0 k x l (l.length:Int) (i:Int)) r∧
      r.toList=if((l.drop i).all fun x=>decide ((oY x.f0 x.f1).toList≠ []))=true then x.toList++((l.drop i).flatMap fun x=>(oY x.f0 x.f1).toList++ [10])else[]:=by
    apply down
    · intro x _
      refine⟨x,Ev.step (fun k=>rfl) (jW (by omega) (Ev.now _)),?_⟩;rw[List.drop_length];simp
    · intro i hi ih x hx
      have h1:=hm i hi hi;have h2:=hle i;have hd:=rU l[i].f0 l[i].f1
      have sp:Ev (fun k=>ng.f k (la l (i:Int)).f0 (la l (i:Int)).f1) (oY l[i].f0 l[i].f1):=by
        rw[rR hi];exact pz _ (by omega)
      rw[List.drop_eq_getElem_cons hi,List.all_cons,List.flatMap_cons];have t10:(⟨#[10]⟩:ByteArray).toList= [10]:=rH [10];have s10:(⟨#[10]⟩:ByteArray).size=1:=rfl;by_cases c:(oY l[i].f0 l[i].f1).toList= []
      · refine⟨⟨#[]⟩,Ev.step (fun k=>rfl) (jb (by omega) (jb (by omega) (jb (by omega) (Ev.bind sp (jb c (Ev.now _)))))),?_⟩
        rw[decide_eq_false (fun k=>k c),Bool.false_and,if_neg (by decide),qK]
      · obtain⟨r,hr,e⟩:=ih (x++(oY l[i].f0 l[i].f1++(⟨#[10]⟩:ByteArray))) (by rw[ByteArray.size_append,ByteArray.size_append];omega)
        refine⟨r,Ev.step (fun k=>rfl) (jb (by omega) (jb (by omega) (jb (by omega) (Ev.bind sp (jW c (jb (by omega) (jb (by rw[ByteArray.size_append];omega) ?_))))))),?_⟩
        · rw[w1 hi (by omega)];exact hr
        · rw[e,decide_eq_true (p:=_≠_) c,Bool.true_and,qf,qf,t10,List.append_assoc]
  obtain⟨r,hr,e⟩:=key 0 (Nat.zero_le _) ⟨#[]⟩ (by rw[List.drop_zero];show 0+_+_≤_;omega);have:r=te l:=ext_list (by rw[e,tb,List.drop_zero,qK];rfl);rw[←this];exact hr
theorem told (kind:Int) (s:ByteArray):(oY kind s).toList= []∨pR (oY kind s)=(kind,s,true):=by
  unfold oY;by_cases h2:kind=2∧s.size=0
  · right
    rw[if_pos h2,tn vI];obtain⟨rfl,h0⟩:=h2;have:s=(⟨#[]⟩:ByteArray):=ext_list (by rw[(rv s).2 h0];decide+kernel);rw[this]
  · rw[if_neg h2]
    by_cases hp:plain s=true∧s.size≠0
    · rw[if_pos hp]
      by_cases h0:kind=0
      · right
        rw[if_pos h0,sk (t:=s) (by rw[qf,uY]) hp.1 hp.2,h0]
      · rw[if_neg h0]
        by_cases h1:kind=1
        · right
          rw[if_pos h1,tZ (t:=s) (by rw[qf,wX]) hp.1 hp.2,h1]
        · left
          rw[if_neg h1];decide+kernel
    · left
      rw[if_neg hp];decide+kernel
theorem yX {l:List oK}:(te l).size≤qq l+7*l.length:=by
  have hl:=tb l;rw[←nB,hl];split
  · clear hl
    rename_i c;clear c;induction l with
    |nil=>exact Nat.zero_le _
    |cons x l ih=>
      have h1:=rU x.f0 x.f1;rw[List.flatMap_cons,List.length_append,List.length_append,nB];unfold qq at ih⊢;rw[List.map_cons,List.sum_cons];simp only[List.length_cons,List.length_nil];omega
  · exact Nat.zero_le _
theorem sm {l:List oK} (hn:l.length≤9223372036854775807):Ev (fun k=>nN.f k l l) true:=by
  unfold nN.f;refine jb rfl ?_
  have key:∀i,i≤l.length→Ev (fun k=>nN.l0 k l l (i:Int)) true:=by
    apply down
    · exact Ev.step (fun k=>rfl) (jW (by omega) (Ev.now _))
    · intro i hi ih
      refine Ev.step (fun k=>rfl) (jb (by omega) (jb (by omega) (jb (by omega) (jW (by simp) ?_))));rw[w1 hi hn];exact ih
  exact key 0 (Nat.zero_le _)
theorem tr:∀{a:List UInt8},(ox a).length≠a.length→∃b,a=ox a++10::b
  | [],h=>absurd rfl h
  |x::a,h=>by
    by_cases c:(x !=10)=true
    · have e:ox (x::a)=x::ox a:=by unfold ox;rw[List.takeWhile_cons,if_pos c]
      rw[e]at h⊢
      obtain⟨b,hb⟩:=tr (a:=a) (fun k=>h (by rw[List.length_cons,List.length_cons,k]))
      exact⟨b,by rw[List.cons_append,←hb]⟩
    · have e:ox (x::a)= []:=by unfold ox;rw[List.takeWhile_cons,if_neg c]
      have hx:x=10:=by simpa using c
      exact⟨a,by rw[e,hx];rfl⟩
theorem yF:∀(a:List UInt8),(10:UInt8)∉ox a
  | []=>by decide
  |x::a=>by
    unfold ox
    rw[List.takeWhile_cons]
    split
    · rename_i c
      rw[List.mem_cons]
      rintro(h|h)
      · rw[←h]at c;exact absurd c (by decide)
      · exact yF a h
    · exact List.not_mem_nil
theorem yY {l:List UInt8} {k:Nat} (h:(ox (l.take k)).length≠(l.take k).length):ox l=ox (l.take k)∧(ox l).length≠l.length:=by
  obtain⟨b,hb⟩:=tr h
  have e:l=ox (l.take k)++10::(b++l.drop k):=by
    have:=(List.take_append_drop k l).symm;rw[hb,List.append_assoc]at this;exact this
  have e2:ox l=ox (l.take k):=by
    have:=tq (b:=b++l.drop k) (yF (l.take k));rw[←e]at this;exact this
  refine⟨e2,?_⟩;rw[e2];intro c;have:=congrArg List.length e;rw[List.length_append,List.length_cons]at this;omega
theorem yZ (l:List UInt8):(ox l).length≤l.length:=(List.takeWhile_prefix _).length_le
theorem xa:∀(n m:Nat) (l:List UInt8) (k:Nat),l.length<m→(sl n (l.take k)).1<+:(sl m l).1
  |0,_,_,_,_=>List.nil_prefix
  |n+1,0,_,_,h=>absurd h (Nat.not_lt_zero _)
  |n+1,m+1,l,k,h=>by
    unfold sl
    by_cases c:(ox (l.take k)).length=(l.take k).length
    · rw[if_pos c]
      exact List.nil_prefix
    · obtain⟨e,c2⟩:=yY c
      rw[if_neg c,if_neg c2,←e]
      split
      · have ih:=xa n m (l.drop ((ox l).length+1)) (k - ((ox l).length+1)) (by
          have:=yZ l
          rw[List.length_drop];omega)
        rw[←List.drop_take]at ih
        exact List.cons_prefix_cons.2 ⟨rfl,ih⟩
      · exact List.nil_prefix
theorem xx {s:ByteArray} (h:(pR s).2.2=true):(oY (pR s).1 (pR s).2.1).toList=s.toList∧s.toList≠ []∧(pR s).2.1.size≤s.size:=by
  rcases ug s with⟨h1,h2⟩|⟨z,h1,hp,hz,h2⟩|⟨z,h1,hp,hz,h2⟩|⟨_,_,_,h2⟩
  · rw[h2]
    refine⟨by rw[h1];exact vk _ rfl,by rw[h1];decide,Nat.zero_le _⟩
  · have hl:s.size=6+z.size:=by rw[←nB,h1,List.length_append,nB];rfl
    rw[h2];exact⟨(tm s z).2 (Or.inl ⟨h1,hp,hz⟩),by rw[h1];simp,by show z.size≤_;omega⟩
  · have hl:s.size=4+z.size:=by rw[←nB,h1,List.length_append,nB];rfl
    rw[h2];exact⟨(tY s z).2 (Or.inl ⟨h1,hp,hz⟩),by rw[h1];simp,by show z.size≤_;omega⟩
  · rw[h2]at h
    exact absurd h Bool.false_ne_true
theorem vm:∀(n:Nat) (l:List UInt8),((sl n l).1.all fun(x:oK)=>decide ((oY x.f0 x.f1).toList≠ []))=true∧((sl n l).1.flatMap fun(x:oK)=>(oY x.f0 x.f1).toList++ [10])=l.take (sl n l).2∧qq (sl n l).1≤(sl n l).2
  |0,l=>⟨rfl,by show([]:List UInt8)=l.take 0;rw[List.take_zero],Nat.le_refl _⟩
  |n+1,l=>by
    have no:(([]:List oK).all fun(x:oK)=>decide ((oY x.f0 x.f1).toList≠ []))=true∧(([]:List oK).flatMap fun(x:oK)=>(oY x.f0 x.f1).toList++ [10])=l.take 0∧qq []≤0:=⟨rfl,by rw[List.take_zero];rfl,Nat.le_refl _⟩
    unfold sl
    split
    · exact no
    · rename_i c
      split
      · rename_i d
        obtain⟨h1,h2,h3⟩:=xx d
        obtain⟨i1,i2,i3⟩:=vm n (l.drop ((ox l).length+1))
        obtain⟨b,hb⟩:=tr c
        have hk:=rH (ox l)
        replace h1:=h1.trans hk
        replace h2:ox l≠ []:=fun k=>h2 (hk.trans k)
        have hsz:(⟨(ox l).toArray⟩:ByteArray).size=(ox l).length:=by rw[←nB,rH]
        refine⟨?_,?_,?_⟩
        · rw[List.all_cons,Bool.and_eq_true,decide_eq_true_iff]
          exact⟨fun k=>h2 (h1.symm.trans k),i1⟩
        · rw[List.flatMap_cons]
          show(oY (pR ⟨(ox l).toArray⟩).1 (pR ⟨(ox l).toArray⟩).2.1).toList++ [10]++_=l.take ((ox l).length+1+(sl n (l.drop ((ox l).length+1))).2)
          rw[h1,i2]
          have e:l.take ((ox l).length+1)=ox l++ [10]:=by
            generalize hx:ox l=x at hb;rw[hb,List.take_append,List.take_of_length_le (Nat.le_succ _),Nat.add_sub_cancel_left];rfl
          rw[←e,←List.take_add]
        · unfold qq at i3⊢
          rw[List.map_cons,List.sum_cons]
          show(pR _).2.1.size+_≤(ox l).length+1+_
          omega
      · exact no
theorem yG (s:ByteArray):(te (rj s).1).toList=s.toList.take (sl (s.size+1) s.toList).2∧qq (rj s).1≤s.size:=by
  obtain⟨h1,h2,h3⟩:=vm (s.size+1) s.toList;have h4:=(tH (s.size+1) s.toList).1;rw[nB]at h4;refine⟨?_,Nat.le_trans h3 h4⟩
  show(te (sl (s.size+1) s.toList).1).toList=_
  rw[tb,if_pos h1];exact h2
theorem ub (kind:Int) {s:ByteArray} (hs:s.size≤9223372036854775000):Ev (fun k=>oW.f k kind s) (oY kind s):=Ev.bind (pz kind hs) (Ev.now _)
end Go.Proofs.YtigeaokfhnlkcaaGreatDoor.Pl
