import Derived.Test.YtigeaokfhnlkcaaGreatDoorPx2
import Derived.Test.YtigeaokfhnlkcaaGreatDoorMath
import Derived.Test.YtigeaokfhnlkcaaGreatDoorPx13
import Derived.Test.YtigeaokfhnlkcaaGreatDoorPx14
import Derived.Test.YtigeaokfhnlkcaaGreatDoorPx4
import Derived.Test.YtigeaokfhnlkcaaGreatDoorPx5
import Derived.Test.YtigeaokfhnlkcaaGreatDoorPx15
import Derived.Test.YtigeaokfhnlkcaaGreatDoorPx6
import Derived.Test.YtigeaokfhnlkcaaGreatDoorPx17
import Derived.Test.YtigeaokfhnlkcaaGreatDoorPx16
import Derived.Test.YtigeaokfhnlkcaaGreatDoorPx22
import Derived.Test.YtigeaokfhnlkcaaGreatDoorPx28
import Derived.Test.YtigeaokfhnlkcaaGreatDoorPx19
import Derived.Test.YtigeaokfhnlkcaaGreatDoorPx23
import Derived.Test.YtigeaokfhnlkcaaGreatDoorPx26
import Derived.Test.YtigeaokfhnlkcaaGreatDoorPx29
import Derived.Test.YtigeaokfhnlkcaaGreatDoorPx21
import Derived.Test.YtigeaokfhnlkcaaGreatDoorPx27
import Derived.Test.YtigeaokfhnlkcaaGreatDoorPx3
import Derived.Test.YtigeaokfhnlkcaaGreatDoorPx18
import Derived.Test.YtigeaokfhnlkcaaGreatDoorPx24
import Derived.Test.YtigeaokfhnlkcaaGreatDoorPx30
import Derived.Test.YtigeaokfhnlkcaaGreatDoorPx11
import Derived.Test.YtigeaokfhnlkcaaGreatDoorPx7
import Derived.Test.YtigeaokfhnlkcaaGreatDoorPx0
import Derived.Test.YtigeaokfhnlkcaaGreatDoorPx25
import Derived.Test.YtigeaokfhnlkcaaGreatDoorPx31
import Derived.Test.YtigeaokfhnlkcaaGreatDoorPx32
import Derived.Test.YtigeaokfhnlkcaaGreatDoorPx8
import Derived.Test.YtigeaokfhnlkcaaGreatDoorPx9
import Derived.Test.YtigeaokfhnlkcaaGreatDoorPx10
import Derived.Test.YtigeaokfhnlkcaaGreatDoorPx12
namespace Go.Proofs.YtigeaokfhnlkcaaGreatDoor.Pl
open Go.RowKit YtigeaokfhnlkcaaGreatDoorW PrintWords PrintLast PrintMore Go.Proofs.YtigeaokfhnlkcaaGreatDoor.P Go.Proofs.YtigeaokfhnlkcaaGreatDoor.Mt
theorem xJ (b:BA):∀(n i:Nat) (r:List UInt8),b.size - i=n→ByteArray.toList.loop b i r=r.reverse++b.data.toList.drop i:=by
  intro n;induction n with
  |zero=>
    intro i r h;unfold ByteArray.toList.loop;rw[if_neg (by omega),List.drop_eq_nil_of_le (by rw[Array.length_toList];show b.size≤i;omega),List.append_nil]
  |succ n ih=>
    intro i r h;unfold ByteArray.toList.loop;have hi:i<b.data.toList.length:=by rw[Array.length_toList];show i<b.size;omega
    rw[if_pos (by omega),ih (i+1) _ (by omega),List.drop_eq_getElem_cons hi,List.reverse_cons,List.append_assoc];congr 2
    have:b.get! i=b.data.toList[i]:=by
      show b.data[i]! =_
      rw[getElem!_pos _ i (by rw[Array.length_toList]at hi;exact hi)];simp
    rw[this];rfl
theorem toList_data (b:BA):b.toList=b.data.toList:=by
  unfold ByteArray.toList;rw[xJ b _ 0 [] rfl];rfl
theorem tg (b:BA):b.toList= []↔b.size=0:=by
  rw[toList_data,List.eq_nil_iff_length_eq_zero,Array.length_toList];rfl
theorem ext_list {a b:BA} (h:a.toList=b.toList):a=b:=by
  rw[toList_data,toList_data]at h;exact ByteArray.ext (Array.toList_inj.1 h)
theorem rO (a b c:Int):lR.f a b c=some (decide (b≤a∧a≤c)):=by
  unfold lR.f;by_cases h:a≥b
  · rw[if_pos h]
    congr 1;exact decide_eq_decide.2 ⟨fun k=>⟨h,k⟩,fun k=>k.2⟩
  · rw[if_neg h]
    congr 1;symm;exact decide_eq_false (fun k=>h k.1)
theorem qK {l:List Int} {i:Nat} (h:i<l.length):rd l (i:Int)=l[i]:=by
  unfold rd;rw[Int.toNat_natCast,List.getD_eq_getElem?_getD,List.getElem?_eq_getElem h];rfl
theorem yn {l:List Int} {i:Nat} (h:i<l.length):rd l (i:Int)∈l:=by rw[qK h];exact List.getElem_mem h
theorem down {P:Nat→Prop} {n:Nat} (h0:P n) (h1:∀i,i<n→P (i+1)→P i):∀i,i≤n→P i:=by
  have key:∀d i,i+d=n→P i:=by
    intro d;induction d with
    |zero=>intro i hi;rw[show i=n from by omega];exact h0
    |succ d ih=>intro i hi;exact h1 i (by omega) (ih (i+1) (by omega))
  intro i hi;exact key (n - i) i (by omega)
theorem w1 {i n:Nat} (h:i<n) (hn:n≤9223372036854775807):wrap64 ((i:Int)+1)=((i+1:Nat):Int):=by rw[su (by omega) (by omega)];rfl
theorem three {t:Int} (h:1≤t∧t≤3):t=1∨t=2∨t=3:=by omega
def wn (t:Int):Nat:=if t=1 then 2 else if t=2 then 4 else 8
theorem rm (t:Int):wn t≤8∧2≤wn t:=by unfold wn;split<;>(try split)<;>omega
theorem tl {t:Int} (h:1≤t∧t≤3):shl .i64 1 t=(wn t:Int):=by rcases three h with rfl|rfl|rfl<;>decide+kernel
def rn (l:List Int):Nat→Nat
  |0=>0
  |n+1=>rn l n+(if(n:Int)∈l then 1 else 0)
def uH (l:List Int) (x:Int):Nat:=rn l x.toNat
def qh (l:List Int):List Int:=l.map fun x=>(uH l x:Int)
theorem vP {l m:List Int}:∀n:Nat,(∀y:Int,0≤y→y<n→(y∈l↔y∈m))→rn l n=rn m n
  |0,_=>rfl
  |n+1,h=>by
    unfold rn
    rw[vP n (fun y h0 h1=>h y h0 (by omega))]
    have:=h n (by omega) (by omega)
    by_cases hm:(n:Int)∈l
    · rw[if_pos hm,if_pos (this.1 hm)]
    · rw[if_neg hm,if_neg (fun k=>hm (this.2 k))]
theorem zo (l:List Int):∀n,rn l n≤n
  |0=>Nat.le_refl _
  |n+1=>by unfold rn;have:=zo l n;split<;>omega
theorem tE {l:List Int}:∀(n:Nat) (s:List Int),s.Nodup→(∀y,y∈s↔(y∈l∧0≤y∧y<n))→s.length=rn l n
  |0,s,_,h=>by
    cases s with
    |nil=>rfl
    |cons y s=>have:=(h y).1 List.mem_cons_self;omega
  |n+1,s,hd,h=>by
    unfold rn
    by_cases hn:(n:Int)∈l
    · rw[if_pos hn]
      have hs:(n:Int)∈s:=(h n).2 ⟨hn,by omega,by omega⟩
      have:=tE (l:=l) n (s.erase n) (hd.erase _) (fun y=>by
        rw[hd.mem_erase_iff]
        constructor
        · rintro⟨a,b⟩
          obtain⟨b,c,d⟩:=(h y).1 b
          exact⟨b,c,by omega⟩
        · rintro⟨b,c,d⟩
          exact⟨by omega,(h y).2 ⟨b,c,by omega⟩⟩)
      rw[List.length_erase_of_mem hs]at this
      have hp:0<s.length:=List.length_pos_of_mem hs
      omega
    · rw[if_neg hn]
      exact tE n s hd (fun y=>by
        rw[h y]
        constructor
        · rintro⟨a,b,c⟩;exact⟨a,b,by have:y≠n:=fun e=>hn (e▸a);omega⟩
        · rintro⟨a,b,c⟩;exact⟨a,b,by omega⟩)
theorem qL (l:List Int):(qh l).length=l.length:=List.length_map ..
theorem xK {l:List Int}:∀(n k:Nat),k<rn l n→∃y∈l,0≤y∧y<n∧uH l y=k
  |0,k,h=>by simp[rn]at h
  |n+1,k,h=>by
    unfold rn at h
    by_cases hk:k<rn l n
    · obtain⟨y,hy,h0,h1,h2⟩:=xK n k hk
      exact⟨y,hy,h0,by omega,h2⟩
    · by_cases hn:(n:Int)∈l
      · rw[if_pos hn]at h
        exact⟨n,hn,by omega,by omega,by show rn l ((n:Int).toNat)=k;rw[Int.toNat_natCast];omega⟩
      · rw[if_neg hn]at h;omega
theorem ur {l:List Int} {y:Int}:y∈qh l↔∃x∈l,(uH l x:Int)=y:=by unfold qh;rw[List.mem_map]
theorem zT {l:List Int} {x:Int} (_:x∈l) (_:0≤x):uH (qh l) (uH l x)=uH l x:=by
  have key:∀n:Nat,n≤uH l x→rn (qh l) n=n:=by
    intro n;induction n with
    |zero=>intro _;rfl
    |succ n ih=>
      intro h;unfold rn;obtain⟨y,hy,_,_,he⟩:=xK (l:=l) x.toNat n h;rw[ih (by omega),if_pos (ur.2 ⟨y,hy,by rw[he]⟩)]
  show rn (qh l) ((uH l x:Int).toNat)=uH l x
  rw[Int.toNat_natCast];exact key _ (Nat.le_refl _)
theorem xL {l:List Int} (h:∀x∈l,0≤x):qh (qh l)=qh l:=by
  show(qh l).map _=_
  conv=>lhs;arg 2;unfold qh
  rw[List.map_map]
  show _=l.map _
  apply List.map_congr_left;intro x hx
  show((uH (qh l) (uH l x):Nat):Int)=_
  rw[zT hx (h x hx)]
theorem wK (z:Int) (l:List Int):∀n:Nat,rn (z::l) n≤rn l n+(if 0≤z∧z<n then 1 else 0)
  |0=>by unfold rn;omega
  |n+1=>by
    have ih:=wK z l n
    have e1:rn (z::l) (n+1)=rn (z::l) n+(if(n:Int)∈z::l then 1 else 0):=rfl
    have e2:rn l (n+1)=rn l n+(if(n:Int)∈l then 1 else 0):=rfl
    rw[e1,e2]
    by_cases hz:z=(n:Int)
    · subst hz
      rw[if_neg (by omega)]at ih
      rw[if_pos (c:=0≤(n:Int)∧_) (by omega)]
      split<;>split<;>omega
    · have hm:((n:Int)∈z::l)↔(n:Int)∈l:=by rw[List.mem_cons];exact⟨fun h=>h.resolve_left (fun e=>hz e.symm),Or.inr⟩
      by_cases hl:(n:Int)∈l
      · rw[if_pos (hm.2 hl),if_pos hl]
        split at ih<;>split<;>omega
      · rw[if_neg (fun k=>hl (hm.1 k)),if_neg hl]
        split at ih<;>split<;>omega
theorem vQ {l:List Int} {n:Nat}:rn l n≤(l.filter fun y=>decide (y<(n:Int))).length:=by
  induction l with
  |nil=>
    have:∀n,rn [] n=0:=by intro n;induction n with|zero=>rfl|succ n ih=>unfold rn;rw[ih,if_neg (by simp)]
    rw[this];exact Nat.zero_le _
  |cons z l ih=>
    have:=wK z l n;rw[List.filter_cons];by_cases h:z<(n:Int)
    · rw[if_pos (by simpa using h),List.length_cons]
      split at this<;>omega
    · rw[if_neg (by simpa using h)]
      rw[if_neg (by omega)]at this;omega
theorem wA {l:List Int} {x:Int} (hx:x∈l) (h0:0≤x):uH l x<l.length:=by
  have h1:=vQ (l:=l) (n:=x.toNat)
  have h2:(l.filter fun y=>decide (y<((x.toNat:Nat):Int))).length<l.length:=by
    rw[Int.toNat_of_nonneg h0];have hle:=List.length_filter_le (fun y=>decide (y<x)) l;rcases Nat.lt_or_ge (l.filter fun y=>decide (y<x)).length l.length with h|h
    · exact h
    · have he:(l.filter fun y=>decide (y<x)).length=l.length:=by omega
      have:=List.length_filter_eq_length_iff.1 he x hx;simp at this
  unfold uH;omega
theorem Bw {l:List Int} {x:Int} (h:∀y∈l,0≤y→x≤y):uH l x=0:=by
  unfold uH
  have:∀n:Nat,n≤x.toNat→rn l n=0:=by
    intro n;induction n with
    |zero=>intro _;rfl
    |succ n ih=>
      intro hn;unfold rn;rw[ih (by omega),if_neg (fun hm=>by have:=h n hm (by omega);omega)]
  exact this _ (Nat.le_refl _)
theorem CG {c:List Int} (hs:c.Pairwise (·<·)) (h0:∀x∈c,0≤x) {i:Nat} (hi:i<c.length):uH c c[i]=i:=by
  have hx0:0≤c[i]:=h0 _ (List.getElem_mem hi);unfold uH
  have hn:(c.take i).Nodup:=by
    have:(c.take i).Pairwise (·<·):=hs.sublist (List.take_sublist ..);exact this.imp (fun h=>by omega)
  have hget:=List.pairwise_iff_getElem.1 hs
  rw[←tE (l:=c) c[i].toNat (c.take i) hn (fun y=>by
    rw[Int.toNat_of_nonneg hx0];constructor
    · intro hy
      obtain⟨j,hj,rfl⟩:=List.mem_iff_getElem.1 hy;rw[List.length_take]at hj;rw[List.getElem_take];refine⟨List.getElem_mem _,h0 _ (List.getElem_mem _),hget j i (by omega) hi (by omega)⟩
    · rintro⟨hy,_,hlt⟩
      obtain⟨j,hj,rfl⟩:=List.mem_iff_getElem.1 hy
      have hji:j<i:=by
        rcases(by omega:j<i∨j=i∨i<j)with k|k|k
        · exact k
        · subst k;omega
        · have:=hget i j hi hj k;omega
      rw[List.mem_iff_getElem];exact⟨j,by rw[List.length_take];omega,List.getElem_take⟩)]
  rw[List.length_take];omega
theorem zU {l m:List Int} (h:∀y,y∈l↔y∈m) (x:Int):uH l x=uH m x:=vP _ (fun y _ _=>h y)
def nA (t:Int) (l:List Int):Bool:=decide ((1≤t∧t≤3)∧l.length=wn t∧(∀x∈l,0≤x∧x≤9)∧(0:Int)∈l)
theorem kn {t:Int} {l:List Int}:nA t l=true↔(1≤t∧t≤3)∧l.length=wn t∧(∀x∈l,0≤x∧x≤9)∧(0:Int)∈l:=by unfold nA;exact decide_eq_true_iff
theorem tF (l:List Int) (i:Nat):rd l (i:Int)=l.getD i 0:=by unfold rd;rw[Int.toNat_natCast]
theorem uc (a b:Int):(mn a b=a∨mn a b=b)∧mn a b≤a∧mn a b≤b:=by unfold mn;split<;>omega
theorem Bx (a b:Int):(mx a b=a∨mx a b=b)∧a≤mx a b∧b≤mx a b:=by unfold mx;split<;>omega
theorem rW (t:Int) {l:List Int} (hn:l.length≤9223372036854775807):Ev (fun k=>iv.f k t l) (nA t l):=by
  unfold iv.f
  have key:∀i,i≤l.length→∀m:Int,0≤m→m≤9→Ev (fun k=>iv.l0 k t l m (i:Int)) (decide ((1≤t∧t≤3)∧l.length=wn t∧(∀x∈l.drop i,0≤x∧x≤9)∧(m=0∨(0:Int)∈l.drop i))):=by
    apply down
    · intro m h0 h9
      refine Ev.step (fun k=>rfl) (gn (by omega) (ie (rO _ _ _) ?_));rw[List.drop_length];by_cases ht:1≤t∧t≤3
      · refine gm (decide_eq_true ht) (gm (by omega) ?_)
        rw[tl ht];by_cases hl:l.length=wn t
        · refine gm (by omega) (kQ (Ev.now _) ?_)
          by_cases hm:m=0
          · rw[hm,decide_eq_true ⟨ht,hl,fun x hx=>absurd hx (by simp),Or.inl rfl⟩];rfl
          · rw[decide_eq_false (fun k=>by rcases k.2.2.2 with h|h;exact hm h;simp at h)]
            exact beq_eq_false_iff_ne.2 hm
        · refine gn (by omega) (kQ (Ev.now _) ?_)
          rw[decide_eq_false (fun k=>hl k.2.1)]
      · refine gn (by rw[decide_eq_false ht];decide) (kQ (Ev.now _) ?_)
        rw[decide_eq_false (fun k=>ht k.1)]
    · intro i hi ih m h0 h9
      refine Ev.step (fun k=>rfl) (gm (by omega) (gm (by omega) (ie (rO _ _ _) ?_)));rw[qK hi];by_cases hr:0≤l[i]∧l[i]≤9
      · obtain⟨m1,m2,m3⟩:=uc m l[i]
        refine gm (decide_eq_true hr) ?_;rw[w1 hi hn];refine kQ (ih (mn m l[i]) (by omega) (by omega)) (decide_eq_decide.2 ?_);rw[List.drop_eq_getElem_cons hi];simp only[List.mem_cons,forall_eq_or_imp];constructor
        · rintro⟨a,b,c,d⟩
          refine⟨a,b,⟨hr,c⟩,?_⟩;rcases d with d|d
          · rcases m1 with m1|m1
            · exact Or.inl (by omega)
            · exact Or.inr (Or.inl (by omega))
          · exact Or.inr (Or.inr d)
        · rintro⟨a,b,⟨_,c⟩,d⟩
          refine⟨a,b,c,?_⟩;rcases d with d|d|d
          · exact Or.inl (by omega)
          · exact Or.inl (by omega)
          · exact Or.inr d
      · refine gn (by rw[decide_eq_false hr];decide) (kQ (Ev.now _) ?_)
        rw[decide_eq_false (fun k=>hr (k.2.2.1 _ (by rw[List.drop_eq_getElem_cons hi];exact List.mem_cons_self)))]
  refine kQ (key 0 (Nat.zero_le _) 9 (by omega) (by omega)) (decide_eq_decide.2 ?_);rw[List.drop_zero];exact⟨fun⟨a,b,c,d⟩=>⟨a,b,c,d.resolve_left (by omega)⟩,fun⟨a,b,c,d⟩=>⟨a,b,c,Or.inr d⟩⟩
theorem sU {t:Int} {l:List Int} (h:nA t l=true):Ev (fun k=>gA.f k t l) (qh l):=by
  obtain⟨ht,hl,hx,_⟩:=kn.1 h;have h8:=(rm t).1;unfold gA.f
  have l2:∀(out:List Int) (w c:Nat) (r:Int) (res:List Int),∀v,v≤l.length→∀b:Bool,
      Ev (fun k=>gA.l1 k t l out (w:Int) (if(b=true∨r∈l.drop v)then wrap64 ((c:Int)+1)else(c:Int)) (wrap64 (r+1))) res→Ev (fun k=>gA.l2 k t l out (w:Int) (c:Int) r b (v:Int)) res:=by
    intro out w c r res;apply down (P:=fun v=>∀b:Bool,Ev (fun k=>gA.l1 k t l out (w:Int) (if(b=true∨r∈l.drop v)then wrap64 ((c:Int)+1)else(c:Int)) (wrap64 (r+1))) res→Ev (fun k=>gA.l2 k t l out (w:Int) (c:Int) r b (v:Int)) res)
    · intro b hb
      refine Ev.step (fun k=>rfl) (gn (by omega) ?_);rw[List.drop_length]at hb;cases b with
      |true=>rw[if_pos (Or.inl rfl)]at hb;exact gm rfl hb
      |false=>rw[if_neg (by simp)]at hb;exact gn (by decide) hb
    · intro v hv ih b hb
      refine Ev.step (fun k=>rfl) (gm (by omega) ?_);rw[List.drop_eq_getElem_cons hv]at hb;cases b with
      |true=>
        refine gm rfl ?_;rw[w1 hv (by omega)];refine ih true ?_;rw[if_pos (Or.inl rfl)]at hb⊢;exact hb
      |false=>
        refine gn (by decide) (gm (by omega) ?_);rw[qK hv,w1 hv (by omega)];refine ih _ ?_
        have:((l[v]==r)=true∨r∈l.drop (v+1))↔(false=true∨r∈l[v]::l.drop (v+1)):=by
          rw[List.mem_cons,beq_iff_eq];constructor
          · rintro(h|h)
            · exact Or.inr (Or.inl h.symm)
            · exact Or.inr (Or.inr h)
          · rintro(h|h|h)
            · cases h
            · exact Or.inl h.symm
            · exact Or.inr h
        simp only[this];exact hb
  have l1:∀(out:List Int) (w:Nat) (hw:w<l.length) (res:List Int),out.length≤8→Ev (fun k=>gA.l0 k t l (out++ [(uH l l[w]:Int)]) ((w+1:Nat):Int)) res→
      ∀r,r≤(l[w]).toNat→Ev (fun k=>gA.l1 k t l out (w:Int) (rn l r:Int) (r:Int)) res:=by
    intro out w hw res ho hres;have hxw:=hx _ (List.getElem_mem hw);apply down
    · refine Ev.step (fun k=>rfl) (gm (by omega) (gn (by rw[qK hw];omega) (gm (by omega) ?_)))
      rw[w1 hw (by omega)];exact hres
    · intro r hr ih
      refine Ev.step (fun k=>rfl) (gm (by omega) (gm (by rw[qK hw];omega) ?_));refine l2 out w (rn l r) (r:Int) res 0 (Nat.zero_le _) false ?_;have hc:=zo l r
      have e:(if(false=true∨(r:Int)∈l.drop 0)then wrap64 ((rn l r:Int)+1)else(rn l r:Int))=((rn l (r+1):Nat):Int):=by
        show _=((rn l r+(if(r:Int)∈l then 1 else 0):Nat):Int)
        rw[List.drop_zero];by_cases hm:(r:Int)∈l
        · rw[if_pos (Or.inr hm),if_pos hm,su (by omega) (by omega)];rfl
        · rw[if_neg (by rintro(k|k);cases k;exact hm k),if_neg hm];rfl
      rw[e,su (n:=(r:Int)+1) (by omega) (by omega)];exact ih
  have l0:∀w,w≤l.length→Ev (fun k=>gA.l0 k t l ((l.take w).map fun x=>(uH l x:Int)) (w:Int)) (qh l):=by
    apply down
    · refine Ev.step (fun k=>rfl) (gn (by omega) (Ev.step (fun k=>rfl) ?_))
      simp only[gA.j1];refine gn (by decide) (kQ (Ev.now _) ?_);rw[List.take_length];rfl
    · intro w hw ih
      have hr:=rW t (l:=l) (by omega);rw[h]at hr;refine Ev.step (fun k=>rfl) (gm (by omega) (Ev.bind hr (Ev.step (fun k=>rfl) ?_)));simp only[gA.j1];refine gm trivial (l1 _ w hw _ (by rw[List.length_map,List.length_take];omega) ?_ 0 (Nat.zero_le _));rw[List.take_succ_eq_append_getElem hw,List.map_append]at ih;exact ih
  exact l0 0 (Nat.zero_le _)
theorem th (a:Int):jD.f a=some (decide (1≤a∧a≤3)):=by
  unfold jD.f;by_cases h:a≥1
  · rw[if_pos h]
    congr 1;exact decide_eq_decide.2 ⟨fun k=>⟨h,k⟩,fun k=>k.2⟩
  · rw[if_neg h]
    congr 1;symm;exact decide_eq_false (fun k=>h k.1)
theorem xM {l:List Int} {y:Int}:y∈l↔∃p,p<l.length∧l.getD p 0=y:=by
  rw[List.mem_iff_getElem];constructor
  · rintro⟨p,hp,rfl⟩
    exact⟨p,hp,by simp[hp]⟩
  · rintro⟨p,hp,rfl⟩
    exact⟨p,hp,by simp[hp]⟩
def FJ (l:List Int) (i:Nat):Prop:=∀p q,p<q→q<i→l.getD p 0≤l.getD q 0
theorem DX {l:List Int} (h:0<l.length) (hn:l.length≤9223372036854775807):∃r,Ev (fun k=>jh.f k l) r∧r∈l∧∀y∈l,r≤y:=by
  unfold jh.f
  have key:∀i,i≤l.length→∀m:Int,∃r,Ev (fun k=>jh.l0 k l m (i:Int)) r∧(r=m∨r∈l.drop i)∧r≤m∧∀y∈l.drop i,r≤y:=by
    apply down
    · intro m
      exact⟨m,Ev.step (fun k=>rfl) (gn (by omega) (Ev.now _)),Or.inl rfl,Int.le_refl _,fun y hy=>by rw[List.drop_length]at hy;simp at hy⟩
    · intro i hi ih m
      obtain⟨r,h1,h2,h3,h4⟩:=ih (mn m l[i]);obtain⟨m1,m2,m3⟩:=uc m l[i];refine⟨r,Ev.step (fun k=>rfl) (gm (by omega) (gm (by omega) (by rw[qK hi,w1 hi hn];exact h1))),?_,by omega,?_⟩
      · rw[List.drop_eq_getElem_cons hi,List.mem_cons]
        rcases h2 with h2|h2
        · rcases m1 with m1|m1
          · exact Or.inl (by omega)
          · exact Or.inr (Or.inl (by omega))
        · exact Or.inr (Or.inr h2)
      · rw[List.drop_eq_getElem_cons hi]
        intro y hy;rcases List.mem_cons.1 hy with rfl|hy
        · omega
        · exact h4 y hy
  obtain⟨r,h1,h2,h3,h4⟩:=key 1 h (l[0]);have e:rd l 0=l[0]:=qK (i:=0) h;have hd:l=l[0]::l.drop 1:=by have:=List.drop_eq_getElem_cons h;rw[List.drop_zero]at this;exact this
  refine⟨r,gn (by omega) (gm (by omega) (by rw[e];exact h1)),?_,fun y hy=>?_⟩
  · rcases h2 with h2|h2
    · rw[h2];exact List.getElem_mem h
    · exact List.mem_of_mem_drop h2
  · rw[hd]at hy
    rcases List.mem_cons.1 hy with rfl|hy
    · exact h3
    · exact h4 y hy
theorem DY {l:List Int} (h:0<l.length) (hn:l.length≤9223372036854775807):∃r,Ev (fun k=>jy.f k l) r∧r∈l∧∀y∈l,y≤r:=by
  unfold jy.f
  have key:∀i,i≤l.length→∀m:Int,∃r,Ev (fun k=>jy.l0 k l m (i:Int)) r∧(r=m∨r∈l.drop i)∧m≤r∧∀y∈l.drop i,y≤r:=by
    apply down
    · intro m
      exact⟨m,Ev.step (fun k=>rfl) (gn (by omega) (Ev.now _)),Or.inl rfl,Int.le_refl _,fun y hy=>by rw[List.drop_length]at hy;simp at hy⟩
    · intro i hi ih m
      obtain⟨r,h1,h2,h3,h4⟩:=ih (mx m l[i]);obtain⟨m1,m2,m3⟩:=Bx m l[i];refine⟨r,Ev.step (fun k=>rfl) (gm (by omega) (gm (by omega) (by rw[qK hi,w1 hi hn];exact h1))),?_,by omega,?_⟩
      · rw[List.drop_eq_getElem_cons hi,List.mem_cons]
        rcases h2 with h2|h2
        · rcases m1 with m1|m1
          · exact Or.inl (by omega)
          · exact Or.inr (Or.inl (by omega))
        · exact Or.inr (Or.inr h2)
      · rw[List.drop_eq_getElem_cons hi]
        intro y hy;rcases List.mem_cons.1 hy with rfl|hy
        · omega
        · exact h4 y hy
  obtain⟨r,h1,h2,h3,h4⟩:=key 1 h (l[0]);have e:rd l 0=l[0]:=qK (i:=0) h;have hd:l=l[0]::l.drop 1:=by have:=List.drop_eq_getElem_cons h;rw[List.drop_zero]at this;exact this
  refine⟨r,gn (by omega) (gm (by omega) (by rw[e];exact h1)),?_,fun y hy=>?_⟩
  · rcases h2 with h2|h2
    · rw[h2];exact List.getElem_mem h
    · exact List.mem_of_mem_drop h2
  · rw[hd]at hy
    rcases List.mem_cons.1 hy with rfl|hy
    · exact h3
    · exact h4 y hy
theorem zV (t:Int) {l:List Int} (hn:l.length≤9223372036854775807):Ev (fun k=>kG.f k t l) (nA t l):=by
  unfold kG.f;refine ie (th t) ?_;by_cases ht:1≤t∧t≤3
  · refine gm (decide_eq_true ht) (gm (by omega) ?_)
    rw[tl ht];refine Ev.step (fun k=>rfl) ?_;simp only[kG.j0];by_cases hl:l.length=wn t
    · refine gn (by rw[hl];simp) ?_
      have h2:=(rm t).2;obtain⟨m,hm,hm1,hm2⟩:=DX (l:=l) (by omega) hn;obtain⟨M,hM,hM1,hM2⟩:=DY (l:=l) (by omega) hn;refine Ev.bind hm ?_;by_cases h0:m=0
      · refine gm h0 (Ev.bind hM (kQ (Ev.now _) (decide_eq_decide.2 ?_)))
        subst h0;constructor
        · intro h9
          exact⟨ht,hl,fun x hx=>⟨hm2 x hx,Int.le_trans (hM2 x hx) h9⟩,hm1⟩
        · intro h
          exact(h.2.2.1 M hM1).2
      · refine gn h0 (kQ (Ev.now _) ?_)
        unfold nA;rw[decide_eq_false];rintro⟨_,_,h1,h2⟩;have:=hm2 0 h2;have:=(h1 m hm1).1;omega
    · refine gm (by rw[bne_iff_ne];omega) (kQ (Ev.now _) ?_)
      unfold nA;rw[decide_eq_false (fun k=>hl k.2.1)]
  · refine gn (by rw[decide_eq_false ht];decide) (Ev.step (fun k=>rfl) ?_)
    simp only[kG.j0];refine gm trivial (kQ (Ev.now _) ?_);unfold nA;rw[decide_eq_false (fun k=>ht k.1)]
theorem CH {l:List Int} (hn:l.length≤8):∃r,Ev (fun _=>po.f l) r∧FJ r r.length∧r.length=l.length∧∀y,y∈r↔y∈l:=by
  have hs:(l.mergeSort fun x y=>decide (x≤y)).Pairwise (fun a b=>decide (a≤b)=true):=List.pairwise_mergeSort (fun a b c h1 h2=>by simp only[decide_eq_true_eq]at*;omega) (fun a b=>by simp only[Bool.or_eq_true,decide_eq_true_eq];omega) l;have hp:=List.mergeSort_perm l fun x y=>decide (x≤y)
  refine⟨_,Dj (if_pos (by omega)),fun p q h1 h2=>?_,hp.length_eq,fun y=>hp.mem_iff⟩;have:=List.pairwise_iff_getElem.1 hs p q (by omega) h2 h1;rw[List.getD_eq_getElem?_getD,List.getD_eq_getElem?_getD,List.getElem?_eq_getElem h2,List.getElem?_eq_getElem (show p<(l.mergeSort fun x y=>decide (x≤y)).length by omega)];exact of_decide_eq_true this
theorem xi {l:List Int} (hs:FJ l l.length):(Lib.compact l).Pairwise (·<·)∧∀y,y∈Lib.compact l↔y∈l:=by
  have hd:∀m,m<l.length→l.toArray[m]! =l.getD m 0:=fun m hm=>by simp[hm]
  have key:∀m,m≤l.length→(Lib.compactUpTo l.toArray m).Pairwise (·<·)∧(∀y∈Lib.compactUpTo l.toArray m,∃p,p<m∧l.getD p 0=y)∧∀p,p<m→l.getD p 0∈Lib.compactUpTo l.toArray m:=by
    intro m;induction m with
    |zero=>intro _;exact⟨List.Pairwise.nil,fun y hy=>by simp[Lib.compactUpTo]at hy,fun p hp=>by omega⟩
    |succ m ih=>
      intro hm;obtain⟨h1,h2,h3⟩:=ih (by omega);rw[Lib.compactUpTo_succ];by_cases hk:Lib.keeps l.toArray m=true
      · rw[if_pos hk,hd m (by omega)]
        refine⟨List.pairwise_append.2 ⟨h1,List.pairwise_singleton _ _,fun y hy z hz=>?_⟩,fun y hy=>?_,fun p hp=>?_⟩
        · rw[List.mem_singleton.1 hz]
          obtain⟨p,hp,rfl⟩:=h2 y hy;unfold Lib.keeps at hk;rw[decide_eq_true_iff]at hk;rcases hk with hk|hk
          · omega
          · rw[hd m (by omega),hd (m - 1) (by omega)]at hk
            have a:=hs (m - 1) m (by omega) (by omega);by_cases e:p=m - 1
            · rw[e];omega
            · have:=hs p (m - 1) (by omega) (by omega);omega
        · rcases List.mem_append.1 hy with hy|hy
          · obtain⟨p,hp,e⟩:=h2 y hy
            exact⟨p,by omega,e⟩
          · exact⟨m,by omega,(List.mem_singleton.1 hy).symm⟩
        · rw[List.mem_append]
          by_cases e:p=m
          · rw[e];exact Or.inr (List.mem_singleton.2 rfl)
          · exact Or.inl (h3 p (by omega))
      · rw[if_neg hk,List.append_nil]
        refine⟨h1,fun y hy=>by obtain⟨p,hp,e⟩:=h2 y hy;exact⟨p,by omega,e⟩,fun p hp=>?_⟩;by_cases e:p=m
        · unfold Lib.keeps at hk
          rw[decide_eq_true_iff]at hk
          have hk2:l.toArray[m]! =l.toArray[m - 1]! :=by
            by_cases q:l.toArray[m]! =l.toArray[m - 1]!
            · exact q
            · exact absurd (Or.inr q) hk
          have hm0:m≠0:=fun q=>hk (Or.inl q)
          rw[hd m (by omega),hd (m - 1) (by omega)]at hk2;rw[e,hk2];exact h3 (m - 1) (by omega)
        · exact h3 p (by omega)
  obtain⟨h1,h2,h3⟩:=key l.length (Nat.le_refl _);refine⟨h1,fun y=>?_⟩;rw[xM (l:=l)]
  show y∈Lib.compactUpTo l.toArray l.length↔_
  constructor
  · intro hy
    obtain⟨p,hp,e⟩:=h2 y hy;exact⟨p,hp,e⟩
  · rintro⟨p,hp,rfl⟩
    exact h3 p hp
theorem Bz {c:List Int} (hc:c.Pairwise (·<·)) (h0:∀x∈c,0≤x) (hn:c.length≤100) {x:Int} (hx:x∈c):Ev (fun k=>iY.f k c x) (uH c x:Int):=by
  unfold iY.f;obtain⟨p,hp,rfl⟩:=List.mem_iff_getElem.1 hx;rw[CG hc h0 hp];have hget:=List.pairwise_iff_getElem.1 hc
  have key:∀i,i≤p→Ev (fun k=>iY.l0 k c c[p] (c.length:Int) (i:Int)) (p:Int):=by
    apply down
    · exact Ev.step (fun k=>rfl) (gm (by omega) (gm (by omega) (gm (by omega) (gm (qK hp).symm (Ev.now _)))))
    · intro i hi ih
      have hne:¬c[p]=rd c (i:Int):=by rw[qK (by omega)];have:=hget i p (by omega) hp hi;omega
      refine Ev.step (fun k=>rfl) (gm (by omega) (gm (by omega) (gm (by omega) (gn hne ?_))));rw[w1 (n:=c.length) (by omega) (by omega)];exact ih
  exact key 0 (Nat.zero_le _)
theorem zp {l:List Int} (hn:l.length≤8) (h0:∀x∈l,0≤x):Ev (fun k=>jE.f k l) (qh l):=by
  unfold jE.f;obtain⟨r,h1,h2,h3,h4⟩:=CH hn;obtain⟨c1,c2⟩:=xi h2;have hcl:=mi.len r;refine ie rfl (gm (by show 0+l.length<_;omega) ?_);rw[List.nil_append];refine Ev.bind h1 (ie rfl ?_);obtain⟨c,ec⟩:∃c,c=Lib.compact r:=⟨_,rfl⟩;rw[←ec]at c1 c2 hcl⊢;have hcm:∀y,y∈c↔y∈l:=fun y=>(c2 y).trans (h4 y)
  have key:∀i,i≤l.length→Ev (fun k=>jE.l0 k c ((l.take i).map fun x=>(uH l x:Int)) l (l.length:Int) (i:Int)) (qh l):=by
    apply down
    · refine Ev.step (fun k=>rfl) (gn (by omega) (kQ (Ev.now _) ?_))
      rw[List.take_length];rfl
    · intro i hi ih
      have hx:=Bz c1 (fun x hx=>h0 x ((hcm x).1 hx)) (by omega) ((hcm l[i]).2 (List.getElem_mem hi));rw[zU hcm]at hx;refine Ev.step (fun k=>rfl) (gm (by omega) (gm (by omega) (gm (by omega) ?_)));rw[qK hi];refine Ev.bind hx (gm (by rw[List.length_map,List.length_take];omega) ?_);rw[w1 hi (by omega)];rw[List.take_succ_eq_append_getElem hi,List.map_append]at ih;exact ih
  exact key 0 (Nat.zero_le _)
theorem xN {l m:List Int} (hn:l.length≤9223372036854775807):Ev (fun k=>iG.f k l m) (decide (l=m)):=by
  unfold iG.f;by_cases hl:l.length=m.length
  · refine gm (by omega) ?_
    have key:∀i,i≤l.length→Ev (fun k=>iG.l0 k l m (l.length:Int) (i:Int)) (decide (l.drop i=m.drop i)):=by
      apply down
      · refine Ev.step (fun k=>rfl) (gn (by omega) (kQ (Ev.now _) ?_))
        rw[List.drop_length,List.drop_of_length_le (by omega)];exact(decide_eq_true rfl).symm
      · intro i hi ih
        refine Ev.step (fun k=>rfl) (gm (by omega) (gm (by omega) (gm (by omega) (gm (by omega) ?_))));rw[qK hi,qK (by omega),List.drop_eq_getElem_cons hi,List.drop_eq_getElem_cons (l:=m) (by omega)];by_cases e:l[i]=m[i]
        · refine gm e ?_
          rw[w1 hi hn];refine kQ ih (decide_eq_decide.2 ?_);rw[List.cons.injEq];exact⟨fun h=>⟨e,h⟩,fun h=>h.2⟩
        · refine gn e (kQ (Ev.now _) ?_)
          rw[decide_eq_false (fun h=>e (List.cons.inj h).1)]
    have:=key 0 (Nat.zero_le _);rw[List.drop_zero,List.drop_zero]at this;exact this
  · refine gn (by omega) (kQ (Ev.now _) ?_)
    rw[decide_eq_false (fun h=>hl (by rw[h]))]
def all (t:Int):Nat:=if t=1 then 3 else if t=2 then 15 else 255
theorem tm (t:Int):all t<256:=by unfold all;split<;>(try split)<;>omega
theorem tn {t:Int} (h:1≤t∧t≤3):mh.f t=some (all t:Int):=by
  rcases three h with rfl|rfl|rfl<;>decide+kernel
theorem rP {t:Int} (h:1≤t∧t≤3):kt.f t=some (all t:Int):=by
  rcases three h with rfl|rfl|rfl<;>decide+kernel
def BB (t s:Int):Bool:=decide ((1≤t∧t≤3)∧0≤s∧s≤all t)
theorem sK (s w:Nat) (h:w≤62):kz.f (s:Int) (w:Int)=some ((bi s w:Nat):Int):=by
  unfold kz.f;rw[if_pos (by omega),CB s w h]
theorem DZ (a b i:Nat):bi a i*bi b i=bi (a&&& b) i:=by
  rw[uq,uq,uq,Nat.testBit_and];cases a.testBit i<;>cases b.testBit i<;>rfl
theorem Dk (a i:Nat):bi a i≤1:=by
  have:bi a i<2:=Nat.mod_lt _ (by decide);omega
theorem tG {a b:Nat} (ha:a<256):Ev (fun k=>ki.f k (a:Int) (b:Int)) ((a&&& b:Nat):Int):=by
  unfold ki.f
  have key:∀(i:Nat),i≤8→Ev (fun k=>ki.l0 k (a:Int) (b:Int) (((a&&& b)%2^i:Nat):Int) (i:Int)) ((a&&& b:Nat):Int):=by
    apply down
    · refine Ev.step (fun k=>rfl) (gn (by omega) (kQ (Ev.now _) ?_))
      have:a&&& b<2^8:=Nat.lt_of_le_of_lt Nat.and_le_left ha;rw[Nat.mod_eq_of_lt this]
    · intro i hi ih
      refine Ev.step (fun k=>rfl) (gm (by omega) (ie (sK a i (by omega)) (ie (sK b i (by omega)) (gm (by omega) ?_))));have hp:(2:Nat)^i≤2^7:=Nat.pow_le_pow_right (by decide) (by omega);have hm:(a&&& b)%2^i<2^i:=Nat.mod_lt _ (Nat.two_pow_pos i);have hle:=Dk (a&&& b) i
      have e1:wrap64 (((bi a i:Nat):Int)*((bi b i:Nat):Int))=((bi (a&&& b) i:Nat):Int):=by
        rw[←Int.natCast_mul,DZ];exact su (by omega) (by omega)
      have hmul:2^i*bi (a&&& b) i≤2^7:=by
        have:=Nat.mul_le_mul hp hle;omega
      have e2:wrap64 ((((a&&& b)%2^i:Nat):Int)+shl .i64 ((bi (a&&& b) i:Nat):Int) (i:Int))=(((a&&& b)%2^(i+1):Nat):Int):=by
        rw[GY _ i (by omega),←Int.natCast_mul,Nat.mul_comm,CF];generalize 2^i*bi (a&&& b) i=z at hmul;generalize(a&&& b)%2^i=y at hm;generalize 2^i=p at hp hm;rw[su (n:=((z:Nat):Int)) (by omega) (by omega),su (by omega) (by omega)];omega
      rw[e1,e2,w1 hi (by omega)];exact ih
  have:=key 0 (Nat.zero_le _);simpa [Nat.mod_one] using this
theorem zq {S i:Nat} (h:S<2^i):S+2^i=S|||2^i:=by
  have:=Nat.two_pow_add_eq_or_of_lt h 1;rw[Nat.mul_one]at this;rw[Nat.add_comm,this,Nat.or_comm]
theorem zr {S i:Nat} (h:S<2^i) (j:Nat):(S+2^i).testBit j=(S.testBit j||decide (i=j)):=by
  rw[zq h,Nat.testBit_or,Nat.testBit_two_pow]
theorem tH {p:Int→Option Bool} {q:Nat→Bool}:∀(n x s:Nat),x+n≤8→s<2^x→(∀y:Nat,y<x+n→p (y:Int)=some (q y))→
    ∃r:Nat,jJ.l p n (x:Int) (s:Int)=some (r:Int)∧r<2^(x+n)∧∀w,r.testBit w=true↔s.testBit w=true∨(x≤w∧w<x+n∧q w=true)
  |0,x,s,_,hs,_=>⟨s,rfl,hs,fun w=>⟨Or.inl,fun h=>h.resolve_right fun k=>by omega⟩⟩
  |n+1,x,s,h8,hs,hp=>by
    have hx:2^x≤2^7:=Nat.pow_le_pow_right (by decide) (by omega)
    have hx2:2^(x+1)=2^x+2^x:=by rw[Nat.pow_succ];omega
    have hcast:(x:Int)+1=((x+1:Nat):Int):=by omega
    by_cases hq:q x=true
    · obtain⟨r,h1,h2,h3⟩:=tH n (x+1) (s+2^x) (by omega) (by omega) (fun y hy=>hp y (by omega))
      refine⟨r,?_,by rw[show x+(n+1)=x+1+n from by omega];exact h2,fun w=>?_⟩
      · show((p (x:Int)).bind fun b=>_)=_
        rw[hp x (by omega),Option.bind_some,hq,if_pos rfl,CA x (by omega),FI _ _ (by omega) (by omega),←zq hs,hcast]
        exact h1
      · rw[h3,zr hs,Bool.or_eq_true,decide_eq_true_iff]
        constructor
        · rintro((k|rfl)|k)
          · exact Or.inl k
          · exact Or.inr ⟨by omega,by omega,hq⟩
          · exact Or.inr ⟨by omega,by omega,k.2.2⟩
        · rintro(k|⟨k1,k2,k3⟩)
          · exact Or.inl (Or.inl k)
          · by_cases e:x=w
            · exact Or.inl (Or.inr e)
            · exact Or.inr ⟨by omega,by omega,k3⟩
    · obtain⟨r,h1,h2,h3⟩:=tH n (x+1) s (by omega) (by omega) (fun y hy=>hp y (by omega))
      refine⟨r,?_,by rw[show x+(n+1)=x+1+n from by omega];exact h2,fun w=>?_⟩
      · show((p (x:Int)).bind fun b=>_)=_
        rw[hp x (by omega),Option.bind_some,if_neg hq,hcast]
        exact h1
      · rw[h3]
        constructor
        · rintro(k|k)
          · exact Or.inl k
          · exact Or.inr ⟨by omega,by omega,k.2.2⟩
        · rintro(k|⟨k1,k2,k3⟩)
          · exact Or.inl k
          · by_cases e:x=w
            · rw[←e]at k3;exact absurd k3 hq
            · exact Or.inr ⟨by omega,by omega,k3⟩
def qM (l:List Int) (s:Nat):Nat→Nat→Int→Int
  |0,_,m=>m
  |d+1,i,m=>qM l s d (i+1) (if s.testBit i=true then mn m (l.getD i 0)else m)
def leastOf (l:List Int) (s:Nat):Int:=qM l s l.length 0 10
def xj (q:Nat→Bool):Nat→Nat
  |0=>0
  |n+1=>xj q n+(if q n=true then 2^n else 0)
theorem ud (q:Nat→Bool):∀n,xj q n<2^n
  |0=>Nat.one_pos
  |n+1=>by
    have h:=ud q n
    unfold xj
    rw[Nat.pow_succ]
    split<;>omega
theorem ue (q:Nat→Bool) (w:Nat):∀n,(xj q n).testBit w=(decide (w<n)&&q w)
  |0=>by simp[xj]
  |n+1=>by
    have h:=ue q w n
    unfold xj
    by_cases hq:q n=true
    · rw[if_pos hq,zr (ud q n),h]
      by_cases e:n=w
      · subst e;simp[hq]
      · rw[decide_eq_false e,Bool.or_false]
        congr 1
        exact decide_eq_decide.2 (by omega)
    · rw[if_neg hq,Nat.add_zero,h]
      by_cases e:n=w
      · subst e
        have:q n=false:=by simpa using hq
        simp[this]
      · congr 1
        exact decide_eq_decide.2 (by omega)
def jC (l:List Int) (s:Nat):Nat:=xj (fun w=>s.testBit w&&decide (l.getD w 0=leastOf l s)) l.length
theorem sM (l:List Int) (s:Nat) (h:∀x∈l,0≤x):∀(d i:Nat) (m:Int),0≤m→m≤10→0≤qM l s d i m∧qM l s d i m≤10
  |0,_,m,h0,h1=>⟨h0,h1⟩
  |d+1,i,m,h0,h1=>by
    unfold qM
    have hg:0≤l.getD i 0:=by
      by_cases hi:i<l.length
      · rw[List.getD_eq_getElem?_getD,List.getElem?_eq_getElem hi];exact h _ (List.getElem_mem hi)
      · rw[List.getD_eq_getElem?_getD,List.getElem?_eq_none (by omega)];exact Int.le_refl _
    obtain⟨a,b,c⟩:=uc m (l.getD i 0);split
    · exact sM l s h d (i+1) _ (by omega) (by omega)
    · exact sM l s h d (i+1) _ h0 h1
theorem uI {l:List Int} (hn:l.length≤60) {s:Nat} (hs:s<256):Ev (fun k=>jr.f k l (s:Int)) (leastOf l s):=by
  unfold jr.f leastOf
  have key:∀i,i≤l.length→∀m:Int,Ev (fun k=>jr.l0 k (s:Int) m l (l.length:Int) (i:Int)) (qM l s (l.length - i) i m):=by
    apply down
    · intro m
      rw[Nat.sub_self];exact Ev.step (fun k=>rfl) (gn (by omega) (Ev.now _))
    · intro i hi ih m
      rw[show l.length - i=(l.length - (i+1))+1 from by omega];unfold qM;refine Ev.step (fun k=>rfl) (gm (by omega) (gm (by omega) (gm (by omega) ?_)));rw[xh s i (by omega) (by omega),w1 hi (by omega),tF];by_cases hb:s.testBit i=true
      · rw[if_pos hb]
        exact gm (sv.2 hb) (ih _)
      · rw[if_neg hb]
        exact gn (fun k=>hb (sv.1 k)) (ih _)
  exact key 0 (Nat.zero_le _) 10
theorem sN {t:Int} (ht:1≤t∧t≤3) {l:List Int} (hl:l.length=wn t) {s:Nat} (hs:s<2^wn t):Ev (fun k=>jw.f k t l (s:Int)) ((jC l s:Nat):Int):=by
  have h8:=(rm t).1;have hs8:s<256:=Nat.lt_of_lt_of_le hs (Nat.pow_le_pow_right (n:=2) (by decide) h8);unfold jw.f;refine Ev.bind (uI (by omega) hs8) ?_
  have hp:∀y:Nat,y<0+wn t→jw.p l (leastOf l s) (y:Int)=some (decide (l.getD y 0=leastOf l s)):=by
    intro y hy;unfold jw.p;rw[if_pos (by omega),if_pos (by omega),tF]
  obtain⟨r,h1,h2,h3⟩:=tH (p:=jw.p l (leastOf l s)) (q:=fun y=>decide (l.getD y 0=leastOf l s)) (wn t) 0 0 (by omega) Nat.one_pos hp
  have hf:jJ.f (jw.p l (leastOf l s)) t=some (r:Int):=by
    unfold jJ.f;rw[if_pos (by omega),if_pos (by omega),show 2^t.toNat=wn t from by rcases three ht with rfl|rfl|rfl<;>rfl];exact h1
  refine ie hf (kQ (Ev.now _) ?_);rw[Nat.zero_add]at h2;have IA:r<256:=Nat.lt_of_lt_of_le h2 (Nat.pow_le_pow_right (n:=2) (by decide) (by omega));rw[band s r (Nat.lt_trans hs8 (by decide)) (Nat.lt_trans IA (by decide))];congr 1;apply Nat.eq_of_testBit_eq;intro w;unfold jC;rw[Nat.testBit_and,ue,hl];have hb:=h3 w;rw[Nat.zero_testBit]at hb;by_cases hw:w<wn t
  · rw[decide_eq_true hw,Bool.true_and]
    congr 1;rw[Bool.eq_iff_iff,hb];constructor
    · rintro(k|k)
      · cases k
      · exact k.2.2
    · intro k
      exact Or.inr ⟨Nat.zero_le _,by omega,k⟩
  · have hf:r.testBit w=false:=by
      rw[Bool.eq_false_iff];intro k;rcases hb.1 k with k|k
      · cases k
      · omega
    rw[decide_eq_false hw,hf,Bool.and_false,Bool.false_and]
theorem rX {l:List Int} (hn:l.length≤8) (s:Nat):Ev (fun k=>gZ.f k l (s:Int)) ((jC l s:Nat):Int):=by
  unfold gZ.f
  have two:∀i,i≤l.length→Ev (fun k=>gZ.l1 k l (s:Int) (leastOf l s) ((xj (fun w=>s.testBit w&&decide (l.getD w 0=leastOf l s)) i:Nat):Int) (i:Int)) ((jC l s:Nat):Int):=by
    apply down
    · exact Ev.step (fun k=>rfl) (gn (by omega) (Ev.now _))
    · intro i hi ih
      have hb:=ud (fun w=>s.testBit w&&decide (l.getD w 0=leastOf l s)) i;have hp:2^i≤2^7:=Nat.pow_le_pow_right (by decide) (by omega);refine Ev.step (fun k=>rfl) (gm (by omega) (ie (sK s i (by omega)) ?_));rw[w1 hi (by omega)];unfold xj at ih;by_cases hbit:s.testBit i=true
      · refine gm (sv.2 hbit) (gm (by omega) ?_)
        rw[tF];by_cases he:l.getD i 0=leastOf l s
        · refine gm he ?_
          rw[CA i (by omega),su (by omega) (by omega)];rw[if_pos (by rw[hbit,decide_eq_true he];rfl)]at ih;exact ih
        · refine gn he ?_
          rw[if_neg (by rw[decide_eq_false he,Bool.and_false];decide)]at ih;exact ih
      · refine gn (fun k=>hbit (sv.1 k)) ?_
        rw[if_neg (by simp[hbit])]at ih;exact ih
  have one:∀i,i≤l.length→∀m:Int,qM l s (l.length - i) i m=leastOf l s→Ev (fun k=>gZ.l0 k l (s:Int) m (i:Int)) ((jC l s:Nat):Int):=by
    apply down
    · intro m hm
      rw[Nat.sub_self]at hm;have:m=leastOf l s:=hm;rw[this];exact Ev.step (fun k=>rfl) (gn (by omega) (two 0 (Nat.zero_le _)))
    · intro i hi ih m hm
      rw[show l.length - i=(l.length - (i+1))+1 from by omega]at hm;unfold qM at hm;refine Ev.step (fun k=>rfl) (gm (by omega) (ie (sK s i (by omega)) ?_));rw[w1 hi (by omega)];by_cases hbit:s.testBit i=true
      · refine gm (sv.2 hbit) (gm (by omega) ?_)
        rw[tF];rw[if_pos hbit]at hm;exact ih _ hm
      · refine gn (fun k=>hbit (sv.1 k)) ?_
        rw[if_neg hbit]at hm;exact ih _ hm
  exact one 0 (Nat.zero_le _) 10 rfl
def raise (l:List Int) (F:Nat):List Int:=l.mapIdx fun w r=>if F.testBit w=true then r else r+10
theorem qu (l:List Int) (F:Nat):(raise l F).length=l.length:=List.length_mapIdx
theorem raise_at (l:List Int) (F:Nat) {i:Nat} (h:i<l.length):(raise l F)[i]'(by rw[qu];exact h)=if F.testBit i=true then l[i]else l[i]+10:=by
  unfold raise;rw[List.getElem_mapIdx]
theorem tI {l:List Int} {F:Nat} {y:Int} (h:y∈raise l F):∃x∈l,y=x∨y=x+10:=by
  obtain⟨i,hi,rfl⟩:=List.mem_iff_getElem.1 h;rw[qu]at hi;rw[raise_at l F hi];refine⟨l[i],List.getElem_mem hi,?_⟩;split
  · exact Or.inl rfl
  · exact Or.inr rfl
def wB (l:List Int) (way:Int) (s:Nat):List Int:=qh (raise l (if way=0 then jC l s else s))
theorem xO {l:List Int} (hn:l.length≤8) (s:Nat):jC l s<256:=Nat.lt_of_lt_of_le (ud _ _) (Nat.pow_le_pow_right (n:=2) (by decide) hn)
theorem yo {t:Int} (ht:1≤t∧t≤3) {l:List Int} (hl:l.length=wn t) (hx:∀x∈l,0≤x∧x≤9) {s:Nat} (hs:s<2^wn t) (way:Int):Ev (fun k=>gY.f k t l way (s:Int)) (wB l way s):=by
  have h8:=(rm t).1;have hs8:s<256:=Nat.lt_of_lt_of_le hs (Nat.pow_le_pow_right (n:=2) (by decide) h8)
  have go:∀F:Nat,F<256→Ev (fun k=>gY.j0 k l (F:Int)) (qh (raise l F)):=by
    intro F hF;have GZ:=zp (l:=raise l F) (by rw[qu];omega) (fun y hy=>by obtain⟨x,h1,h2⟩:=tI hy;have:=hx x h1;omega)
    have key:∀i,i≤l.length→Ev (fun k=>gY.l0 k (F:Int) ((raise l F).take i) l (l.length:Int) (i:Int)) (qh (raise l F)):=by
      apply down
      · refine Ev.step (fun k=>rfl) (gn (by omega) ?_)
        rw[List.take_of_length_le (by rw[qu];omega)];exact Ev.bind GZ (Ev.now _)
      · intro i hi ih
        have hi2:i<(raise l F).length:=by rw[qu];exact hi
        have hlen:((raise l F).take i).length<17592186044416:=by rw[List.length_take];omega
        have hxi:=hx _ (List.getElem_mem hi);rw[List.take_succ_eq_append_getElem hi2,raise_at l F hi]at ih;refine Ev.step (fun k=>rfl) (gm (by omega) (gm (by omega) (gm (by omega) ?_)));rw[xh F i (by omega) (by omega),w1 hi (by omega),qK hi];by_cases hb:F.testBit i=true
        · rw[if_pos hb]at ih
          exact gn (fun k=>by rw[zn.1 k]at hb;cases hb) (gm hlen ih)
        · rw[if_neg hb]at ih
          refine gm (zn.2 (by simpa using hb)) (gm hlen ?_);rw[su (by omega) (by omega)];exact ih
    exact Ev.step (f:=fun k=>gY.l0 k (F:Int) (([]:List Int)) l (l.length:Int) 0) (fun k=>rfl) (key 0 (Nat.zero_le _))
  unfold gY.f wB;by_cases hw:way=0
  · rw[if_pos hw]
    exact gm hw (Ev.bind (sN ht hl hs) (go _ (xO (by omega) s)))
  · rw[if_neg hw]
    exact gn hw (go s hs8)
theorem zW {l:List Int} (hn:l.length≤8) (h0:∀x∈l,0≤x):Ev (fun k=>iQ.f k l) (qh l):=by
  unfold iQ.f
  have three_:∀(out:List Int) (w:Nat) (seen:List Int) (v:Nat) (hv:v<l.length) (res:List Int),seen.length≤100→∀j,j≤seen.length→∀b:Bool,
      Ev (fun k=>iQ.l1 k l out (w:Int) (if b=true∨l[v]∈seen.drop j then seen else seen++ [l[v]]) ((v+1:Nat):Int)) res→Ev (fun k=>iQ.l2 k l out (w:Int) seen (v:Int) b (j:Int)) res:=by
    intro out w seen v hv res hs;apply down (P:=fun j=>∀b:Bool,Ev (fun k=>iQ.l1 k l out (w:Int) (if b=true∨l[v]∈seen.drop j then seen else seen++ [l[v]]) ((v+1:Nat):Int)) res→Ev (fun k=>iQ.l2 k l out (w:Int) seen (v:Int) b (j:Int)) res)
    · intro b hb
      refine Ev.step (fun k=>rfl) (gn (by omega) ?_);rw[List.drop_length]at hb;cases b with
      |true=>
        refine gm rfl ?_;rw[w1 hv (by omega)];rw[if_pos (Or.inl rfl)]at hb;exact hb
      |false=>
        refine gn (by decide) (gm (by omega) (gm (by omega) (gm (by omega) ?_)));rw[w1 hv (by omega),qK hv];rw[if_neg (by simp)]at hb;exact hb
    · intro j hj ih b hb
      rw[List.drop_eq_getElem_cons hj]at hb;refine Ev.step (fun k=>rfl) (gm (by omega) ?_);cases b with
      |true=>
        refine gm rfl ?_;rw[w1 hj (by omega)];refine ih true ?_;rw[if_pos (Or.inl rfl)]at hb⊢;exact hb
      |false=>
        refine gn (by decide) (gm (by omega) (gm (by omega) (gm (by omega) ?_)));rw[w1 hj (by omega),qK hj,qK hv];refine ih _ ?_
        have:((seen[j]==l[v])=true∨l[v]∈seen.drop (j+1))↔(false=true∨l[v]∈seen[j]::seen.drop (j+1)):=by
          rw[List.mem_cons,beq_iff_eq];constructor
          · rintro(h|h)
            · exact Or.inr (Or.inl h.symm)
            · exact Or.inr (Or.inr h)
          · rintro(h|h|h)
            · cases h
            · exact Or.inl h.symm
            · exact Or.inr h
        simp only[this];exact hb
  have two:∀(out:List Int) (w:Nat) (hw:w<l.length) (res:List Int),out.length≤100→Ev (fun k=>iQ.l0 k l (out++ [(uH l l[w]:Int)]) ((w+1:Nat):Int)) res→
      ∀v,v≤l.length→∀seen:List Int,seen.Nodup→seen.length≤v→(∀y,y∈seen↔y∈l.take v∧y<l[w])→Ev (fun k=>iQ.l1 k l out (w:Int) seen (v:Int)) res:=by
    intro out w hw res ho hres;have hw0:=h0 _ (List.getElem_mem hw);apply down
    · intro seen hd _ hm
      refine Ev.step (fun k=>rfl) (gn (by omega) (gm (by omega) ?_));rw[w1 hw (by omega)]
      have e:seen.length=uH l l[w]:=tE _ seen hd (fun y=>by
        rw[hm y,List.take_length];constructor
        · rintro⟨a,b⟩;exact⟨a,h0 y a,by omega⟩
        · rintro⟨a,b,c⟩;exact⟨a,by omega⟩)
      rw[e];exact hres
    · intro v hv ih seen hd hsl hm
      have hv0:=h0 _ (List.getElem_mem hv);refine Ev.step (fun k=>rfl) (gm (by omega) (gm (by omega) (gm (by omega) (gm (by omega) ?_))));rw[qK hv,qK hw];refine three_ out w seen v hv res (by omega) 0 (Nat.zero_le _) _ ?_;rw[List.drop_zero];have hmem:∀y,y∈l.take (v+1)↔y∈l.take v∨y=l[v]:=fun y=>by rw[List.take_succ_eq_append_getElem hv,List.mem_append,List.mem_singleton]
      by_cases hc:decide (l[v]≥l[w])=true∨l[v]∈seen
      · rw[if_pos hc]
        refine ih seen hd (by omega) (fun y=>?_);rw[hm y,hmem y];constructor
        · rintro⟨a,b⟩;exact⟨Or.inl a,b⟩
        · rintro⟨a|a,b⟩
          · exact⟨a,b⟩
          · rcases hc with hc|hc
            · have:=of_decide_eq_true hc;omega
            · have:=(hm _).1 hc;rw[a];exact⟨this.1,by omega⟩
      · rw[if_neg hc]
        have h1:¬l[v]≥l[w]:=fun k=>hc (Or.inl (decide_eq_true k))
        have h2:l[v]∉seen:=fun k=>hc (Or.inr k)
        refine ih (seen++ [l[v]]) ?_ (by rw[List.length_append,List.length_singleton];omega) (fun y=>?_)
        · rw[List.nodup_append]
          refine⟨hd,by simp,fun a ha b hb=>?_⟩;rw[List.mem_singleton.1 hb];intro e;exact h2 (e▸ha)
        · rw[List.mem_append,List.mem_singleton,hm y,hmem y]
          constructor
          · rintro(⟨a,b⟩|a)
            · exact⟨Or.inl a,b⟩
            · exact⟨Or.inr a,by omega⟩
          · rintro⟨a|a,b⟩
            · exact Or.inl ⟨a,b⟩
            · exact Or.inr a
  have one:∀w,w≤l.length→Ev (fun k=>iQ.l0 k l ((l.take w).map fun x=>(uH l x:Int)) (w:Int)) (qh l):=by
    apply down
    · refine Ev.step (fun k=>rfl) (gn (by omega) (kQ (Ev.now _) ?_))
      rw[List.take_length];rfl
    · intro w hw ih
      rw[List.take_succ_eq_append_getElem hw,List.map_append]at ih;exact Ev.step (fun k=>rfl) (gm (by omega) (two _ w hw _ (by rw[List.length_map,List.length_take];omega) ih 0 (Nat.zero_le _) [] List.nodup_nil (Nat.le_refl _) (fun y=>by simp)))
  exact one 0 (Nat.zero_le _)
theorem wL {l:List Int} (hn:l.length≤8) (hx:∀x∈l,0≤x∧x≤9) (F:Nat):Ev (fun k=>jN.f k l (F:Int)) (qh (raise l F)):=by
  unfold jN.f;have GZ:=zW (l:=raise l F) (by rw[qu];omega) (fun y hy=>by obtain⟨x,h1,h2⟩:=tI hy;have:=hx x h1;omega)
  have key:∀i,i≤l.length→Ev (fun k=>jN.l0 k l (F:Int) ((raise l F).take i) (i:Int)) (qh (raise l F)):=by
    apply down
    · refine Ev.step (fun k=>rfl) (gn (by omega) ?_)
      rw[List.take_of_length_le (by rw[qu];omega)];exact Ev.bind GZ (Ev.now _)
    · intro i hi ih
      have hi2:i<(raise l F).length:=by rw[qu];exact hi
      have hlen:((raise l F).take i).length<17592186044416:=by rw[List.length_take];omega
      have hxi:=hx _ (List.getElem_mem hi);rw[List.take_succ_eq_append_getElem hi2,raise_at l F hi]at ih;refine Ev.step (fun k=>rfl) (gm (by omega) (gm (by omega) (ie (sK F i (by omega)) (gm hlen ?_))));rw[w1 hi (by omega),qK hi,uq];by_cases hb:F.testBit i=true
      · rw[if_pos hb]at ih⊢
        rw[show wrap64 (l[i]+wrap64 (wrap64 (1 - ((1:Nat):Int))*10))=l[i] from by rw[su (n:=1 - ((1:Nat):Int)) (by omega) (by omega),su (n:=(1 - ((1:Nat):Int))*10) (by omega) (by omega),su (by omega) (by omega)];omega];exact ih
      · rw[if_neg hb]at ih⊢
        rw[show wrap64 (l[i]+wrap64 (wrap64 (1 - ((0:Nat):Int))*10))=l[i]+10 from by rw[su (n:=1 - ((0:Nat):Int)) (by omega) (by omega),su (n:=(1 - ((0:Nat):Int))*10) (by omega) (by omega),su (by omega) (by omega)];omega];exact ih
  exact key 0 (Nat.zero_le _)
def wC (c:Nat):Nat→Nat
  |0=>0
  |w+1=>wC c w+2^w*bi w c
theorem zt (c:Nat):∀w,wC c w<2^w
  |0=>Nat.one_pos
  |w+1=>by
    have h:=zt c w
    have hb:bi w c≤1:=Dk w c
    show wC c w+2^w*bi w c<_
    rw[Nat.pow_succ]
    have:2^w*bi w c≤2^w*1:=Nat.mul_le_mul_left _ hb
    omega
theorem tj {t:Int} (h:1≤t∧t≤3):all t+1=2^wn t:=by rcases three h with rfl|rfl|rfl<;>decide
theorem yp (t:Int):2^wn t≤256:=Nat.pow_le_pow_right (n:=2) (by decide) (rm t).1
def BC (t:Int) (b:Int) (x y:Nat):Option Nat:=if b=38 then some (x&&& y)else if b=124 then some (x|||y)else if b=62 then some ((all t^^^x)|||y)else none
def vt (t:Int) (s:BA):Nat→Nat→Option (Nat×Nat)
  |0,_=>none
  |n+1,i=>if i<s.size then
      (if bt s i=49 then some (all t,i+1)else if bt s i=48 then some (0,i+1)
       else if 97≤bt s i∧bt s i - 97<t then some (wC (bt s i - 97).toNat (wn t),i+1)
       else if bt s i=33 then(vt t s n (i+1)).map fun x=>(all t^^^x.1,x.2)
       else if bt s i=40 then(vt t s n (i+1)).bind fun x=>if x.2<s.size then(vt t s n (x.2+1)).bind fun y=>if y.2<s.size∧bt s y.2=41 then(BC t (bt s x.2) x.1 y.1).map fun z=>(z,y.2+1)else none else none
       else none)else none
theorem vR {t:Int} (h:1≤t∧t≤3) {a:Nat} (ha:a<2^wn t):all t^^^a<2^wn t:=Nat.xor_lt_two_pow (by have:=tj h;omega) ha
theorem Ea {t:Int} (h:1≤t∧t≤3) {b:Int} {x y z:Nat} (hx:x<2^wn t) (hy:y<2^wn t) (hz:BC t b x y=some z):z<2^wn t:=by
  unfold BC at hz;split at hz
  · cases hz;exact Nat.lt_of_le_of_lt Nat.and_le_left hx
  split at hz
  · cases hz;exact Nat.or_lt_two_pow hx hy
  split at hz
  · cases hz;exact Nat.or_lt_two_pow (vR h hx) hy
  · cases hz
theorem rY {t:Int} (ht:1≤t∧t≤3) (s:BA):∀(n i:Nat) (x:Nat×Nat),vt t s n i=some x→x.1<2^wn t∧i<x.2∧x.2≤s.size:=by
  intro n;induction n with
  |zero=>intro i x h;cases h
  |succ n ih=>
    intro i x h;unfold vt at h;by_cases hlt:i<s.size
    · rw[if_pos hlt]at h
      split at h
      · cases h;exact⟨by have:=tj ht;show all t<_;omega,by show i<i+1;omega,by show i+1≤_;omega⟩
      split at h
      · cases h;exact⟨Nat.two_pow_pos _,by show i<i+1;omega,by show i+1≤_;omega⟩
      split at h
      · cases h;exact⟨zt _ _,by show i<i+1;omega,by show i+1≤_;omega⟩
      split at h
      · obtain⟨y,hy,rfl⟩:=Option.map_eq_some_iff.1 h
        obtain⟨a,b,c⟩:=ih _ _ hy;exact⟨vR ht a,by show i<y.2;omega,c⟩
      split at h
      · obtain⟨y,hy,h⟩:=Option.bind_eq_some_iff.1 h
        obtain⟨a,b,c⟩:=ih _ _ hy;split at h
        · obtain⟨z,hz,h⟩:=Option.bind_eq_some_iff.1 h
          obtain⟨a',b',c'⟩:=ih _ _ hz;split at h
          · rename_i hc
            obtain⟨v,hv,rfl⟩:=Option.map_eq_some_iff.1 h;exact⟨Ea ht a a' hv,by show i<z.2+1;omega,by show z.2+1≤_;omega⟩
          · cases h
        · cases h
      · cases h
    · rw[if_neg hlt]at h
      cases h
theorem xk {t:Int} (ht:1≤t∧t≤3) {a:Nat} (ha:a<2^wn t):all t - a=all t^^^a:=by
  rcases three ht with rfl|rfl|rfl
  · exact(by decide:∀a:Fin 4,3 - a.val=3^^^a.val) ⟨a,ha⟩
  · exact(by decide:∀a:Fin 16,15 - a.val=15^^^a.val) ⟨a,ha⟩
  · exact(by decide+kernel:∀a:Fin 256,255 - a.val=255^^^a.val) ⟨a,ha⟩
theorem yq {a b:Nat} (ha:a<256) (hb:b<256):a+b - (a&&& b)=a|||b:=
  (by decide+kernel:∀a b:Fin 256,a.val+b.val - (a.val&&& b.val)=a.val|||b.val) ⟨a,ha⟩ ⟨b,hb⟩
theorem tJ {a b:Nat} (ha:a<256) (hb:b<256):Ev (fun k=>jU.f k (a:Int) (b:Int)) ((a|||b:Nat):Int):=by
  refine Ev.bind (tG (b:=b) ha) (kQ (Ev.now _) ?_);have h1:a&&& b≤a:=Nat.and_le_left;rw[←yq ha hb,su (n:=(a:Int)+b) (by omega) (by omega),su (by omega) (by omega)];omega
def Eb:Option (Nat×Nat)→Int×Int
  |some x=>((x.1:Int),(x.2:Int))
  |none=>(-1, -1)
theorem zX:∀c:Fin 3,∀w:Fin 8,wrap64 ((wC c.val w.val:Nat)+(shl .i64 (Int.tmod (shr .i64 (w.val:Int) (((97+(c.val:Int)) - 97)%256)) 2) (w.val:Int)))=((wC c.val (w.val+1):Nat):Int):=by decide+kernel
theorem FL {z i m n:Nat} (h:z - i≤n+1) (h1:i<m):z - (m+1)≤n:=by omega
theorem Ia {z:Nat} (h:z≤1000000000):z≤9223372036854775807:=by omega
set_option maxHeartbeats 2000000 in
theorem zY {t:Int} (ht:1≤t∧t≤3) (s:BA) (hs:s.size≤1000000000):∀(n:Nat) (i:Nat),s.size - i≤n→Ev (fun k=>hY.f k t s (i:Int)) (Eb (vt t s n i)):=by
  intro n;induction n with
  |zero=>
    intro i hi;exact Ev.step (fun k=>rfl) (gm (by omega) (Ev.now _))
  |succ n ih=>
    intro i hi;unfold vt;by_cases hge:(i:Int)≥(s.size:Int)
    · rw[if_neg (by omega)]
      exact Ev.step (fun k=>rfl) (gm hge (Ev.now _))
    have hlt:i<s.size:=by omega
    obtain⟨al,Gm⟩:∃al:Int,al=((all t:Nat):Int):=⟨_,rfl⟩;have hal:mh.f t=some al:=by rw[Gm];exact tn ht
    have e1:wrap64 ((i:Int)+1)=((i+1:Nat):Int):=w1 hlt (by omega);rw[if_pos hlt];by_cases zu:bt s i=49
    · rw[if_pos zu]
      refine Ev.step (fun k=>rfl) (gn hge (ie (hal) (gm (by omega) (gm (by omega) (gm zu ?_)))));rw[e1,Gm];exact Ev.now _
    rw[if_neg zu];by_cases h48:bt s i=48
    · rw[if_pos h48]
      refine Ev.step (fun k=>rfl) (gn hge (ie (hal) (gm (by omega) (gm (by omega) (gn zu (gm h48 ?_))))));rw[e1];exact Ev.now _
    rw[if_neg h48];have hb:=bt_range s i;by_cases hth:97≤bt s i∧bt s i - 97<t
    · rw[if_pos hth]
      refine Ev.step (fun k=>rfl) (gn hge (ie (hal) (gm (by omega) (gm (by omega) (gn zu (gn h48 (gm (by omega) ?_)))))));rw[decide_eq_true (by omega)];obtain⟨c,hc⟩:∃c:Nat,bt s i=97+(c:Int):=⟨(bt s i - 97).toNat,by omega⟩;have hc3:c<3:=by omega
      rw[show(bt s i - 97).toNat=c from by omega]
      have loop:∀w,w≤wn t→Ev (fun k=>hY.l0 k t s (i:Int) ((wC c w:Nat):Int) (w:Int)) (((wC c (wn t):Nat):Int),((i+1:Nat):Int)):=by
        have hw:=rm t;apply down
        · refine Ev.step (fun k=>rfl) (gm (by omega) (gn (by rw[tl ht];omega) ?_))
          rw[e1];exact Ev.now _
        · intro w hw' ih2
          refine Ev.step (fun k=>rfl) (gm (by omega) (gm (by rw[tl ht];omega) (gm (by omega) (gm (by omega) (gm (by omega) ?_)))));rw[w1 hw' (by omega),hc,zX ⟨c,hc3⟩ ⟨w,by omega⟩];exact ih2
      exact Ev.step (f:=fun k=>hY.l0 k t s (i:Int) 0 0) (fun k=>rfl) (loop 0 (Nat.zero_le _))
    rw[if_neg hth];have st:∀{g:Nat→Option (Int×Int)} {r} {al:Int},(∀k,g k=(if 0≤(i:Int)then(if(i:Int)<(s.size:Int)then(if(bt s i)=33 then((hY.f k t s (wrap64 ((i:Int)+1))).bind fun BD=>(if BD.2<0 then(some ((-1),(-1)))else(some (wrap64 (al - BD.1),BD.2))))else(if(bt s i)=40 then((hY.f k t s (wrap64 ((i:Int)+1))).bind fun wM=>(if wM.2<0 then(hY.j2 k t s al wM.1 wM.2 true)else(hY.j2 k t s al wM.1 wM.2 (decide (wM.2≥(s.size:Int))))))else(some ((-1),(-1)))))else(none))else(none)))→Ev g r→Ev (fun k=>hY.j0 k t s (i:Int) al false) r:=fun hg h=>Ev.step (fun k=>(hg k).symm) h
    have go:∀{r},Ev (fun k=>hY.j0 k t s (i:Int) al false) r→Ev (fun k=>hY.f k t s (i:Int)) r:=by
      intro r h;refine Ev.step (fun k=>rfl) (gn hge (ie (hal) (gm (by omega) (gm (by omega) (gn zu (gn h48 ?_))))));by_cases h97:bt s i≥97
      · refine gm h97 ?_
        rw[decide_eq_false (by omega)];exact h
      · exact gn h97 h
    refine go ?_;have h1:=ih (i+1) (by omega);by_cases BE:bt s i=33
    · rw[if_pos BE]
      refine st (fun k=>rfl) (gm (by omega) (gm (by omega) (gm BE ?_)));rw[e1];refine Ev.bind h1 ?_;cases hr:vt t s n (i+1)with
      |none=>exact gm (by show(-1:Int)<0;omega) (Ev.now _)
      |some x=>
        obtain⟨a,b,c⟩:=rY ht s _ _ _ hr;refine gn (by show¬((x.2:Int)<0);clear a;omega) (kQ (Ev.now _) ?_)
        show(wrap64 (al - (x.1:Int)),(x.2:Int))=(((all t^^^x.1:Nat):Int),(x.2:Int))
        have hle:x.1≤all t:=Nat.le_of_lt_succ (Nat.lt_of_lt_of_eq a (tj ht).symm);have Ib:=tm t;rw[Gm,←xk ht a,su (by clear a;omega) (by clear a;omega)];clear a;congr 1;omega
    rw[if_neg BE];by_cases zZ:bt s i=40
    · rw[if_pos zZ]
      refine st (fun k=>rfl) (gm (Int.natCast_nonneg i) (gm (Int.ofNat_lt.2 hlt) (gn BE (gm zZ ?_))));rw[e1];refine Ev.bind h1 ?_;have FM:∀a e:Int,Ev (fun k=>hY.j2 k t s al a e true) (-1, -1):=fun a e=>Ev.step (f:=fun _=>some (-1, -1)) (fun k=>rfl) (Ev.now _)
      have Ec:∀a e a2 e2:Int,Ev (fun k=>hY.j3 k s al a e a2 e2 true) (-1, -1):=fun a e a2 e2=>Ev.step (f:=fun _=>some (-1, -1)) (fun k=>rfl) (Ev.now _)
      cases hr:vt t s n (i+1)with
      |none=>exact gm (by decide) (FM _ _)
      |some x=>
        obtain⟨ra,rb,rc⟩:=rY ht s _ _ _ hr;obtain⟨a1,m⟩:=x;simp only at ra rb rc;have EO:a1<256:=Nat.lt_of_lt_of_le ra (yp t);replace ra:hJ (a1<2^wn t):=⟨ra⟩;refine gn (Int.not_lt.2 (Int.natCast_nonneg m)) ?_
        show Ev (fun k=>hY.j2 k t s al (a1:Int) (m:Int) (decide ((m:Int)≥(s.size:Int)))) (Eb (if m<s.size then(vt t s n (m+1)).bind fun y=>if y.2<s.size∧bt s y.2=41 then(BC t (bt s m) a1 y.1).map fun z=>(z,y.2+1)else none else none))
        by_cases hm:m<s.size
        · have hm1:¬((m:Int)≥(s.size:Int)):=Int.not_le.2 (Int.ofNat_lt.2 hm)
          rw[if_pos hm,decide_eq_false hm1];have em:wrap64 ((m:Int)+1)=((m+1:Nat):Int):=w1 hm (Ia hs);have h2:=ih (m+1) (FL hi (Nat.lt_of_succ_lt rb));refine Ev.step (f:=fun k=>(hY.f k t s (wrap64 ((m:Int)+1))).bind fun sx=>(if sx.2<0 then(hY.j3 k s al (a1:Int) (m:Int) sx.1 sx.2 true)else(if sx.2≥(s.size:Int)then(hY.j3 k s al (a1:Int) (m:Int) sx.1 sx.2 true)else(if 0≤sx.2 then(if sx.2<(s.size:Int)then(hY.j3 k s al (a1:Int) (m:Int) sx.1 sx.2 ((bt s sx.2) !=41))else(none))else(none))))) (fun k=>rfl) ?_;rw[em];refine Ev.bind h2 ?_;cases hr2:vt t s n (m+1)with
          |none=>exact gm (by decide) (Ec _ _ _ _)
          |some y=>
            obtain⟨sa,sb,sc⟩:=rY ht s _ _ _ hr2;obtain⟨a2,e⟩:=y;simp only at sa sb sc;have EP:a2<256:=Nat.lt_of_lt_of_le sa (yp t);clear sa;refine gn (Int.not_lt.2 (Int.natCast_nonneg e)) ?_
            show Ev (fun k=>if(e:Int)≥(s.size:Int)then(hY.j3 k s al (a1:Int) (m:Int) (a2:Int) (e:Int) true)else(if 0≤(e:Int)then(if(e:Int)<(s.size:Int)then(hY.j3 k s al (a1:Int) (m:Int) (a2:Int) (e:Int) ((bt s e) !=41))else(none))else(none))) (Eb (if e<s.size∧bt s e=41 then(BC t (bt s m) a1 a2).map fun z=>(z,e+1)else none))
            by_cases he:e<s.size
            · refine gn (Int.not_le.2 (Int.ofNat_lt.2 he)) (gm (Int.natCast_nonneg e) (gm (Int.ofNat_lt.2 he) ?_))
              by_cases BF:bt s e=41
              · rw[if_pos ⟨he,BF⟩,show(bt s e !=41)=false from by rw[BF];rfl]
                have ee:wrap64 ((e:Int)+1)=((e+1:Nat):Int):=w1 he (Ia hs);have IB:∀{g:Nat→Option (Int×Int)} {r},(∀k,g k=(if 0≤(m:Int)then(if(m:Int)<(s.size:Int)then(if(bt s m)=38 then((ki.f k (a1:Int) (a2:Int)).bind fun Ha=>(some (Ha,wrap64 ((e:Int)+1))))else(if(bt s m)=124 then((jU.f k (a1:Int) (a2:Int)).bind fun Hb=>(some (Hb,wrap64 ((e:Int)+1))))else(if(bt s m)=62 then((jU.f k (wrap64 (al - (a1:Int))) (a2:Int)).bind fun Ed=>(some (Ed,wrap64 ((e:Int)+1))))else(some ((-1),(-1))))))else(none))else(none)))→Ev g r→Ev (fun k=>hY.j3 k s al (a1:Int) (m:Int) (a2:Int) (e:Int) false) r:=fun hg h=>Ev.step (fun k=>(hg k).symm) h
                refine IB (fun k=>rfl) (gm (Int.natCast_nonneg m) (gm (Int.ofNat_lt.2 hm) ?_));rw[ee];unfold BC;by_cases q1:bt s m=38
                · rw[if_pos q1]
                  exact gm q1 (Ev.bind (tG EO) (Ev.now _))
                rw[if_neg q1];refine gn q1 ?_;by_cases q2:bt s m=124
                · rw[if_pos q2]
                  exact gm q2 (Ev.bind (tJ EO EP) (Ev.now _))
                rw[if_neg q2];refine gn q2 ?_;by_cases q3:bt s m=62
                · rw[if_pos q3]
                  refine gm q3 ?_;have hx:=vR ht ra.out;have hle:a1≤all t:=Nat.le_of_lt_succ (Nat.lt_of_lt_of_eq ra.out (tj ht).symm);have Ib:=tm t;have ew:wrap64 (al - (a1:Int))=((all t^^^a1:Nat):Int):=by rw[Gm,←xk ht ra.out,su (by clear hx;omega) (by clear hx;omega)];clear hx;omega
                  rw[ew];exact Ev.bind (tJ (Nat.lt_of_lt_of_le hx (yp t)) EP) (Ev.now _)
                rw[if_neg q3];exact gn q3 (Ev.now _)
              · rw[if_neg (fun k=>BF k.2),show(bt s e !=41)=true from bne_iff_ne.2 BF]
                exact Ec _ _ _ _
            · rw[if_neg (fun k=>he k.1)]
              exact gm (Int.ofNat_le.2 (Nat.le_of_not_lt he)) (Ec _ _ _ _)
        · have hm2:(m:Int)≥(s.size:Int):=Int.ofNat_le.2 (Nat.le_of_not_lt hm)
          rw[if_neg hm,decide_eq_true hm2];exact FM _ _
    rw[if_neg zZ];exact st (fun k=>rfl) (gm (Int.natCast_nonneg i) (gm (Int.ofNat_lt.2 hlt) (gn BE (gn zZ (Ev.now _)))))
def holds (t:Int) (s:BA):Int×Bool:=if(1≤t∧t≤3)∧s.size≤120 then(match vt t s s.size 0 with|some x=>if x.2=s.size then((x.1:Int),true)else(-1,false)|none=>(-1,false))else(-1,false)
theorem sq {t:Int} {s:BA} {a:Int} (h:holds t s=(a,true)):(1≤t∧t≤3)∧0≤a∧a≤all t:=by
  unfold holds at h;split at h
  · rename_i hc
    split at h
    · rename_i x hx
      split at h
      · obtain⟨ra,_,_⟩:=rY hc.1 s _ _ _ hx
        have:=tj hc.1;have:(x.1:Int)=a:=congrArg Prod.fst h;exact⟨hc.1,by omega,by omega⟩
      · cases h
    · cases h
  · cases h
theorem rH (t:Int) (s:BA):Ev (fun k=>jv.f k t s) (holds t s):=by
  unfold jv.f holds;have bad:Ev (fun k=>jv.j0 k t s true) (-1,false):=Ev.step (f:=fun _=>some (-1,false)) (fun k=>rfl) (Ev.now _);by_cases ht:1≤t∧t≤3
  · by_cases hs:(s.size:Int)>120
    · rw[if_neg (by omega)]
      refine ie (rO _ _ _) (gm (by simpa using ht) ?_);rw[decide_eq_true hs];exact bad
    · rw[if_pos ⟨ht,by omega⟩]
      have h:=zY ht s (by omega) s.size 0 (by omega);refine ie (rO _ _ _) (gm (by simpa using ht) ?_);rw[decide_eq_false hs];refine Ev.step (f:=fun k=>(hY.f k t s 0).bind fun Dl=>(if Dl.2=(s.size:Int)then(some (Dl.1,true))else(some ((-1),false)))) (fun k=>rfl) (Ev.bind h ?_);cases hr:vt t s s.size 0 with
      |none=>exact gn (by show¬((-1:Int)=_);omega) (Ev.now _)
      |some x=>
        show Ev (fun k=>if(x.2:Int)=(s.size:Int)then(some ((x.1:Int),true))else(some ((-1),false))) (if x.2=s.size then((x.1:Int),true)else(-1,false))
        by_cases he:x.2=s.size
        · rw[if_pos he]
          exact gm (by omega) (Ev.now _)
        · rw[if_neg he]
          exact gn (by omega) (Ev.now _)
  · rw[if_neg (fun k=>ht k.1)]
    exact ie (rO _ _ _) (gn (by simpa using ht) bad)
theorem vu {t:Int} {s:BA} {i:Nat} (hs:s.size≤1000000000) (h:i<s.size):jx.f t s (i:Int)=some (bt s i,t,s,((i+1:Nat):Int)):=by
  unfold jx.f;have e1:wrap64 ((i:Int)+1)=((i+1:Nat):Int):=w1 h (by omega);have e2:wrap64 (((i+1:Nat):Int) - 1)=(i:Int):=by rw[su (by omega) (by omega)];omega
  rw[if_neg (by omega),e1,e2,if_pos (by omega),if_pos (by omega)]
theorem vS {t:Int} {s:BA}:jx.f t s (s.size:Int)=some (0,t,s,(s.size:Int)):=by
  unfold jx.f;rw[if_pos rfl]
theorem Aa:∀t:Fin 3,∀c:Fin 3,jJ.f (fD.p (c.val:Int)) ((t.val:Int)+1)=some ((wC c.val (wn ((t.val:Int)+1)):Nat):Int):=by decide+kernel
theorem vT {t:Int} (ht:1≤t∧t≤3) (c:Nat) (hc:c<3):jJ.f (fD.p (c:Int)) t=some ((wC c (wn t):Nat):Int):=by
  have:=Aa ⟨(t - 1).toNat,by omega⟩ ⟨c,hc⟩;rw[show(((t - 1).toNat:Nat):Int)+1=t from by omega]at this;exact this
theorem Hc {z i n:Nat} (h:z - i≤n+1):z - (i+1)≤n:=by omega
theorem small {a:Nat} (h:a<256):a<2^62:=Nat.lt_trans h (by decide)
def Gn (o:Option (Nat×Nat)) (_s:BA) (x:Int) (b:Bool) (p:Int):Prop:=match o with
  |some y=>x=(y.1:Int)∧b=true∧p=(y.2:Int)
  |none=>b=false
set_option maxHeartbeats 2000000 in
theorem BG {t:Int} (ht:1≤t∧t≤3) (s:BA) (hs:s.size≤1000000000):∀(n:Nat) (i:Nat),i≤s.size→s.size - i≤n→∃x b p,Ev (fun k=>fD.f k t s (i:Int)) (x,b,t,s,p)∧Gn (vt t s n i) s x b p:=by
  have last:∀(i:Nat),i=s.size→Ev (fun k=>fD.f k t s (i:Int)) (0,false,t,s,(i:Int)):=by
    rintro i rfl;exact Ev.step (fun k=>rfl) (ie (rP ht) (ie vS (gn (show¬((0:Int)=48) by decide) (gn (show¬((0:Int)=49) by decide) (gn (show¬((0:Int)=97) by decide) (gn (show¬((0:Int)=98) by decide) (gn (show¬((0:Int)=99) by decide) (gn (show¬((0:Int)=33) by decide) (gn (show¬((0:Int)=40) by decide) (Ev.now _))))))))))
  intro n;induction n with
  |zero=>intro i hi hn;exact⟨0,false,_,last i (by omega),rfl⟩
  |succ n ih=>
    intro i hi hn;by_cases hge:i=s.size
    · refine⟨0,false,_,last i hge,?_⟩
      unfold vt;rw[if_neg (by omega)];rfl
    have hlt:i<s.size:=by omega
    unfold vt;rw[if_pos hlt]
    have st:∀{r},Ev (fun k=>(fun(al:Int) (b:Int×Int×BA×Int)=>
      if b.1=48 then some (0,true,b.2.1,b.2.2.1,b.2.2.2)
      else if b.1=49 then some (al,true,b.2.1,b.2.2.1,b.2.2.2)
      else if b.1=97 then(jJ.f (fD.p 0) b.2.1).bind fun x=>some (x,decide (0<b.2.1),b.2.1,b.2.2.1,b.2.2.2)
      else if b.1=98 then(jJ.f (fD.p 1) b.2.1).bind fun x=>some (x,decide (1<b.2.1),b.2.1,b.2.2.1,b.2.2.2)
      else if b.1=99 then(jJ.f (fD.p 2) b.2.1).bind fun x=>some (x,decide (2<b.2.1),b.2.1,b.2.2.1,b.2.2.2)
      else if b.1=33 then(fD.f k b.2.1 b.2.2.1 b.2.2.2).bind fun c=>some (Go.bits .xor .i64 al c.1,c.2.1,c.2.2.1,c.2.2.2.1,c.2.2.2.2)
      else if b.1=40 then(fD.f k b.2.1 b.2.2.1 b.2.2.2).bind fun c=>
        if c.2.1=true then(jx.f c.2.2.1 c.2.2.2.1 c.2.2.2.2).bind fun sg=>(fD.f k sg.2.1 sg.2.2.1 sg.2.2.2).bind fun d=>
          if d.2.1=true then(jx.f d.2.2.1 d.2.2.2.1 d.2.2.2.2).bind fun e=>
            if e.1=41 then
              (if sg.1=38 then some (Go.bits .and .i64 c.1 d.1,true,e.2.1,e.2.2.1,e.2.2.2)
              else if sg.1=124 then some (Go.bits .or .i64 c.1 d.1,true,e.2.1,e.2.2.1,e.2.2.2)
              else if sg.1=62 then some (Go.bits .or .i64 (Go.bits .xor .i64 al c.1) d.1,true,e.2.1,e.2.2.1,e.2.2.2)
              else some (0,false,e.2.1,e.2.2.1,e.2.2.2))
            else some (0,false,e.2.1,e.2.2.1,e.2.2.2)
          else some (0,false,d.2.2.1,d.2.2.2.1,d.2.2.2.2)
        else some (0,false,c.2.2.1,c.2.2.2.1,c.2.2.2.2)
      else some (0,false,b.2.1,b.2.2.1,b.2.2.2)) ((all t:Nat):Int) (bt s i,t,s,((i+1:Nat):Int))) r→Ev (fun k=>fD.f k t s (i:Int)) r:=by
      intro r h;exact Ev.step (fun k=>rfl) (ie (rP ht) (ie (vu hs hlt) h))
    by_cases zu:bt s i=49
    · rw[if_pos zu]
      exact⟨_,true,_,st (gn (by show¬bt s i=48;omega) (gm zu (Ev.now _))),rfl,rfl,rfl⟩
    rw[if_neg zu];by_cases h48:bt s i=48
    · rw[if_pos h48]
      exact⟨_,true,_,st (gm h48 (Ev.now _)),rfl,rfl,rfl⟩
    rw[if_neg h48];by_cases h97:bt s i=97
    · refine⟨_,decide ((0:Int)<t),_,st (gn h48 (gn zu (gm h97 (ie (vT ht 0 (by decide)) (Ev.now _))))),?_⟩
      rw[if_pos (by omega),decide_eq_true (by omega),h97];exact⟨rfl,rfl,rfl⟩
    by_cases Gp:bt s i=98
    · refine⟨_,decide ((1:Int)<t),_,st (gn h48 (gn zu (gn h97 (gm Gp (ie (vT ht 1 (by decide)) (Ev.now _)))))),?_⟩
      by_cases h:1<t
      · rw[if_pos (by omega),decide_eq_true h,Gp]
        exact⟨rfl,rfl,rfl⟩
      · rw[if_neg (by omega),decide_eq_false h,if_neg (by omega),if_neg (by omega)]
        rfl
    by_cases Hd:bt s i=99
    · refine⟨_,decide ((2:Int)<t),_,st (gn h48 (gn zu (gn h97 (gn Gp (gm Hd (ie (vT ht 2 (by decide)) (Ev.now _))))))),?_⟩
      by_cases h:2<t
      · rw[if_pos (by omega),decide_eq_true h,Hd]
        exact⟨rfl,rfl,rfl⟩
      · rw[if_neg (by omega),decide_eq_false h,if_neg (by omega),if_neg (by omega)]
        rfl
    rw[if_neg (show¬(97≤bt s i∧bt s i - 97<t) by omega)];obtain⟨x1,b1,p1,hx1,hg1⟩:=ih (i+1) hlt (Hc hn);have pre:∀{g:Nat→Option (Int×Bool×Int×BA×Int)} {r},Ev g r→Ev (fun k=>if bt s i=48 then some (0,true,t,s,((i+1:Nat):Int))else if bt s i=49 then some (((all t:Nat):Int),true,t,s,((i+1:Nat):Int))else if bt s i=97 then(jJ.f (fD.p 0) t).bind fun x=>some (x,decide (0<t),t,s,((i+1:Nat):Int))else if bt s i=98 then(jJ.f (fD.p 1) t).bind fun x=>some (x,decide (1<t),t,s,((i+1:Nat):Int))else if bt s i=99 then(jJ.f (fD.p 2) t).bind fun x=>some (x,decide (2<t),t,s,((i+1:Nat):Int))else g k) r:=fun h=>gn h48 (gn zu (gn h97 (gn Gp (gn Hd h))))
    by_cases BE:bt s i=33
    · rw[if_pos BE]
      refine⟨_,b1,p1,st (pre (gm BE (Ev.bind hx1 (Ev.now _)))),?_⟩;cases hr:vt t s n (i+1)with
      |none=>rw[hr]at hg1;exact hg1
      |some y=>
        rw[hr]at hg1;obtain⟨rfl,rfl,rfl⟩:=hg1;obtain⟨ra,_,_⟩:=rY ht s _ _ _ hr;exact⟨CC _ _ (small (tm t)) (small (Nat.lt_of_lt_of_le ra (yp t))),rfl,rfl⟩
    rw[if_neg BE];by_cases zZ:bt s i=40
    · rw[if_pos zZ]
      have go:∀{x b p},Ev (fun k=>if b1=true then(jx.f t s p1).bind fun sg=>(fD.f k sg.2.1 sg.2.2.1 sg.2.2.2).bind fun d=>
          if d.2.1=true then(jx.f d.2.2.1 d.2.2.2.1 d.2.2.2.2).bind fun e=>
            if e.1=41 then
              (if sg.1=38 then some (Go.bits .and .i64 x1 d.1,true,e.2.1,e.2.2.1,e.2.2.2)
              else if sg.1=124 then some (Go.bits .or .i64 x1 d.1,true,e.2.1,e.2.2.1,e.2.2.2)
              else if sg.1=62 then some (Go.bits .or .i64 (Go.bits .xor .i64 ((all t:Nat):Int) x1) d.1,true,e.2.1,e.2.2.1,e.2.2.2)
              else some (0,false,e.2.1,e.2.2.1,e.2.2.2))
            else some (0,false,e.2.1,e.2.2.1,e.2.2.2)
          else some (0,false,d.2.2.1,d.2.2.2.1,d.2.2.2.2)
        else some (0,false,t,s,p1)) (x,b,t,s,p)→Ev (fun k=>fD.f k t s (i:Int)) (x,b,t,s,p):=by
        intro x b p h;exact st (pre (gn BE (gm zZ (Ev.bind hx1 h))))
      cases hr:vt t s n (i+1)with
      |none=>
        rw[hr]at hg1;have:b1=false:=hg1;subst this;exact⟨0,false,p1,go (rG (Ev.now _)),rfl⟩
      |some y=>
        rw[hr]at hg1;obtain⟨a1,m⟩:=y;obtain⟨rfl,rfl,rfl⟩:=hg1;obtain⟨ra,rb,rc⟩:=rY ht s _ _ _ hr;simp only at ra rb rc;have EO:=small (Nat.lt_of_lt_of_le ra (yp t));have IC:=small (Nat.lt_of_lt_of_le (vR ht ra) (yp t));clear ra;by_cases hm:m<s.size
        · obtain⟨x2,b2,p2,hx2,hg2⟩:=ih (m+1) hm (FL hn (Nat.lt_of_succ_lt rb))
          show∃x b p,Ev _ _∧Gn (if m<s.size then(vt t s n (m+1)).bind fun y=>if y.2<s.size∧bt s y.2=41 then(BC t (bt s m) a1 y.1).map fun z=>(z,y.2+1)else none else none) s x b p
          rw[if_pos hm]
          have go2:∀{x b p},Ev (fun k=>if b2=true then(jx.f t s p2).bind fun e=>
              if e.1=41 then
                (if bt s m=38 then some (Go.bits .and .i64 ((a1:Nat):Int) x2,true,e.2.1,e.2.2.1,e.2.2.2)
                else if bt s m=124 then some (Go.bits .or .i64 ((a1:Nat):Int) x2,true,e.2.1,e.2.2.1,e.2.2.2)
                else if bt s m=62 then some (Go.bits .or .i64 (Go.bits .xor .i64 ((all t:Nat):Int) ((a1:Nat):Int)) x2,true,e.2.1,e.2.2.1,e.2.2.2)
                else some (0,false,e.2.1,e.2.2.1,e.2.2.2))
              else some (0,false,e.2.1,e.2.2.1,e.2.2.2)
            else some (0,false,t,s,p2)) (x,b,t,s,p)→Ev (fun k=>fD.f k t s (i:Int)) (x,b,t,s,p):=by
            intro x b p h;exact go (oF (ie (vu hs hm) (Ev.bind hx2 h)))
          cases hr2:vt t s n (m+1)with
          |none=>
            rw[hr2]at hg2;have:b2=false:=hg2;subst this;exact⟨0,false,p2,go2 (rG (Ev.now _)),rfl⟩
          |some z=>
            rw[hr2]at hg2;obtain⟨a2,e⟩:=z;obtain⟨rfl,rfl,rfl⟩:=hg2;obtain⟨sa,sb,sc⟩:=rY ht s _ _ _ hr2;simp only at sa sb sc;have EP:=small (Nat.lt_of_lt_of_le sa (yp t));clear sa
            show∃x b p,Ev _ _∧Gn (if e<s.size∧bt s e=41 then(BC t (bt s m) a1 a2).map fun z=>(z,e+1)else none) s x b p
            by_cases he:e<s.size
            · by_cases BF:bt s e=41
              · rw[if_pos ⟨he,BF⟩]
                have Gq:∀{x b p},Ev (fun _=>if bt s m=38 then some (Go.bits .and .i64 ((a1:Nat):Int) ((a2:Nat):Int),true,t,s,((e+1:Nat):Int))
                    else if bt s m=124 then some (Go.bits .or .i64 ((a1:Nat):Int) ((a2:Nat):Int),true,t,s,((e+1:Nat):Int))
                    else if bt s m=62 then some (Go.bits .or .i64 (Go.bits .xor .i64 ((all t:Nat):Int) ((a1:Nat):Int)) ((a2:Nat):Int),true,t,s,((e+1:Nat):Int))
                    else some (0,false,t,s,((e+1:Nat):Int))) (x,b,t,s,p)→Ev (fun k=>fD.f k t s (i:Int)) (x,b,t,s,p):=by
                  intro x b p h;exact go2 (oF (ie (vu hs he) (gm BF h)))
                unfold BC;by_cases q1:bt s m=38
                · rw[if_pos q1]
                  exact⟨_,true,_,Gq (gm q1 (Ev.now _)),band _ _ EO EP,rfl,rfl⟩
                rw[if_neg q1];by_cases q2:bt s m=124
                · rw[if_pos q2]
                  exact⟨_,true,_,Gq (gn q1 (gm q2 (Ev.now _))),FI _ _ EO EP,rfl,rfl⟩
                rw[if_neg q2];by_cases q3:bt s m=62
                · rw[if_pos q3]
                  refine⟨_,true,_,Gq (gn q1 (gn q2 (gm q3 (Ev.now _)))),?_,rfl,rfl⟩;rw[CC _ _ (small (tm t)) EO];exact FI _ _ IC EP
                rw[if_neg q3];exact⟨0,false,_,Gq (gn q1 (gn q2 (gn q3 (Ev.now _)))),rfl⟩
              · rw[if_neg (fun k=>BF k.2)]
                exact⟨0,false,_,go2 (oF (ie (vu hs he) (gn BF (Ev.now _)))),rfl⟩
            · rw[if_neg (fun k=>he k.1)]
              have ez:e=s.size:=Nat.le_antisymm sc (Nat.le_of_not_lt he);subst ez;exact⟨0,false,_,go2 (oF (ie vS (gn (show¬((0:Int)=41) by decide) (Ev.now _)))),rfl⟩
        · show∃x b p,Ev _ _∧Gn (if m<s.size then(vt t s n (m+1)).bind fun y=>if y.2<s.size∧bt s y.2=41 then(BC t (bt s m) a1 y.1).map fun z=>(z,y.2+1)else none else none) s x b p
          rw[if_neg hm];have ez:m=s.size:=Nat.le_antisymm rc (Nat.le_of_not_lt hm);subst ez;exact⟨0,false,_,go (oF (ie vS (Ev.bind (last _ rfl) (rG (Ev.now _))))),rfl⟩
    rw[if_neg zZ];exact⟨0,false,_,st (pre (gn BE (gn zZ (Ev.now _)))),rfl⟩
theorem yr {t:Int} (ht:1≤t∧t≤3) (s:BA) (hs:s.size≤120):Ev (fun k=>nB.f k t s) (holds t s):=by
  obtain⟨x,b,p,hx,hg⟩:=BG ht s (by omega) s.size 0 (Nat.zero_le _) (by omega);unfold holds nB.f;rw[if_pos ⟨ht,hs⟩];refine Ev.bind hx ?_;cases hr:vt t s s.size 0 with
  |none=>
    rw[hr]at hg;have:b=false:=hg;subst this;exact rG (Ev.now _)
  |some y=>
    rw[hr]at hg;obtain⟨rfl,rfl,rfl⟩:=hg;refine oF ?_
    show Ev (fun _=>if(y.2:Int)=(s.size:Int)then some ((y.1:Int),true)else some (-1,false)) (if y.2=s.size then((y.1:Int),true)else(-1,false))
    by_cases he:y.2=s.size
    · rw[if_pos he]
      exact gm (by omega) (Ev.now _)
    · rw[if_neg he]
      exact gn (by omega) (Ev.now _)
theorem qp (t:Int) (s:BA):Ev (fun k=>kJ.f k t s) (holds t s):=by
  unfold kJ.f;refine ie (th t) ?_;by_cases ht:1≤t∧t≤3
  · refine gm (decide_eq_true ht) ?_
    by_cases hs:(s.size:Int)>120
    · unfold holds
      rw[if_neg (by omega)];exact gm hs (Ev.now _)
    · exact gn hs (Ev.bind (yr ht s (by omega)) (Ev.now _))
  · unfold holds
    rw[if_neg (fun k=>ht k.1)];exact gn (by simpa using ht) (Ev.now _)
theorem xP (t s:Int):kc.f t s=some (BB t s):=by
  unfold kc.f BB;rw[rO,Option.bind_some];by_cases h:1≤t∧t≤3
  · rw[decide_eq_true h,if_pos rfl,tn h,Option.bind_some,rO,Option.bind_some]
    congr 1;exact decide_eq_decide.2 ⟨fun k=>⟨h,k⟩,fun k=>k.2⟩
  · rw[decide_eq_false h,if_neg (by decide)]
    congr 1;symm;exact decide_eq_false (fun k=>h k.1)
def xQ (t:Int) (s:Nat):List Int:=(iX.f 120 t (s:Int)).getD []
def xR (t s:Nat):Bool:=match iX.f 120 (t:Int) (s:Int)with
  |some l=>decide (iI.f 120 (t:Int) (s:Int)=some l)&&decide (l.length=2^t)
  |none=>false
theorem He:(List.range 3).all (fun s=>xR 1 (s+1))=true:=by decide+kernel
theorem Hf:(List.range 15).all (fun s=>xR 2 (s+1))=true:=by decide+kernel
theorem Hg:(List.range 255).all (fun s=>xR 3 (s+1))=true:=by decide+kernel
theorem rv {p:Nat→Bool} {n:Nat} (h:(List.range n).all p=true) {i:Nat} (hi:i<n):p i=true:=List.all_eq_true.1 h i (List.mem_range.2 hi)
theorem Ee {t:Int} (ht:1≤t∧t≤3) {s:Nat} (h0:s≠0) (hs:s≤all t):xR t.toNat s=true:=by
  obtain⟨s,rfl⟩:∃r,s=r+1:=⟨s - 1,by omega⟩;rcases three ht with rfl|rfl|rfl
  · exact rv He (by have:all 1=3:=rfl;omega)
  · exact rv Hf (by have:all 2=15:=rfl;omega)
  · exact rv Hg (by have:all 3=255:=rfl;omega)
theorem sD {t:Int} (ht:1≤t∧t≤3) {s:Nat} (h0:s≠0) (hs:s≤all t):
    iX.f 120 t (s:Int)=some (xQ t s)∧iI.f 120 t (s:Int)=some (xQ t s)∧(xQ t s).length=wn t:=by
  have h:=Ee ht h0 hs;obtain⟨n,rfl⟩:=Int.eq_ofNat_of_zero_le (show 0≤t by omega);unfold xR at h;unfold xQ;rw[Int.toNat_natCast]at h;cases e:iX.f 120 (n:Int) (s:Int)with
  |none=>rw[e]at h;cases h
  |some l=>
    rw[e]at h;simp only[Bool.and_eq_true,decide_eq_true_eq]at h;exact⟨rfl,h.1,h.2.trans (by rcases three ht with h|h|h<;>(rw[h];have:n=n:=rfl;obtain rfl:=Int.ofNat.inj h;rfl))⟩
theorem vU {t:Int} (ht:1≤t∧t≤3) {s:Nat} (h0:s≠0) (hs:s≤all t):Ev (fun k=>iX.f k t (s:Int)) (xQ t s):=Ev.of (fun k=>iX.mono _ _ k) (sD ht h0 hs).1
theorem yt {t:Int} (ht:1≤t∧t≤3) {s:Nat} (h0:s≠0) (hs:s≤all t):Ev (fun k=>iI.f k t (s:Int)) (xQ t s):=Ev.of (fun k=>iI.mono _ _ k) (sD ht h0 hs).2.1
theorem uJ {t:Int} (ht:1≤t∧t≤3) {s:Nat} (hs:s≤all t):s<2^wn t:=by have:=tj ht;omega
theorem xl {t:Int} (ht:1≤t∧t≤3) {s:Nat} (hs:s<2^wn t):s≤all t:=by have:=tj ht;omega
theorem rD {t:Int} {s:Nat} (hs:s≤all t):s<256:=by have:=tm t;omega
theorem big {s:Nat} (hs:s<256):s<2^62:=Nat.lt_trans hs (by decide)
theorem qe {t:Int} (ht:1≤t∧t≤3) {l:List Int} (hl:l.length=wn t) (s:Nat):jC l s≤all t:=xl ht (hl▸ud _ _)
theorem zv {t:Int} (ht:1≤t∧t≤3) {a b:Nat} (ha:a≤all t) (hb:b≤all t):a|||b≤all t:=xl ht (Nat.or_lt_two_pow (uJ ht ha) (uJ ht hb))
theorem rz {t:Int} (ht:1≤t∧t≤3) {s:Nat} (hs:s≤all t):kc.f t (s:Int)=some true:=by
  rw[xP];exact congrArg some (decide_eq_true ⟨ht,by omega,by omega⟩)
theorem tK {t:Int} (ht:1≤t∧t≤3) {s:Nat} (hs:s≤all t):pr.f t (s:Int)=some true:=by
  unfold pr.f;rw[th,Option.bind_some,if_pos (decide_eq_true ht),if_pos (by omega),rP ht,Option.bind_some,decide_eq_true (by omega)]
theorem tS (l:List Int) (s:Nat):∀(d i:Nat) (m:Int),qM l s d i m≤m∧∀j,i≤j→j<i+d→s.testBit j=true→qM l s d i m≤l.getD j 0
  |0,_,m=>⟨Int.le_refl _,fun j h1 h2=>by omega⟩
  |d+1,i,m=>by
    unfold qM
    obtain⟨_,b,c⟩:=uc m (l.getD i 0)
    obtain⟨h1,h2⟩:=tS l s d (i+1) (if s.testBit i=true then mn m (l.getD i 0)else m)
    by_cases hb:s.testBit i=true
    · rw[if_pos hb]at h1 h2⊢
      refine⟨by omega,fun j k1 k2 k3=>?_⟩
      by_cases e:j=i
      · subst e;omega
      · exact h2 j (by omega) (by omega) k3
    · rw[if_neg hb]at h1 h2⊢
      refine⟨h1,fun j k1 k2 k3=>?_⟩
      by_cases e:j=i
      · subst e;exact absurd k3 hb
      · exact h2 j (by omega) (by omega) k3
theorem xm {t:Int} (ht:1≤t∧t≤3) {j:Nat} (hj:j<wn t):(all t).testBit j=true:=by
  rw[show all t=2^wn t - 1 from by have:=tj ht;omega,Nat.testBit_two_pow_sub_one,decide_eq_true hj]
theorem vV {t:Int} {l:List Int} (h:nA t l=true):leastOf l (all t)=0:=by
  obtain⟨ht,hl,hx,h0⟩:=kn.1 h;obtain⟨p,hp,he⟩:=xM.1 h0;have a:=(sM l (all t) (fun x k=>(hx x k).1) l.length 0 10 (by decide) (by decide)).1;have b:=(tS l (all t) l.length 0 10).2 p (Nat.zero_le _) (by omega) (xm ht (hl▸hp));unfold leastOf;omega
theorem xS {t:Int} {l:List Int} (h:nA t l=true) (s:Nat):∃n:Nat,leastOf l s=n∧n≤10:=by
  obtain⟨_,_,hx,_⟩:=kn.1 h;obtain⟨a,b⟩:=sM l s (fun x k=>(hx x k).1) l.length 0 10 (by decide) (by decide);exact⟨(leastOf l s).toNat,(Int.toNat_of_nonneg a).symm,by unfold leastOf;omega⟩
theorem tL {t:Int} {l:List Int} (h:nA t l=true):kO.f t l=some ((jC l (all t):Nat):Int):=by
  obtain⟨ht,hl,_,_⟩:=kn.1 h
  have hp:∀y:Nat,y<0+wn t→kO.p l (y:Int)=some (decide (l.getD y 0=0)):=by
    intro y hy;unfold kO.p;rw[if_pos (by omega),if_pos (by omega),tF]
  obtain⟨r,h1,h2,h3⟩:=tH (p:=kO.p l) (q:=fun y=>decide (l.getD y 0=0)) (wn t) 0 0 (by have:=(rm t).1;omega) Nat.one_pos hp
  have hf:jJ.f (kO.p l) t=some (r:Int):=by
    unfold jJ.f;rw[if_pos (by omega),if_pos (by omega),show 2^t.toNat=wn t from by rcases three ht with rfl|rfl|rfl<;>rfl];exact h1
  unfold kO.f;rw[hf];congr 2;rw[Nat.zero_add]at h2 h3;apply Nat.eq_of_testBit_eq;intro w;unfold jC;rw[ue,hl,vV h,Bool.eq_iff_iff,h3,Nat.zero_testBit,Bool.and_eq_true,Bool.and_eq_true,decide_eq_true_eq,decide_eq_true_eq];constructor
  · rintro(k|⟨_,k2,k3⟩)
    · cases k
    · exact⟨by omega,xm ht (by omega),k3⟩
  · rintro⟨k1,_,k3⟩
    exact Or.inr ⟨Nat.zero_le _,by omega,k3⟩
theorem uf {t:Int} {l:List Int} (h:nA t l=true):Ev (fun k=>iv.f k t l) true:=by
  obtain⟨_,hl,_,_⟩:=kn.1 h;exact kQ (rW t (by have:=(rm t).1;omega)) h
theorem len8 {t:Int} {l:List Int} (h:nA t l=true):l.length≤8:=by
  obtain⟨_,hl,_,_⟩:=kn.1 h;have:=(rm t).1;omega
theorem Ab {t:Int} {l:List Int} (h:nA t l=true):Ev (fun k=>pz.f k t l) ((jC l (all t):Nat):Int):=
  Ev.bind (uf h) (oF (ie (tn (kn.1 h).1) (Ev.bind (rX (len8 h) _) (Ev.now _))))
theorem vW {a b:Nat} (ha:a<2^62):(Go.bits .andNot .i64 (a:Int) (b:Int)==0)=decide (a&&& b=a):=by
  rw[CE a b ha,Bool.eq_iff_iff,beq_iff_eq,decide_eq_true_eq,←zS];omega
theorem zw {a b:Nat}:(((a&&& b:Nat):Int)==(a:Int))=decide (a&&& b=a):=by
  rw[Bool.eq_iff_iff,beq_iff_eq,decide_eq_true_eq];omega
theorem yu {t:Int} {l:List Int} (h:nA t l=true) {a b:Nat} (ha:a≤all t):Ev (fun k=>jR.f k t l (a:Int) (b:Int)) (decide (jC l a&&& b=jC l a)):=by
  obtain⟨ht,hl,_,_⟩:=kn.1 h;exact Ev.bind (sN ht hl (uJ ht ha)) (kQ (Ev.now _) (vW (big (rD (qe ht hl a)))))
theorem yv {t:Int} {l:List Int} (h:nA t l=true) {a b:Nat} (h0:a≠0) (ha:a≤all t) (hb:b≤all t):Ev (fun k=>kk.f k t l (a:Int) (b:Int)) (decide (jC l a&&& b=jC l a)):=by
  obtain⟨ht,hl,_,_⟩:=kn.1 h
  have hr:rl.f t (a:Int) (b:Int)=some true:=by
    unfold rl.f;rw[rz ht ha,Option.bind_some,if_pos rfl,rz ht hb,Option.bind_some,if_pos rfl];exact congrArg some (bne_iff_ne.2 (by omega))
  refine Ev.bind (uf h) (oF (ie hr (show Ev (fun k=>kk.j0 k l false (a:Int) (b:Int)) _ from Ev.step (fun k=>rfl) (Ev.bind (rX (len8 h) a) (Ev.bind (tG (rD (qe ht hl a))) (kQ (Ev.now _) zw))))))
theorem wD {t:Int} {l:List Int} (h:nA t l=true) {s:Nat} (hs:s≤all t):Ev (fun k=>iV.f k t l (s:Int)) (leastOf l s):=by
  obtain⟨ht,hl,_,_⟩:=kn.1 h;have h8:=len8 h;refine Ev.bind (uf h) (oF (ie (rz ht hs) (show Ev (fun k=>iV.j0 k l (s:Int) false) _ from Ev.step (fun k=>rfl) ?_)))
  have key:∀i,i≤l.length→∀m:Int,Ev (fun k=>iV.l0 k l (s:Int) m (i:Int)) (qM l s (l.length - i) i m):=by
    apply down
    · intro m
      rw[Nat.sub_self];exact Ev.step (fun k=>rfl) (gn (by omega) (Ev.now _))
    · intro i hi ih m
      rw[show l.length - i=(l.length - (i+1))+1 from by omega];unfold qM;refine Ev.step (fun k=>rfl) (gm (by omega) (ie (sK s i (by omega)) ?_));rw[w1 hi (by omega),tF];by_cases hb:s.testBit i=true
      · rw[if_pos hb]
        exact gm (sv.2 hb) (gm (by omega) (ih _))
      · rw[if_neg hb]
        exact gn (fun k=>hb (sv.1 k)) (ih _)
  exact key 0 (Nat.zero_le _) 10
theorem zx {t:Int} (ht:1≤t∧t≤3) {s:Nat} (hs:s≤all t):wrap64 ((all t:Int) - (s:Int))=((all t^^^s:Nat):Int):=by
  have:=tm t;rw[←xk ht (uJ ht hs),su (by omega) (by omega)];omega
theorem xn {t:Int} (ht:1≤t∧t≤3) {s:Nat} (hs:s≤all t):all t^^^s≤all t:=xl ht (vR ht (uJ ht hs))
theorem Dm {t:Int} {s:Nat} (hs:s≤all t):Go.bits .xor .i64 (all t:Int) (s:Int)=((all t^^^s:Nat):Int):=CC _ _ (big (tm t)) (big (rD hs))
theorem uK {t:Int} {l:List Int} (h:nA t l=true) {s:Nat} (hs:s≤all t):Ev (fun k=>pq.f k t l (s:Int)) (leastOf l (all t^^^s)):=by
  obtain⟨ht,hl,_,_⟩:=kn.1 h;have h8:=len8 h;refine ie (rP ht) ?_;rw[Dm hs];exact Ev.bind (uI (by omega) (rD (xn ht hs))) (Ev.now _)
theorem wE {t:Int} {l:List Int} (h:nA t l=true) {s:Nat} (hs:s≤all t):Ev (fun k=>jz.f k t l (s:Int)) (leastOf l (all t^^^s)):=by
  obtain⟨ht,hl,_,_⟩:=kn.1 h;refine Ev.bind (uf h) (oF (ie (rz ht hs) (show Ev (fun k=>jz.j0 k t l (s:Int) false) _ from Ev.step (fun k=>rfl) (ie (tn ht) ?_))));rw[zx ht hs];exact Ev.bind (wD h (xn ht hs)) (Ev.now _)
def given (t:Int) (l:List Int) (s:Nat):Nat:=jC l (all t)|||jC l (all t^^^s)
theorem BH {t:Int} {l:List Int} (h:nA t l=true) (s:Nat):given t l s≤all t:=by
  obtain⟨ht,hl,_,_⟩:=kn.1 h;exact zv ht (qe ht hl _) (qe ht hl _)
theorem yw {t:Int} {l:List Int} (h:nA t l=true) {s:Nat} (hs:s≤all t):Ev (fun k=>qb.f k t l (s:Int)) (given t l s:Int):=by
  obtain⟨ht,hl,_,_⟩:=kn.1 h;refine ie (tL h) (ie (rP ht) ?_);rw[Dm hs];exact Ev.bind (sN ht hl (uJ ht (xn ht hs))) (kQ (Ev.now _) (FI _ _ (big (rD (qe ht hl _))) (big (rD (qe ht hl _)))))
theorem yx {t:Int} {l:List Int} (h:nA t l=true) {s:Nat} (hs:s≤all t):Ev (fun k=>kK.f k t l (s:Int)) (given t l s:Int):=by
  obtain⟨ht,hl,_,_⟩:=kn.1 h;refine Ev.bind (uf h) (oF (ie (rz ht hs) (show Ev (fun k=>kK.j0 k t l (s:Int) false) _ from Ev.step (fun k=>rfl) (ie (tn ht) (Ev.bind (rX (len8 h) _) ?_)))));rw[zx ht hs];exact Ev.bind (rX (len8 h) _) (Ev.bind (tJ (rD (qe ht hl _)) (rD (qe ht hl _))) (Ev.now _))
def near (t:Int) (a b:Nat):Nat:=if a=0 then b else jC (xQ t a) b
theorem vv {t:Int} (ht:1≤t∧t≤3) {a b:Nat} (ha:a≤all t) (hb:b≤all t):near t a b≤all t:=by
  unfold near;by_cases h0:a=0
  · rw[if_pos h0];exact hb
  · rw[if_neg h0];exact qe ht (sD ht h0 ha).2.2 b
theorem xo {t:Int} (ht:1≤t∧t≤3) {a b:Nat} (ha:a≤all t) (hb:b≤all t):Ev (fun k=>kd.f k t (a:Int) (b:Int)) (near t a b:Int):=by
  refine ie (tK ht ha) (oF (ie (tK ht hb) (show Ev (fun k=>kd.j0 k t (a:Int) (b:Int) false) _ from Ev.step (fun k=>rfl) ?_)));unfold near;by_cases h0:a=0
  · rw[if_pos h0];exact gm (by omega) (Ev.now _)
  · rw[if_neg h0]
    exact gn (by omega) (Ev.bind (vU ht h0 ha) (Ev.bind (sN ht (sD ht h0 ha).2.2 (uJ ht hb)) (Ev.now _)))
theorem ug {t:Int} (ht:1≤t∧t≤3) {a b:Nat} (ha:a≤all t) (hb:b≤all t):Ev (fun k=>ka.f k t (a:Int) (b:Int)) (near t a b:Int):=by
  refine ie (rz ht ha) (oF (ie (rz ht hb) (show Ev (fun k=>ka.j0 k t (a:Int) (b:Int) false) _ from Ev.step (fun k=>rfl) ?_)));unfold near;by_cases h0:a=0
  · rw[if_pos h0];exact gm (by omega) (Ev.now _)
  · rw[if_neg h0]
    exact gn (by omega) (Ev.bind (yt ht h0 ha) (Ev.bind (rX (by have:=(rm t).1;rw[(sD ht h0 ha).2.2];omega) b) (Ev.now _)))
def xT (t:Int) (a b:Nat):Nat→Nat→Nat→Nat
  |0,_,c=>c
  |d+1,i,c=>xT t a b d (i+1) (if a.testBit i=true then c|||near t (2^i) b else c)
theorem yy {t:Int} (ht:1≤t∧t≤3) {i:Nat} (hi:i<wn t):2^i≤all t:=xl ht (Nat.pow_lt_pow_right (by decide) hi)
theorem zy {t:Int} (ht:1≤t∧t≤3) {a b:Nat} (hb:b≤all t):∀(d i c:Nat),i+d≤wn t→c≤all t→xT t a b d i c≤all t
  |0,_,_,_,hc=>hc
  |d+1,i,c,h,hc=>by
    unfold xT
    refine zy ht hb d (i+1) _ (by omega) ?_
    split
    · exact zv ht hc (vv ht (yy ht (by omega)) hb)
    · exact hc
def Ef (t:Int) (a b:Nat):Nat:=xT t a b (wn t) 0 0
theorem CI {t:Int} (ht:1≤t∧t≤3) {a b:Nat} (hb:b≤all t):Ef t a b≤all t:=zy ht hb _ _ _ (by omega) (Nat.zero_le _)
theorem BI {t:Int} {i b:Nat}:near t (2^i) b=jC (xQ t (2^i)) b:=if_neg (Nat.ne_of_gt (Nat.two_pow_pos i))
theorem xp {t:Int} (ht:1≤t∧t≤3) {a b:Nat} (ha:a≤all t) (hb:b≤all t):Ev (fun k=>jm.f k t (a:Int) (b:Int)) (Ef t a b:Int):=by
  have h8:=(rm t).1;refine ie (tK ht ha) (oF (ie (tK ht hb) (show Ev (fun k=>jm.j0 k t (a:Int) (b:Int) false) _ from Ev.step (fun k=>rfl) (gm (by omega) ?_))));rw[tl ht]
  have key:∀i,i≤wn t→∀c:Nat,c≤all t→Ev (fun k=>jm.l0 k t (a:Int) (b:Int) (c:Int) (wn t:Int) (i:Int)) (xT t a b (wn t - i) i c:Int):=by
    apply down
    · intro c _
      rw[Nat.sub_self];exact Ev.step (fun k=>rfl) (gn (by omega) (Ev.now _))
    · intro i hi ih c hc
      rw[show wn t - i=(wn t - (i+1))+1 from by omega];unfold xT;refine Ev.step (fun k=>rfl) (gm (by omega) (gm (by omega) ?_));rw[xh a i (by omega) (big (rD ha)),w1 hi (by omega),CA i (by omega)];have hp:=yy ht hi;have h0:2^i≠0:=Nat.ne_of_gt (Nat.two_pow_pos i);have hn:=vv ht hp hb;by_cases hbit:a.testBit i=true
      · rw[if_pos hbit]
        refine gm (sv.2 hbit) (Ev.bind (vU ht h0 hp) (Ev.bind (sN ht (sD ht h0 hp).2.2 (uJ ht hb)) ?_));rw[←BI,FI _ _ (big (rD hc)) (big (rD hn))];exact ih _ (zv ht hc hn)
      · rw[if_neg hbit]
        exact gn (fun k=>hbit (sv.1 k)) (ih _ hc)
  exact key 0 (Nat.zero_le _) 0 (Nat.zero_le _)
theorem xq {t:Int} (ht:1≤t∧t≤3) {a b:Nat} (ha:a≤all t) (hb:b≤all t):Ev (fun k=>jq.f k t (a:Int) (b:Int)) (Ef t a b:Int):=by
  have h8:=(rm t).1;refine ie (rz ht ha) (oF (ie (rz ht hb) (show Ev (fun k=>jq.j0 k t (a:Int) (b:Int) false) _ from Ev.step (fun k=>rfl) ?_)))
  have key:∀i,i≤wn t→∀c:Nat,c≤all t→Ev (fun k=>jq.l0 k t (a:Int) (b:Int) (c:Int) (i:Int)) (xT t a b (wn t - i) i c:Int):=by
    apply down
    · intro c _
      rw[Nat.sub_self];refine Ev.step (fun k=>rfl) (gm (by omega) ?_);rw[tl ht];exact gn (by omega) (Ev.now _)
    · intro i hi ih c hc
      rw[show wn t - i=(wn t - (i+1))+1 from by omega];unfold xT;refine Ev.step (fun k=>rfl) (gm (by omega) ?_);rw[tl ht,w1 hi (by omega),CA i (by omega)];refine gm (by omega) (ie (sK a i (by omega)) ?_);have hp:=yy ht hi;have hn:=vv ht hp hb;by_cases hbit:a.testBit i=true
      · rw[if_pos hbit]
        exact gm (sv.2 hbit) (gm (by omega) (Ev.bind (ug ht hp hb) (Ev.bind (tJ (rD hc) (rD hn)) (ih _ (zv ht hc hn)))))
      · rw[if_neg hbit]
        exact gn (fun k=>hbit (sv.1 k)) (ih _ hc)
  exact key 0 (Nat.zero_le _) 0 (Nat.zero_le _)
def sent (t:Int) (s:Nat):BA:=(gS.f 40 t (s:Int)).getD ⟨#[]⟩
def vX (t:Int) (s:Nat):Bool:=match gS.f 40 t (s:Int),gX.f 40 t (s:Int)with
  |some a,some b=>a.data.toList==b.data.toList
  | _,_=>false
theorem FN:(List.range 4).all (fun s=>vX 1 s)=true:=by decide+kernel
theorem FO:(List.range 16).all (fun s=>vX 2 s)=true:=by decide+kernel
theorem FP:(List.range 256).all (fun s=>vX 3 s)=true:=by decide+kernel
theorem CJ {t:Int} (ht:1≤t∧t≤3) {s:Nat} (hs:s≤all t):vX t s=true:=by
  rcases three ht with rfl|rfl|rfl
  · exact rv FN (by have:all 1=3:=rfl;omega)
  · exact rv FO (by have:all 2=15:=rfl;omega)
  · exact rv FP (by have:all 3=255:=rfl;omega)
theorem vY {t:Int} (ht:1≤t∧t≤3) {s:Nat} (hs:s≤all t):gS.f 40 t (s:Int)=some (sent t s)∧gX.f 40 t (s:Int)=some (sent t s):=by
  have h:=CJ ht hs;unfold vX at h;unfold sent;cases e:gS.f 40 t (s:Int)with
  |none=>rw[e]at h;cases h
  |some a=>
    rw[e]at h;cases e2:gX.f 40 t (s:Int)with
    |none=>rw[e2]at h;cases h
    |some b=>
      rw[e2]at h;refine⟨rfl,?_⟩;congr 1;exact(ByteArray.ext (Array.toList_inj.1 (beq_iff_eq.1 h))).symm
theorem si {t:Int} (ht:1≤t∧t≤3) {s:Nat} (hs:s≤all t):Ev (fun k=>gS.f k t (s:Int)) (sent t s):=Ev.of (fun k=>gS.mono _ _ k) (vY ht hs).1
theorem sj {t:Int} (ht:1≤t∧t≤3) {s:Nat} (hs:s≤all t):Ev (fun k=>gX.f k t (s:Int)) (sent t s):=Ev.of (fun k=>gX.mono _ _ k) (vY ht hs).2
def num (n:Nat):BA:=(gV.f 5 (n:Int)).getD ⟨#[]⟩
theorem wN {n:Nat} (h:n<10):Lib.decDigits n= [(48+n).toUInt8]:=by
  unfold Lib.decDigits;rw[dif_pos h]
theorem CK:Lib.decDigits 10= [49,48]:=by
  unfold Lib.decDigits;rw[dif_neg (by decide),show 10/10=1 from rfl,wN (by decide)];rfl
theorem sZ {n:Nat} (h:n≤10):strconv_Itoa.f (n:Int)=some (num n)∧gV.f 5 (n:Int)=some (num n):=by
  have hi:strconv_Itoa.f (n:Int)=some ⟨(Lib.decDigits n).toArray⟩:=by
    unfold strconv_Itoa.f;rw[if_pos (by omega),if_pos (by omega),Int.toNat_natCast]
  rw[hi];by_cases h10:n<10
  · rw[wN h10]
    have:∀m:Nat,m<10→(gV.f 5 (m:Int)).map (·.data.toList)=some [(48+m).toUInt8]:=by decide+kernel
    have hm:=this n h10;unfold num;cases e:gV.f 5 (n:Int)with
    |none=>rw[e]at hm;cases hm
    |some a=>
      rw[e]at hm;have hd:a.data.toList=_:=Option.some.inj hm;exact⟨congrArg some (show(⟨_⟩:BA)=a from ByteArray.ext (Array.toList_inj.1 hd.symm)),rfl⟩
  · obtain rfl:n=10:=by omega
    rw[CK];have hm:(gV.f 5 ((10:Nat):Int)).map (·.data.toList)=some [49,48]:=by decide+kernel
    unfold num;cases e:gV.f 5 ((10:Nat):Int)with
    |none=>rw[e]at hm;cases hm
    |some a=>
      rw[e]at hm;have hd:a.data.toList=_:=Option.some.inj hm;exact⟨congrArg some (show(⟨_⟩:BA)=a from ByteArray.ext (Array.toList_inj.1 hd.symm)),rfl⟩
theorem tp {n:Nat} (h:n≤10):Ev (fun k=>gV.f k (n:Int)) (num n):=Ev.of (fun k=>gV.mono _ k) (sZ h).2
theorem kI (s:BA):s.toList.length=s.size:=by rw[toList_data,Array.length_toList];rfl
theorem sV (a b:BA):(a++b).toList=a.toList++b.toList:=by
  rw[toList_data,toList_data,toList_data,ByteArray.data_append,Array.toList_append]
theorem rQ (s:BA) (i j:Nat):(s.extract i j).toList=(s.toList.drop i).take (j - i):=by
  rw[toList_data,toList_data,ByteArray.data_extract,Array.toList_extract,List.extract_eq_take_drop]
theorem rA (s:BA) (i:Nat):(s.extract i s.size).toList=s.toList.drop i:=by
  rw[rQ];apply List.take_of_length_le;rw[List.length_drop,kI];omega
theorem uu (s:BA) {i:Nat} (h:i<s.size):bt s (i:Int)=((s.toList[i]'(by rw[kI];exact h)).toNat:Int):=by
  unfold bt;rw[dif_pos (by rw[Int.toNat_natCast];exact h)];congr 2;simp only[toList_data,Int.toNat_natCast];rfl
theorem Eg {t:Int} (s:BA):∀(n i:Nat) (x:Nat×Nat),1≤t∧t≤3→vt t s n i=some x→∀j:Nat,i≤j→j<x.2→bt s j≠45:=by
  intro n;induction n with
  |zero=>intro i x _ h;cases h
  |succ n ih=>
    intro i x ht h j hj hx;unfold vt at h;by_cases hlt:i<s.size
    · rw[if_pos hlt]at h
      have one:∀{v:Nat},x=(v,i+1)→bt s i≠45→bt s j≠45:=by
        rintro v rfl h;have:j=i:=by have:j<i+1:=hx;omega
        rw[this];exact h
      split at h
      · rename_i hc
        exact one (Option.some.inj h).symm (by rw[hc];decide)
      split at h
      · rename_i hc
        exact one (Option.some.inj h).symm (by rw[hc];decide)
      split at h
      · rename_i hc
        exact one (Option.some.inj h).symm (by omega)
      split at h
      · rename_i hc
        obtain⟨y,hy,rfl⟩:=Option.map_eq_some_iff.1 h;by_cases e:j=i
        · rw[e,hc];decide
        · exact ih _ _ ht hy j (by omega) hx
      split at h
      · rename_i hc
        obtain⟨y,hy,h⟩:=Option.bind_eq_some_iff.1 h;split at h
        · obtain⟨z,hz,h⟩:=Option.bind_eq_some_iff.1 h
          split at h
          · rename_i BF
            obtain⟨v,hv,rfl⟩:=Option.map_eq_some_iff.1 h;by_cases e:j=i
            · rw[e,hc];decide
            by_cases e1:j<y.2
            · exact ih _ _ ht hy j (by omega) e1
            by_cases e2:j=y.2
            · rw[e2]
              intro e3;unfold BC at hv;rw[e3,if_neg (by decide),if_neg (by decide),if_neg (by decide)]at hv;cases hv
            by_cases e3:j<z.2
            · exact ih _ _ ht hz j (by omega) e3
            · have:j=z.2:=by have:j<z.2+1:=hx;omega
              rw[this,BF.2];decide
          · cases h
        · cases h
      · cases h
    · rw[if_neg hlt]at h
      cases h
theorem BJ {t:Int} {s:BA} {a:Int} (h:holds t s=(a,true)) {j:Nat} (hj:j<s.size):bt s j≠45:=by
  unfold holds at h;split at h
  · rename_i hc
    split at h
    · rename_i x hx
      split at h
      · rename_i he
        exact Eg s _ _ _ hc.1 hx j (Nat.zero_le _) (by rw[he];exact hj)
      · cases h
    · cases h
  · cases h
def at2 (s:BA) (k:Nat):Prop:=k+1<s.size∧bt s k=45∧bt s ((k+1:Nat):Int)=62
instance (s:BA) (k:Nat):Decidable (at2 s k):=by unfold at2;infer_instance
theorem yz (s:BA) (k:Nat):Lib.occAt s.data.toList [45,62] k=true↔at2 s k:=by
  unfold Lib.occAt at2;rw[←toList_data];by_cases h:k+1<s.size
  · have l0:k<s.toList.length:=by rw[kI];omega
    have l1:k+1<s.toList.length:=by rw[kI];omega
    rw[List.drop_eq_getElem_cons l0,List.drop_eq_getElem_cons l1,uu s (by omega),uu s h];simp only[List.isPrefixOf,Bool.and_true,Bool.and_eq_true,beq_iff_eq];constructor
    · rintro⟨e1,e2⟩
      exact⟨h,by rw[←e1];rfl,by rw[←e2];rfl⟩
    · rintro⟨_,e1,e2⟩
      exact⟨(UInt8.toNat_inj.1 (by have h9:(45:UInt8).toNat=45:=rfl;omega)).symm,(UInt8.toNat_inj.1 (by have h9:(62:UInt8).toNat=62:=rfl;omega)).symm⟩
  · constructor
    · intro hp
      have:=(List.isPrefixOf_iff_prefix.1 hp).length_le;rw[List.length_drop,kI]at this;simp at this;omega
    · rintro⟨k1,_,_⟩
      exact absurd k1 h
def ta (t:Int) (s:BA) (k:Nat):Option (Int×Int×Bool):=
  let a:=holds t (s.extract 0 k);let b:=holds t (s.extract (k+2) s.size)
  if a.2=true then(if b.2=true then(if a.1=0 then none else some (a.1,b.1,true))else none)else none
def sw (t:Int) (s:BA) (k:Nat):Int×Int×Bool:=(ta t s k).getD (0,0,false)
theorem CL {s:BA} (hs:s.size<4294967281):(∃k,at2 s k∧(∀j,j<k→¬at2 s j)∧xd.f s=some (s.extract 0 k,s.extract (k+2) s.size,true))∨((∀j,¬at2 s j)∧xd.f s=some (s,(⟨#[]⟩:BA),false)):=by
  unfold xd.f;rw[if_pos hs];rcases Lib.index_spec s.data.toList [45,62]with⟨h1,h2⟩|⟨i,h1,h2,h3,h4⟩
  · right
    refine⟨fun j hj=>?_,?_⟩
    · have hl:j≤s.data.toList.length:=by rw[←toList_data,kI];have:=hj.1;omega
      have:=h2 j hl;rw[(yz s j).2 hj]at this;cases this
    · obtain⟨e1,e2,e3⟩:=Lib.cutB_miss s ⟨#[45,62]⟩ h1
      have e1':(⟨(Lib.cut s.data.toList [45,62]).1.toArray⟩:BA)=s:=e1;have e2':(⟨(Lib.cut s.data.toList [45,62]).2.1.toArray⟩:BA)=ByteArray.empty:=e2;have e3':(Lib.cut s.data.toList [45,62]).2.2=false:=e3;rw[e1',e2',e3'];rfl
  · left
    refine⟨i,(yz s i).1 h3,fun j hj hj2=>?_,?_⟩
    · have:=h4 j hj
      rw[(yz s j).2 hj2]at this;cases this
    · obtain⟨e1,e2,e3⟩:=Lib.cutB_hit s ⟨#[45,62]⟩ i h1
      have e1':(⟨(Lib.cut s.data.toList [45,62]).1.toArray⟩:BA)=s.extract 0 i:=e1;have e2':(⟨(Lib.cut s.data.toList [45,62]).2.1.toArray⟩:BA)=s.extract (i+2) s.size:=e2;have e3':(Lib.cut s.data.toList [45,62]).2.2=true:=e3;rw[e1',e2',e3']
theorem uv (t:Int) {s:BA} (hs:s.size<4294967281):(∃k,at2 s k∧(∀j,j<k→¬at2 s j)∧Ev (fun n=>oC.f n t s) (sw t s k))∨((∀j,¬at2 s j)∧Ev (fun n=>oC.f n t s) (0,0,false)):=by
  unfold oC.f;rcases CL hs with⟨k,h1,h2,h3⟩|⟨h1,h3⟩
  · refine Or.inl ⟨k,h1,h2,ie h3 (Ev.bind (qp t _) (Ev.bind (qp t _) (oF ?_)))⟩
    unfold sw ta;by_cases a:(holds t (s.extract 0 k)).2=true
    · refine gm a ?_
      by_cases b:(holds t (s.extract (k+2) s.size)).2=true
      · refine gm b ?_
        by_cases c:(holds t (s.extract 0 k)).1=0
        · exact gm c (kQ (Ev.now _) (by simp only[a,b,c,if_true];rfl))
        · exact gn c (kQ (Ev.now _) (by simp only[a,b,c,if_true,if_false];rfl))
      · exact gn b (kQ (Ev.now _) (by simp only[a,b,if_true];rfl))
    · exact gn a (kQ (Ev.now _) (by simp only[a];rfl))
  · exact Or.inr ⟨h1,ie h3 (Ev.bind (qp t _) (Ev.bind (qp t _) (rG (Ev.now _))))⟩
theorem CM (s:BA) {j k:Nat} (h:k<j) (hj:j≤s.size):bt (s.extract 0 j) (k:Int)=bt s (k:Int):=by
  have h1:k<(s.extract 0 j).size:=by rw[ByteArray.size_extract];omega
  rw[uu _ h1,uu s (by omega)];congr 2;simp only[rQ,List.drop_zero,List.getElem_take]
theorem BL (t:Int) {s:BA} {i:Nat} (hs:s.size≤1000000000) (hi:i≤s.size) (h:¬i+1<s.size):Ev (fun n=>iu.l0 n t s (i:Int)) (0,0,false):=by
  have e1:wrap64 ((i:Int)+1)=((i+1:Nat):Int):=by rw[su (by omega) (by omega)];omega
  refine Ev.step (fun k=>rfl) (gn ?_ (Ev.now _));rw[e1];omega
theorem zz (t:Int) {s:BA} {i:Nat} {r:Int×Int×Bool} (hs:s.size≤1000000000) (h:i+1<s.size)
    (h1:¬at2 s i→Ev (fun n=>iu.l0 n t s ((i+1:Nat):Int)) r) (h2:at2 s i→ta t s i=none→Ev (fun n=>iu.l0 n t s ((i+1:Nat):Int)) r) (h3:∀v,at2 s i→ta t s i=some v→v=r):
    Ev (fun n=>iu.l0 n t s (i:Int)) r:=by
  have e1:wrap64 ((i:Int)+1)=((i+1:Nat):Int):=by rw[su (by omega) (by omega)];omega
  have e2:wrap64 ((i:Int)+2)=((i+2:Nat):Int):=by rw[su (by omega) (by omega)];omega
  refine Ev.step (fun k=>rfl) (gm (by rw[e1];omega) (gm (by omega) (gm (by omega) ?_)));rw[e1]
  have skip:Ev (fun n=>iu.l0 n t s ((i+1:Nat):Int)) r→Ev (fun n=>iu.j1 n t s (i:Int) true) r:=by
    intro hr;refine Ev.step (f:=fun n=>iu.l0 n t s (wrap64 ((i:Int)+1))) (fun k=>rfl) ?_;rw[e1];exact hr
  by_cases a:bt s i=45
  · refine gm a (gm (by omega) ?_)
    by_cases b:bt s ((i+1:Nat):Int)=62
    · have ha:at2 s i:=⟨h,a,b⟩
      rw[show(bt s ((i+1:Nat):Int) !=62)=false from by rw[b];rfl];have st:∀{g:Nat→Option (Int×Int×Bool)} {r},(∀k,g k=(if 0≤(i:Int)then(if(i:Int)≤(s.size:Int)then((jv.f k t (s.extract 0 ((i:Int):Int).toNat)).bind fun BM=>(if 0≤(wrap64 ((i:Int)+2))then(if(wrap64 ((i:Int)+2))≤(s.size:Int)then((jv.f k t (s.extract ((wrap64 ((i:Int)+2)):Int).toNat s.size)).bind fun Dn=>(if BM.2=true then(if Dn.2=true then(if BM.1=0 then(iu.l0 k t s (wrap64 ((i:Int)+1)))else(some (BM.1,Dn.1,true)))else(iu.l0 k t s (wrap64 ((i:Int)+1))))else(iu.l0 k t s (wrap64 ((i:Int)+1)))))else(none))else(none)))else(none))else(none)))→Ev g r→Ev (fun k=>iu.j1 k t s (i:Int) false) r:=fun hg h=>Ev.step (fun k=>(hg k).symm) h
      refine st (fun k=>rfl) (gm (by omega) (gm (by omega) ?_));rw[e1,e2,Int.toNat_natCast,Int.toNat_natCast];refine Ev.bind (rH t _) (gm (by omega) (gm (by omega) (Ev.bind (rH t _) ?_)));by_cases x:(holds t (s.extract 0 i)).2=true
      · refine gm x ?_
        by_cases y:(holds t (s.extract (i+2) s.size)).2=true
        · refine gm y ?_
          by_cases c:(holds t (s.extract 0 i)).1=0
          · exact gm c (h2 ha (by unfold ta;simp only[x,y,c,if_true]))
          · exact gn c (kQ (Ev.now _) (h3 _ ha (by unfold ta;simp only[x,y,c,if_true,if_false])))
        · exact gn y (h2 ha (by unfold ta;simp only[x,y,if_true];rfl))
      · exact gn x (h2 ha (by unfold ta;simp only[x];rfl))
    · rw[show(bt s ((i+1:Nat):Int) !=62)=true from bne_iff_ne.2 b]
      exact skip (h1 (fun k=>b k.2.2))
  · exact gn a (skip (h1 (fun k=>a k.2.1)))
theorem wO (t:Int) {s:BA} (hs:s.size≤1000000000):∀(d i:Nat),s.size - i≤d→i≤s.size→(∀j,i≤j→at2 s j→ta t s j=none)→Ev (fun n=>iu.l0 n t s (i:Int)) (0,0,false):=by
  intro d;induction d with
  |zero=>intro i hd hi _;exact BL t hs hi (by omega)
  |succ d ih=>
    intro i hd hi h;by_cases h1:i+1<s.size
    · have nx:=ih (i+1) (by omega) (by omega) (fun j hj=>h j (by omega))
      refine zz t hs h1 (fun _=>nx) (fun _ _=>nx) (fun v ha hv=>?_);rw[h i (Nat.le_refl _) ha]at hv;cases hv
    · exact BL t hs hi h1
theorem tT (t:Int) {s:BA} (hs:s.size≤1000000000) (h:∀j,¬at2 s j):Ev (fun n=>iu.f n t s) (0,0,false):=
  wO t hs s.size 0 (by omega) (Nat.zero_le _) (fun j _ hj=>absurd hj (h j))
theorem yA (t:Int) {s:BA} {k j:Nat} (hk:at2 s k) (hj:k<j) (h:j≤s.size):ta t s j=none:=by
  unfold ta;simp only;rw[if_neg];intro hb;have e:holds t (s.extract 0 j)=((holds t (s.extract 0 j)).1,true):=by rw[←hb]
  have:=BJ e (j:=k) (by rw[ByteArray.size_extract];omega);rw[CM s hj h]at this;exact this hk.2.1
theorem uw (t:Int) {s:BA} (hs:s.size≤1000000000) {k:Nat} (hk:at2 s k) (hn:∀j,j<k→¬at2 s j):Ev (fun n=>iu.f n t s) (sw t s k):=by
  have k1:=hk.1;have after:Ev (fun n=>iu.l0 n t s ((k+1:Nat):Int)) (0,0,false):=wO t hs s.size (k+1) (by omega) (by omega) (fun j hj ha=>yA t hk (by omega) (by have:=ha.1;omega))
  have at_k:Ev (fun n=>iu.l0 n t s (k:Int)) (sw t s k):=by
    cases hv:ta t s k with
    |none=>
      have e:sw t s k=(0,0,false):=by unfold sw;rw[hv];rfl
      rw[e];refine zz t hs k1 (fun h=>absurd hk h) (fun _ _=>after) (fun v _ h=>?_);rw[hv]at h;cases h
    |some v=>
      have e:sw t s k=v:=by unfold sw;rw[hv];rfl
      rw[e];refine zz t hs k1 (fun h=>absurd hk h) (fun _ h=>?_) (fun v' _ h=>?_)
      · rw[hv]at h
        cases h
      · rw[hv]at h
        exact(Option.some.inj h).symm
  have key:∀i,i≤k→Ev (fun n=>iu.l0 n t s (i:Int)) (sw t s k):=by
    apply down
    · exact at_k
    · intro i hi ih
      exact zz t hs (by omega) (fun _=>ih) (fun h=>absurd h (hn i hi)) (fun v h=>absurd h (hn i hi))
  exact key 0 (Nat.zero_le _)
theorem xr (t:Int) (s:BA) (k:Nat):sw t s k=(0,0,false)∨∃a b:Nat,sw t s k=((a:Int),(b:Int),true)∧(1≤t∧t≤3)∧a≠0∧a≤all t∧b≤all t:=by
  unfold sw ta;simp only;by_cases a:(holds t (s.extract 0 k)).2=true
  · by_cases b:(holds t (s.extract (k+2) s.size)).2=true
    · by_cases c:(holds t (s.extract 0 k)).1=0
      · left
        rw[if_pos a,if_pos b,if_pos c];rfl
      · right
        have ea:holds t (s.extract 0 k)=((holds t (s.extract 0 k)).1,true):=by rw[←a]
        have eb:holds t (s.extract (k+2) s.size)=((holds t (s.extract (k+2) s.size)).1,true):=by rw[←b]
        obtain⟨h1,h2,h3⟩:=sq ea;obtain⟨_,g2,g3⟩:=sq eb;refine⟨(holds t (s.extract 0 k)).1.toNat,(holds t (s.extract (k+2) s.size)).1.toNat,?_,h1,by omega,by omega,by omega⟩;rw[if_pos a,if_pos b,if_neg c,Int.toNat_of_nonneg h2,Int.toNat_of_nonneg g2];rfl
    · left
      rw[if_pos a,if_neg b];rfl
  · left
    rw[if_neg a];rfl
def qO (t:Int) (l:List Int):Bool:=nA t l&&decide (qh l=l)
theorem vZ (t:Int) {l:List Int} (hn:l.length≤9223372036854775807):Ev (fun k=>ke.f k t l) (qO t l):=by
  unfold ke.f qO;refine Ev.bind (rW t hn) ?_;cases h:nA t l with
  |false=>exact rG (Ev.now _)
  |true=>
    have hlen:=qL l;refine oF (Ev.bind (sU h) ?_)
    have key:∀i,i≤l.length→Ev (fun k=>ke.l0 k l (qh l) (i:Int)) (decide ((qh l).drop i=l.drop i)):=by
      apply down
      · refine Ev.step (fun k=>rfl) (gn (by omega) (kQ (Ev.now _) ?_))
        rw[List.drop_length,List.drop_of_length_le (by omega)];exact(decide_eq_true rfl).symm
      · intro i hi ih
        refine Ev.step (fun k=>rfl) (gm (by omega) (gm (by omega) (gm (by omega) ?_)));rw[qK hi,qK (l:=qh l) (by omega),List.drop_eq_getElem_cons hi,List.drop_eq_getElem_cons (l:=qh l) (by omega)];by_cases e:(qh l)[i]=l[i]
        · refine gm e ?_
          rw[w1 hi hn];refine kQ ih (decide_eq_decide.2 ?_);rw[List.cons.injEq];exact⟨fun h=>⟨e,h⟩,fun h=>h.2⟩
        · refine gn e (kQ (Ev.now _) ?_)
          rw[decide_eq_false (fun h=>e (List.cons.inj h).1)]
    have:=key 0 (Nat.zero_le _);rw[List.drop_zero,List.drop_zero]at this;rw[Bool.true_and];exact this
def qv (t:Int) (l:List Int) (ls:List (List Int)):Bool:=qO t l&&(decide (ls.length≤10)&&ls.all (qO t))
theorem tk {l:List (List Int)} {i:Nat} (h:i<l.length):ox l (i:Int)=l[i]:=by
  unfold ox;rw[Int.toNat_natCast,List.getD_eq_getElem?_getD,List.getElem?_eq_getElem h];rfl
theorem qN (t:Int) {l:List Int} {ls:List (List Int)} (hn:l.length≤9223372036854775807) (hs:ls.length≤9223372036854775807) (hl:∀y∈ls,y.length≤9223372036854775807):Ev (fun k=>gI.f k t l ls) (qv t l ls):=by
  unfold gI.f
  have key:∀i,i≤ls.length→Ev (fun k=>gI.l0 k (i:Int) t l ls) (qO t l&&(decide (ls.length≤10)&&(ls.drop i).all (qO t))):=by
    apply down
    · refine Ev.step (fun k=>rfl) (gn (by omega) (Ev.bind (vZ t hn) ?_))
      rw[List.drop_length,List.all_nil,Bool.and_true];cases qO t l with
      |false=>exact rG (Ev.now _)
      |true=>
        refine oF (kQ (Ev.now _) ?_);rw[Bool.true_and];exact decide_eq_decide.2 (by omega)
    · intro i hi ih
      refine Ev.step (fun k=>rfl) (gm (by omega) (gm (by omega) ?_));rw[tk hi,w1 hi hs];refine Ev.bind (vZ t (hl _ (List.getElem_mem hi))) ?_;rw[List.drop_eq_getElem_cons hi,List.all_cons];cases qO t ls[i]with
      |false=>exact rG (kQ (Ev.now _) (by simp))
      |true=>
        refine oF (kQ ih ?_);rw[Bool.true_and]
  have:=key 0 (Nat.zero_le _);rw[List.drop_zero]at this;exact this
theorem wP (t:Int) {l:List Int} (hn:l.length≤9223372036854775807):Ev (fun k=>oh.f k t l) (qO t l):=by
  unfold oh.f qO;refine Ev.bind (zV t hn) ?_;cases h:nA t l with
  |false=>exact rG (Ev.now _)
  |true=>
    obtain⟨_,hl,hx,_⟩:=kn.1 h;have:=(rm t).1;refine oF (Ev.bind (zp (by omega) fun x hx'=>(hx x hx').1) (Ev.bind (xN (l:=qh l) (m:=l) (by rw[qL];omega)) (kQ (Ev.now _) ?_)));rw[Bool.true_and]
theorem BN (t:Int):∀(ls:List (List Int)),(∀y∈ls,y.length≤9223372036854775807)→∀i:Int,0≤i→∃r,Ev (fun k=>Hof.uO (kH.no k t) ls i) r∧decide (0≤r)= !ls.all (qO t):=by
  intro ls;induction ls with
  |nil=>exact fun _ i _=>⟨-1,Ev.now _,rfl⟩
  |cons y ys ih=>
    intro hl i hi;have hy:=wP t (hl y List.mem_cons_self);have hno:Ev (fun k=>kH.no k t y) (!qO t y):=Ev.bind hy (Ev.now _);cases e:qO t y with
    |true=>
      rw[e]at hno;obtain⟨r,h1,h2⟩:=ih (fun z hz=>hl z (List.mem_cons_of_mem _ hz)) (i+1) (by omega);refine⟨r,Ev.bind hno (rG h1),?_⟩;rw[h2,List.all_cons,e,Bool.true_and]
    |false=>
      rw[e]at hno;refine⟨i,Ev.bind hno (oF (Ev.now _)),?_⟩;rw[List.all_cons,e,decide_eq_true hi];rfl
theorem ux (t:Int) {l:List Int} {ls:List (List Int)} (hn:l.length≤9223372036854775807) (hl:∀y∈ls,y.length≤9223372036854775807):Ev (fun k=>kH.f k t l ls) (qv t l ls):=by
  unfold kH.f qv;refine Ev.bind (wP t hn) ?_;cases qO t l with
  |false=>exact rG (Ev.now _)
  |true=>
    refine oF ?_;by_cases h:ls.length≤10
    · obtain⟨r,h1,h2⟩:=BN t ls hl 0 (by omega)
      refine gm (by omega) (Ev.bind (Ev.bind h1 (Ev.now _)) (kQ (Ev.now _) ?_));rw[h2,decide_eq_true h,Bool.true_and,Bool.true_and,Bool.not_not]
    · refine gn (by omega) (kQ (Ev.now _) ?_)
      rw[decide_eq_false h];rfl
theorem tU (t:Int) {l:List Int} {ls:List (List Int)} (hn:l.length≤100) (hs:ls.length≤100) (hl:∀y∈ls,y.length≤100):Ev (fun k=>iR.f k t l ls) (t,l,ls):=by
  unfold iR.f
  have key:∀i:Nat,i≤ls.length→Ev (fun k=>iR.l0 k (i:Int) t l ls t l (ls.take i)) (t,l,ls):=by
    apply down
    · refine Ev.step (fun k=>rfl) (gn (by omega) (kQ (Ev.now _) ?_))
      rw[List.take_length]
    · intro i hi ih
      have hy:=hl _ (List.getElem_mem hi);refine Ev.step (fun k=>rfl) (gm (by omega) (ie rfl (gm (by omega) (gm (by rw[tk hi];simp only[List.length_nil];omega) (gm (by rw[List.length_take];omega) ?_)))));rw[tk hi,w1 hi (by omega),List.nil_append];rw[List.take_succ_eq_append_getElem hi]at ih;exact ih
  refine ie rfl (gm (by simp only[List.length_nil];omega) ?_);rw[List.nil_append];exact key 0 (Nat.zero_le _)
theorem we:∀{l:List Int},l≠ []→∃x∈l,∀y∈l,x≤y
  | [],h=>absurd rfl h
  | [x],_=>⟨x,List.mem_singleton.2 rfl,fun y hy=>by rw[List.mem_singleton.1 hy];exact Int.le_refl _⟩
  |x::z::l,_=>by
    obtain⟨m,hm,h⟩:=we (l:=z::l) (by simp)
    by_cases hx:x≤m
    · refine⟨x,List.mem_cons_self,fun y hy=>?_⟩
      rcases List.mem_cons.1 hy with rfl|hy
      · exact Int.le_refl _
      · exact Int.le_trans hx (h y hy)
    · refine⟨m,List.mem_cons_of_mem _ hm,fun y hy=>?_⟩
      rcases List.mem_cons.1 hy with rfl|hy
      · omega
      · exact h y hy
theorem xt {t:Int} {l:List Int} (h:nA t l=true) (F:Nat):nA t (qh (raise l F))=true:=by
  obtain⟨ht,hl,hx,h0⟩:=kn.1 h;have h8:=rm t;have hn:∀y∈raise l F,0≤y:=fun y hy=>by obtain⟨x,h1,h2⟩:=tI hy;have:=hx x h1;omega
  have hlen:(raise l F).length=wn t:=by rw[qu];exact hl
  refine kn.2 ⟨ht,by rw[qL];exact hlen,fun y hy=>?_,?_⟩
  · obtain⟨x,hx1,rfl⟩:=ur.1 hy
    have:=wA hx1 (hn x hx1);omega
  · obtain⟨x,hx1,hx2⟩:=we (l:=raise l F) (by intro e;rw[e]at hlen;simp at hlen;omega)
    refine ur.2 ⟨x,hx1,?_⟩;rw[Bw (fun y hy _=>hx2 y hy)];rfl
theorem wg {t:Int} {l:List Int} (h:nA t l=true) (a:Int) (s:Nat):qO t (wB l a s)=true:=by
  unfold qO wB;have hx:=(kn.1 h).2.2.1;rw[xt h,xL (fun y hy=>by obtain⟨x,h1,h2⟩:=tI hy;have:=hx x h1;omega),decide_eq_true rfl];rfl
theorem oP {t:Int} {l:List Int}:qO t l=true↔nA t l=true∧qh l=l:=by
  unfold qO;rw[Bool.and_eq_true,decide_eq_true_iff]
theorem CN {x y:List Int} (hl:x.length=y.length) (hn:x.length≤100):∀i,i≤x.length→Ev (fun k=>iZ.l0 k x y (i:Int)) (decide (x.drop i=y.drop i)):=by
  apply down
  · refine Ev.step (fun k=>rfl) (gn (by omega) (kQ (Ev.now _) ?_))
    rw[List.drop_length,List.drop_of_length_le (by omega)];exact(decide_eq_true rfl).symm
  · intro i hi ih
    refine Ev.step (fun k=>rfl) (gm (by omega) (gm (by omega) (gm (by omega) ?_)));rw[qK hi,qK (by omega),List.drop_eq_getElem_cons hi,List.drop_eq_getElem_cons (l:=y) (by omega)];by_cases e:x[i]=y[i]
    · refine gm e ?_
      rw[w1 hi (by omega)];refine kQ ih (decide_eq_decide.2 ?_);rw[List.cons.injEq];exact⟨fun h=>⟨e,h⟩,fun h=>h.2⟩
    · refine gn e (kQ (Ev.now _) ?_)
      rw[decide_eq_false (fun h=>e (List.cons.inj h).1)]
theorem xu {t:Int} {x y:List Int} (hx:nA t x=true) (hy:nA t y=true):Ev (fun k=>iZ.f k t x y) (decide (qh x=qh y)):=by
  have lx:=(kn.1 hx).2.1;have ly:=(kn.1 hy).2.1;have h8:=rm t;have rx:=rW t (l:=x) (by omega);have ry:=rW t (l:=y) (by omega);rw[hx]at rx;rw[hy]at ry;unfold iZ.f;refine Ev.bind rx (oF (Ev.bind ry ?_));refine Ev.step (f:=fun k=>if(!true)=true then(some false)else((gA.f k t x).bind fun Hh=>((gA.f k t y).bind fun Hi=>(iZ.l0 k Hh Hi 0)))) (fun k=>rfl) (gn (by decide) (Ev.bind (sU hx) (Ev.bind (sU hy) ?_)));exact CN (by rw[qL,qL,lx,ly]) (by rw[qL];omega) 0 (Nat.zero_le _)
theorem xv {t:Int} {l:List Int} (h:nA t l=true) {v:Int} (h0:0≤v) (h1:v≤all t) {a:Int} (ha:a=0∨a=1):Ev (fun k=>jX.f k t l a v) (if v=0 then([],false)else(wB l a v.toNat,true)):=by
  obtain⟨ht,hl,hx,_⟩:=kn.1 h;have h8:=rm t;have r:=rW t (l:=l) (by omega);rw[h]at r;have hs:BB t v=true:=decide_eq_true ⟨ht,h0,h1⟩;have Ib:=tm t;unfold jX.f;refine Ev.bind r (oF (ie (xP t v) ?_));rw[hs];refine oF ?_;by_cases e:v=0
  · rw[if_pos e]
    exact gm e (Ev.step (f:=fun _=>some ((([]:List Int)),false)) (fun k=>rfl) (Ev.now _))
  · rw[if_neg e]
    refine gn e (ie (rO _ _ _) ?_);rw[decide_eq_true (by omega)];obtain⟨n,rfl⟩:=Int.eq_ofNat_of_zero_le h0;rw[Int.toNat_natCast];refine Ev.step (f:=fun k=>if(!true)=true then(some ((([]:List Int)),false))else(if a=0 then((gZ.f k l (n:Int)).bind fun Hj=>((jN.f k l Hj).bind fun Hk=>(some (Hk,true))))else((jN.f k l (n:Int)).bind fun Hl=>(some (Hl,true))))) (fun k=>rfl) (gn (by decide) ?_);unfold wB;by_cases a0:a=0
    · rw[if_pos a0]
      exact gm a0 (Ev.bind (rX (by omega) n) (Ev.bind (wL (by omega) hx _) (Ev.now _)))
    · rw[if_neg a0]
      exact gn a0 (Ev.bind (wL (by omega) hx n) (Ev.now _))
theorem rp (t:Int) {l:List Int} {ls:List (List Int)} (hn:l.length≤100) (hs:ls.length≤100) (hl:∀y∈ls,y.length≤100):Ev (fun k=>ig.f k t l ls) (t,l,ls):=by
  unfold ig.f;refine ie rfl (gm (by show 0+l.length<_;omega) ?_);rw[List.nil_append]
  have key:∀i,i≤ls.length→Ev (fun k=>ig.l0 k ls (ls.length:Int) (i:Int) t l (ls.take i)) (t,l,ls):=by
    apply down
    · refine Ev.step (fun k=>rfl) (gn (by omega) (kQ (Ev.now _) ?_))
      rw[List.take_length]
    · intro i hi ih
      have:=hl _ (List.getElem_mem hi);refine Ev.step (fun k=>rfl) (gm (by omega) (gm (by omega) (gm (by omega) (ie rfl (gm (by rw[tk hi];show 0+ls[i].length<_;omega) (gm (by rw[List.length_take];omega) ?_))))));rw[tk hi,w1 hi (by omega),List.nil_append];rw[List.take_succ_eq_append_getElem hi]at ih;exact ih
  exact key 0 (Nat.zero_le _)
theorem uh {α:Type} {l:List α} {y:α} (h:y∈l.dropLast):y∈l:=by rw[List.dropLast_eq_take]at h;exact List.mem_of_mem_take h
def sW (t:Int) (l:List Int) (ls:List (List Int)):Int×List Int×List (List Int)×Bool:=(t,l,ls,false)
def push (l:List Int) (ls:List (List Int)):List (List Int):=if ls.length+1>10 then(ls++ [l]).drop 1 else ls++ [l]
def yB (t:Int) (l:List Int) (ls:List (List Int)) (a:Int) (s:BA):Int×List Int×List (List Int)×Bool:=
  if a=2∧s.size=0 then(if ls= []then sW t l ls else(t,ls.getLastD [],ls.dropLast,true))
  else if a=0∨a=1 then
    (if(holds t s).2=true then(if(holds t s).1=0 then sW t l ls else(if wB l a (holds t s).1.toNat=l then sW t l ls else(t,wB l a (holds t s).1.toNat,push l ls,true)))else sW t l ls)
  else sW t l ls
theorem qq {t:Int} {l:List Int} {ls:List (List Int)}:qv t l ls=true↔qO t l=true∧ls.length≤10∧∀y∈ls,qO t y=true:=by
  unfold qv;rw[Bool.and_eq_true,Bool.and_eq_true,decide_eq_true_iff,List.all_eq_true]
theorem zA {ls:List (List Int)} (h:ls≠ []):ox ls (wrap64 ((ls.length:Int) - 1))=ls.getLastD []∧wrap64 ((ls.length:Int) - 1)=((ls.length - 1:Nat):Int)∧ls.take (wrap64 ((ls.length:Int) - 1)).toNat=ls.dropLast∨¬ls.length≤100:=by
  by_cases hn:ls.length≤100
  · left
    have hp:0<ls.length:=List.length_pos_iff.2 h;have e:wrap64 ((ls.length:Int) - 1)=((ls.length - 1:Nat):Int):=by rw[su (by omega) (by omega)];omega
    refine⟨?_,e,?_⟩
    · rw[e,tk (by omega),List.getLastD_eq_getLast?,List.getLast?_eq_getElem?,List.getElem?_eq_getElem (by omega)]
      rfl
    · rw[e,Int.toNat_natCast,List.dropLast_eq_take]
  · exact Or.inr hn
theorem isNil (a:Int) (s:BA):(a==2&&(s.toList==([]:List UInt8)))=true↔a=2∧s.size=0:=by
  rw[Bool.and_eq_true,beq_iff_eq,beq_iff_eq,tg]
set_option maxHeartbeats 1000000 in
theorem wh {t:Int} {l:List Int} {ls:List (List Int)} (hm:qv t l ls=true) (a:Int) (s:BA):Ev (fun k=>gT.f k t l ls a s) (yB t l ls a s):=by
  obtain⟨htl,h9,hls⟩:=qq.1 hm;obtain⟨hr,_⟩:=oP.1 htl;obtain⟨ht,hl,hx,_⟩:=kn.1 hr;have h8:=(rm t).1
  have hlen:∀y∈ls,y.length≤100:=fun y hy=>by
    have:=(kn.1 (oP.1 (hls y hy)).1).2.1;omega
  have hc:=rp t (l:=l) (ls:=ls) (by omega) (by omega) hlen;unfold gT.f yB;refine Ev.bind hc ?_;by_cases hb:a=2∧s.size=0
  · rw[if_pos hb]
    refine gm ((isNil a s).2 hb) ?_;by_cases he:ls= []
    · rw[if_pos he]
      subst he;exact gm (show wrap64 (((([]:List (List Int)).length:Nat):Int) - 1)<0 by decide+kernel) (Ev.now _)
    · rw[if_neg he]
      have hp:0<ls.length:=List.length_pos_iff.2 he;obtain⟨r1,r2,r3⟩:=(zA he).resolve_right (fun k=>k (by omega));have hlast:ls.getLastD []∈ls:=by rw[List.getLastD_eq_getLast?,List.getLast?_eq_some_getLast he];exact List.getLast_mem he
      have hc2:=rp t (l:=ls.getLastD []) (ls:=ls.dropLast) (hlen _ hlast) (by rw[List.length_dropLast];omega) (fun y hy=>hlen y (uh hy));refine gn (by dsimp only;rw[r2];omega) (gm (by dsimp only;rw[r2];omega) (gm (by dsimp only;rw[r2];omega) (gm (by dsimp only;rw[r2];omega) ?_)));dsimp only;rw[r1,r3];exact Ev.bind hc2 (Ev.now _)
  · rw[if_neg hb]
    refine gn (fun k=>hb ((isNil a s).1 k)) ?_;have no:Ev (fun k=>gT.j0 k true t l ls a s t l ls) (sW t l ls):=Ev.step (f:=fun _=>some (t,l,ls,false)) (fun k=>rfl) (Ev.now _);have ER:∀v:Int,Ev (fun k=>gT.j1 k v true t l ls a s t l ls) (sW t l ls):=fun v=>Ev.step (f:=fun _=>some (t,l,ls,false)) (fun k=>rfl) (Ev.now _)
    have go:a=0∨a=1→Ev (fun k=>gT.j0 k false t l ls a s t l ls) (if(holds t s).2=true then(if(holds t s).1=0 then sW t l ls else(if wB l a (holds t s).1.toNat=l then sW t l ls else(t,wB l a (holds t s).1.toNat,push l ls,true)))else sW t l ls):=by
      intro ha;refine Ev.step (f:=fun k=>(kJ.f k t s).bind fun zB=>(if zB.2=true then(gT.j1 k zB.1 (zB.1==0) t l ls a s t l ls)else(gT.j1 k zB.1 true t l ls a s t l ls))) (fun k=>rfl) (Ev.bind (qp t s) ?_);by_cases h2:(holds t s).2=true
      · rw[if_pos h2]
        refine gm h2 ?_;have eh:holds t s=((holds t s).1,true):=by rw[←h2]
        obtain⟨_,v0,v1⟩:=sq eh;obtain⟨v,ev⟩:=Int.eq_ofNat_of_zero_le v0;have hv2:v<2^wn t:=by have:=tj ht;omega
        rw[ev,Int.toNat_natCast];by_cases e0:(v:Int)=0
        · rw[if_pos e0,show((v:Int)==0)=true from by rw[e0];rfl]
          exact ER _
        · rw[if_neg e0,show((v:Int)==0)=false from beq_eq_false_iff_ne.2 e0]
          have hq:=wg hr a v;have hql:(wB l a v).length≤100:=by have:=(kn.1 (oP.1 hq).1).2.1;omega
          have two:Ev (fun k=>gT.j2 k (v:Int) a t l ls t l ls) (if wB l a v=l then sW t l ls else(t,wB l a v,push l ls,true)):=by
            refine Ev.step (f:=fun k=>(gY.f k t l a (v:Int)).bind fun Eh=>((iG.f k Eh l).bind fun Hm=>(if Hm=true then(some (t,l,ls,false))else(if ls.length<5864062014805 then((some (ls++ [l]:List (List Int))).bind fun CO=>(if(CO.length:Int)>10 then(if 1≤(CO.length:Int)then((ig.f k t Eh (CO.drop (1:Int).toNat)).bind fun wj=>(some (wj.1,wj.2.1,wj.2.2,true)))else(none))else((ig.f k t Eh CO).bind fun wj=>(some (wj.1,wj.2.1,wj.2.2,true)))))else(none))))) (fun k=>rfl) (Ev.bind (yo ht hl hx hv2 a) (Ev.bind (xN (by omega)) ?_));by_cases e:wB l a v=l
            · rw[if_pos e]
              exact gm (decide_eq_true e) (Ev.now _)
            · rw[if_neg e]
              have hall:∀y∈ls++ [l],y.length≤100:=fun y hy=>by
                rcases List.mem_append.1 hy with hy|hy
                · exact hlen y hy
                · rw[List.mem_singleton.1 hy];omega
              have hln:(ls++ [l]).length=ls.length+1:=by rw[List.length_append,List.length_singleton]
              refine gn (by rw[decide_eq_false e];decide) (gm (by omega) (ie rfl ?_));unfold push;by_cases h10:ls.length+1>10
              · rw[if_pos h10]
                have hc3:=rp t (l:=wB l a v) (ls:=(ls++ [l]).drop 1) hql (by rw[List.length_drop];omega) (fun y hy=>hall y (List.mem_of_mem_drop hy));exact gm (by rw[hln];omega) (gm (by rw[hln];omega) (Ev.bind hc3 (Ev.now _)))
              · rw[if_neg h10]
                have hc3:=rp t (l:=wB l a v) (ls:=ls++ [l]) hql (by omega) hall;exact gn (by rw[hln];omega) (Ev.bind hc3 (Ev.now _))
          refine Ev.step (f:=fun k=>if a=1 then(gT.j2 k (v:Int) 1 t l ls t l ls)else(gT.j2 k (v:Int) 0 t l ls t l ls)) (fun k=>rfl) ?_;rcases ha with rfl|rfl
          · exact gn (by decide) two
          · exact gm rfl two
      · rw[if_neg h2]
        exact gn h2 (ER _)
    by_cases a0:a=0
    · rw[if_pos (Or.inl a0)]
      exact gm a0 (go (Or.inl a0))
    · refine gn a0 ?_
      by_cases a1:a=1
      · rw[if_pos (Or.inr a1),show(a !=1)=false from by rw[a1];rfl]
        exact go (Or.inr a1)
      · rw[if_neg (by omega),show(a !=1)=true from bne_iff_ne.2 a1]
        exact no
theorem BO {l:List Int} {ls:List (List Int)} (h:ls.length≤10):(push l ls).length≤10:=by
  unfold push;split
  · rw[List.length_drop,List.length_append,List.length_singleton];omega
  · rw[List.length_append,List.length_singleton];omega
theorem BP {l y:List Int} {ls:List (List Int)} (h:y∈push l ls):y∈ls∨y=l:=by
  have:y∈ls++ [l]:=by
    unfold push at h;split at h
    · exact List.mem_of_mem_drop h
    · exact h
  rcases List.mem_append.1 this with k|k
  · exact Or.inl k
  · exact Or.inr (List.mem_singleton.1 k)
theorem BQ {t:Int} {l:List Int} {ls:List (List Int)} (hm:qv t l ls=true) (a:Int) (s:BA):qv (yB t l ls a s).1 (yB t l ls a s).2.1 (yB t l ls a s).2.2.1=true:=by
  obtain⟨htl,h10,hls⟩:=qq.1 hm;unfold yB;have no:qv (sW t l ls).1 (sW t l ls).2.1 (sW t l ls).2.2.1=true:=hm;split
  · split
    · exact no
    · rename_i he
      have hlast:ls.getLastD []∈ls:=by rw[List.getLastD_eq_getLast?,List.getLast?_eq_some_getLast he];exact List.getLast_mem he
      exact qq.2 ⟨hls _ hlast,by rw[List.length_dropLast];omega,fun y hy=>hls y (uh hy)⟩
  · split
    · split
      · split
        · exact no
        · split
          · exact no
          · exact qq.2 ⟨wg (oP.1 htl).1 _ _,BO h10,fun y hy=>(BP hy).elim (hls y) (fun e=>e▸htl)⟩
      · exact no
    · exact no
theorem ui {n:Nat} (h:n≤10):(num n).size≤5:=by
  have:∀m:Nat,m<11→(num m).size≤5:=by decide+kernel
  exact this n (by omega)
def texts (l:List Int):List BA:=l.map fun x=>num x.toNat
def jn:BA→List Int→BA
  |c,[]=>c
  |c,x::r=>jn ((c++(⟨#[44]⟩:BA))++num x.toNat) r
theorem xw:∀(r:List Int) (c:BA),(jn c r).toList=c.toList++Lib.joinTail [44] ((texts r).map (·.data.toList))
  | [],c=>by simp[jn,texts,Lib.joinTail]
  |x::r,c=>by
    unfold jn
    rw[xw r,sV,sV,toList_data (num x.toNat),show(⟨#[44]⟩:BA).toList= [44] from by decide+kernel]
    simp[texts,Lib.joinTail]
theorem zC:∀(r:List Int) (c:BA),(∀x∈r,x.toNat≤10)→(jn c r).size≤c.size+6*r.length
  | [],c,_=>by simp[jn]
  |x::r,c,h=>by
    unfold jn
    have h1:=zC r ((c++(⟨#[44]⟩:BA))++num x.toNat) (fun y hy=>h y (List.mem_cons_of_mem _ hy))
    have h2:=ui (h x List.mem_cons_self)
    rw[ByteArray.size_append,ByteArray.size_append,show(⟨#[44]⟩:BA).size=1 from rfl]at h1
    rw[List.length_cons]
    omega
theorem yC {x:Int} {r:List Int} (h:∀y∈x::r,y.toNat≤10) (hr:r.length≤8):strings_Join.f (texts (x::r)) (⟨#[44]⟩:BA)=some (jn (num x.toNat) r):=by
  have e:Lib.join ((texts (x::r)).map (·.data.toList)) (⟨#[44]⟩:BA).data.toList=(jn (num x.toNat) r).toList:=by
    rw[xw]
    show Lib.join ((num x.toNat).data.toList::(texts r).map (·.data.toList)) [44]=_
    rw[Lib.join_cons,toList_data]
  have hs:=zC r (num x.toNat) (fun y hy=>h y (List.mem_cons_of_mem _ hy));have hn:=ui (h x List.mem_cons_self);unfold strings_Join.f;rw[e,kI,if_pos (by simp[texts];omega),if_pos (by omega)];refine congrArg some (ext_list ?_);rw[toList_data]
theorem xU {l:List Int} (hl:l.length≤8) (hx:∀x∈l,0≤x∧x≤9) {r:BA} (hj:strings_Join.f (texts l) (⟨#[44]⟩:BA)=some r):Ev (fun k=>jf.l0 k ([]:List BA) l (l.length:Int) 0) r:=by
  have key:∀i,i≤l.length→Ev (fun k=>jf.l0 k ((texts l).take i) l (l.length:Int) (i:Int)) r:=by
    apply down
    · rw[List.take_of_length_le (by simp[texts])]
      exact Ev.step (fun k=>rfl) (gn (by omega) (ie hj (Ev.now _)))
    · intro i hi ih
      have hm:=hx _ (yn hi);have e:texts l=texts l:=rfl
      have ht:(texts l).take (i+1)=(texts l).take i++ [num (rd l (i:Int)).toNat]:=by
        have hi':i<(texts l).length:=by simp[texts];exact hi
        rw[List.take_succ_eq_append_getElem hi',qK hi];simp[texts]
      rw[ht]at ih
      have hn:strconv_Itoa.f (rd l (i:Int))=some (num (rd l (i:Int)).toNat):=by
        have:=(sZ (n:=(rd l (i:Int)).toNat) (by omega)).1;rw[Int.toNat_of_nonneg hm.1]at this;exact this
      refine Ev.step (fun k=>rfl) (gm (by omega) (gm (by omega) (gm (by omega) (ie hn (gm ?_ ?_)))))
      · rw[List.length_take]
        omega
      · rw[w1 hi (by omega)]
        exact ih
  exact key 0 (Nat.zero_le _)
theorem uL {x:Int} (h0:0≤x) (h:x.toNat≤10):Ev (fun k=>gV.f k x) (num x.toNat):=by
  have:=tp h;rw[Int.toNat_of_nonneg h0]at this;exact this
theorem yD {t:Int} {l:List Int} {ls:List (List Int)} {q:Int} {m:List Int} {ms:List (List Int)} (hl:l.length≤8) (hx:∀x∈l,0≤x∧x≤9):∀i,i≤l.length→∀c:BA,c.size≤6*i→
    Ev (fun k=>fC.l0 k c (i:Int) t l ls q m ms) (q,m,ms,jn c (l.drop i)):=by
  apply down
  · intro c _
    rw[List.drop_length];exact Ev.step (fun k=>rfl) (gn (by omega) (Ev.now _))
  · intro i hi ih c hc
    have hm:=hx _ (yn hi);have hs:=ui (n:=(rd l (i:Int)).toNat) (by omega);have hc1:(c++(⟨#[44]⟩:BA)).size=c.size+1:=by rw[ByteArray.size_append];rfl
    rw[List.drop_eq_getElem_cons hi,←qK hi];refine Ev.step (fun k=>rfl) (gm (by omega) (gm (by omega) (gm (by omega) (Ev.bind (uL hm.1 (by omega)) (gm (by omega) ?_)))));rw[w1 hi (by omega)];exact ih _ (by rw[ByteArray.size_append];omega)
theorem Ac (t:Int) {s:BA} (hs:s.size≤1000000000):∃v:Int×Int×Bool,Ev (fun k=>oC.f k t s) v∧Ev (fun k=>iu.f k t s) v∧(v=(0,0,false)∨∃a b:Nat,v=((a:Int),(b:Int),true)∧a≠0∧a≤all t∧b≤all t):=by
  rcases uv t (s:=s) (by omega)with⟨k,h1,h2,h3⟩|⟨h1,h2⟩
  · refine⟨_,h3,uw t hs h1 h2,?_⟩
    rcases xr t s k with e|⟨a,b,e,_,g1,g2,g3⟩
    · exact Or.inl e
    · exact Or.inr ⟨a,b,e,g1,g2,g3⟩
  · exact⟨_,h2,tT t hs h1,Or.inl rfl⟩
def plain (s:BA):Bool:=(List.range s.size).all fun(j:Nat)=>decide (32≤bt s (j:Int)∧bt s (j:Int)≤126)
def plainFrom (s:BA) (i:Nat):Bool:=(List.range' i (s.size - i)).all fun(j:Nat)=>decide (32≤bt s (j:Int)∧bt s (j:Int)≤126)
theorem tN (s:BA):plainFrom s s.size=true:=by unfold plainFrom;rw[Nat.sub_self];rfl
theorem tq (s:BA) {i:Nat} (h:i<s.size):plainFrom s i=(decide (32≤bt s (i:Int)∧bt s (i:Int)≤126)&&plainFrom s (i+1)):=by
  unfold plainFrom;rw[show s.size - i=(s.size - (i+1))+1 from by omega,List.range'_succ,List.all_cons]
theorem tO (s:BA):plainFrom s 0=plain s:=by
  unfold plainFrom plain;rw[Nat.sub_zero,List.range_eq_range']
theorem xV {s:BA} (hs:s.size≤9223372036854775807):Ev (fun k=>jT.f k s) (plain s&&decide (s.size≠0)):=by
  unfold jT.f;rw[←tO]
  have key:∀i,i≤s.size→Ev (fun k=>jT.l0 k s (i:Int)) (plainFrom s i&&decide (s.size≠0)):=by
    apply down
    · refine Ev.step (fun k=>rfl) (gn (by omega) (kQ (Ev.now _) ?_))
      rw[tN,Bool.true_and];exact decide_eq_decide.2 (by omega)
    · intro i hi ih
      refine Ev.step (fun k=>rfl) (gm (by omega) (gm (by omega) ?_));rw[tq s hi];by_cases h1:bt s (i:Int)<32
      · rw[decide_eq_false (by omega)]
        exact gm h1 (Ev.now _)
      · by_cases h2:bt s (i:Int)>126
        · rw[decide_eq_false (by omega)]
          exact gn h1 (gm h2 (Ev.now _))
        · rw[decide_eq_true (by omega),w1 hi hs]
          exact gn h1 (gn h2 ih)
  exact key 0 (Nat.zero_le _)
theorem wk {s:BA} (hs:s.size≤9223372036854775807):Ev (fun k=>jM.f k s) (plain s):=by
  unfold jM.f;rw[←tO]
  have key:∀i,i≤s.size→Ev (fun k=>jM.l0 k s (s.size:Int) (i:Int)) (plainFrom s i):=by
    apply down
    · refine Ev.step (fun k=>rfl) (gn (by omega) (kQ (Ev.now _) ?_))
      rw[tN]
    · intro i hi ih
      refine Ev.step (fun k=>rfl) (gm (by omega) (gm (by omega) (gm (by omega) ?_)));rw[tq s hi];by_cases h1:bt s (i:Int)<32
      · rw[decide_eq_false (by omega)]
        exact gm h1 (Ev.now _)
      · by_cases h2:bt s (i:Int)>126
        · rw[decide_eq_false (by omega)]
          exact gn h1 (gm h2 (Ev.now _))
        · rw[decide_eq_true (by omega),w1 hi hs]
          exact gn h1 (gn h2 ih)
  exact key 0 (Nat.zero_le _)
def xx:BA:=⟨#[102,105,114,115,116,32]⟩
def CP:BA:=⟨#[97,108,108,32]⟩
def BR:BA:=⟨#[98,97,99,107]⟩
def rC (kind:Int) (s:BA):BA:=
  if kind=2∧s.size=0 then BR else if plain s=true∧s.size≠0 then(if kind=0 then xx++s else if kind=1 then CP++s else⟨#[]⟩)else⟨#[]⟩
theorem vw (kind:Int) (s:BA):(kind==2&&(s.toList==([]:List UInt8)))=true↔kind=2∧s.size=0:=by
  rw[Bool.and_eq_true,beq_iff_eq,beq_iff_eq,tg]
theorem Ad (s:BA):((⟨#[102,105,114,115,116]⟩:BA)++(⟨#[32]⟩:BA))++s=xx++s:=by congr 1
theorem CQ (s:BA):((⟨#[97,108,108]⟩:BA)++(⟨#[32]⟩:BA))++s=CP++s:=by congr 1
theorem tb (kind:Int) {s:BA} (hs:s.size≤9223372036854775000):Ev (fun k=>js.f k kind s) (rC kind s):=by
  unfold js.f rC;refine ie (rO _ _ _) ?_
  have off:(¬(plain s=true∧s.size≠0)∨(kind≠0∧kind≠1))→Ev (fun k=>js.j0 k false kind s) (if kind=2∧s.size=0 then BR else if plain s=true∧s.size≠0 then(if kind=0 then xx++s else if kind=1 then CP++s else⟨#[]⟩)else⟨#[]⟩):=by
    intro h;refine Ev.step (fun k=>rfl) ?_;simp only[js.j0];refine gn Bool.false_ne_true ?_;by_cases h2:kind=2∧s.size=0
    · rw[if_pos h2]
      exact gm ((vw kind s).2 h2) (Ev.now _)
    · rw[if_neg h2]
      refine gn (fun x=>h2 ((vw kind s).1 x)) (kQ (Ev.now _) ?_);rcases h with h|h
      · rw[if_neg h]
      · rw[if_neg h.1,if_neg h.2,ite_self]
  by_cases h:0≤kind∧kind≤1
  · refine gm (decide_eq_true h) (Ev.bind (xV (by omega)) ?_)
    by_cases hp:plain s=true∧s.size≠0
    · rw[hp.1,decide_eq_true hp.2,if_neg (by omega),if_pos ⟨rfl,hp.2⟩]
      refine Ev.step (fun k=>rfl) ?_;simp only[js.j0];have hk:kind=0∨kind=1:=by omega
      rcases hk with rfl|rfl
      · exact gm rfl (ie rfl (gm (by omega) (gm (by decide) (gm (by decide) (gm (by rw[ByteArray.size_append];show 6+s.size≤_;omega) (kQ (Ev.now _) (Ad s)))))))
      · exact gm rfl (ie rfl (gm (by omega) (gm (by decide) (gm (by decide) (gm (by rw[ByteArray.size_append];show 4+s.size≤_;omega) (kQ (Ev.now _) (CQ s)))))))
    · have e:(plain s&&decide (s.size≠0))=false:=by
        rw[Bool.eq_false_iff];intro x;rw[Bool.and_eq_true,decide_eq_true_iff]at x;exact hp x
      rw[e];exact off (Or.inl hp)
  · exact gn (by rw[decide_eq_false h];decide) (off (Or.inr (by omega)))
theorem qz (kind:Int) {s:BA} (hs:s.size≤9223372036854775000):Ev (fun k=>jW.f k kind s) (rC kind s):=by
  unfold jW.f rC;by_cases h2:kind=2∧s.size=0
  · rw[if_pos h2]
    exact gm ((vw kind s).2 h2) (Ev.now _)
  rw[if_neg h2];refine gn (fun x=>h2 ((vw kind s).1 x)) ?_;by_cases h0:s.size=0
  · rw[if_neg (fun x=>x.2 h0)]
    refine gm ((tg s).2 h0) (Ev.step (fun k=>rfl) ?_);simp only[jW.j0];exact gm trivial (Ev.now _)
  · refine gn (fun x=>h0 ((tg s).1 x)) (Ev.bind (wk (by omega)) ?_)
    cases hp:plain s with
    |false=>
      rw[if_neg (fun x=>Bool.false_ne_true x.1)];refine Ev.step (fun k=>rfl) ?_;simp only[jW.j0,Bool.not_false];exact gm trivial (Ev.now _)
    |true=>
      rw[if_pos ⟨rfl,h0⟩];refine Ev.step (fun k=>rfl) ?_;simp only[jW.j0,Bool.not_true];refine gn Bool.false_ne_true ?_;by_cases k0:kind=0
      · exact gm k0 (gm (by omega) (kQ (Ev.now _) (if_pos k0).symm))
      · refine gn k0 ?_
        by_cases k1:kind=1
        · exact gm k1 (gm (by omega) (kQ (Ev.now _) ((if_neg k0).trans (if_pos k1)).symm))
        · exact gn k1 (kQ (Ev.now _) ((if_neg k0).trans (if_neg k1)).symm)
theorem CR (l:List UInt8):(⟨l.toArray⟩:BA).toList=l:=by rw[toList_data]
theorem uP (l:List UInt8) (c:UInt8):(Lib.indexByte l c= -1∧c∉l)∨∃(a b:List UInt8),l=a++c::b∧c∉a∧Lib.indexByte l c=(a.length:Int):=by
  induction l with
  |nil=>exact Or.inl ⟨rfl,by simp⟩
  |cons x l ih=>
    unfold Lib.indexByte;by_cases hx:(x==c)=true
    · rw[if_pos hx]
      exact Or.inr ⟨[],l,by rw[beq_iff_eq.1 hx];rfl,by simp,rfl⟩
    · rw[if_neg hx]
      have Ic:c≠x:=fun e=>hx (by rw[e];exact beq_self_eq_true x)
      rcases ih with⟨h1,h2⟩|⟨a,b,h1,h2,h3⟩
      · rw[h1,if_pos (by decide)]
        exact Or.inl ⟨rfl,by rw[List.mem_cons];rintro(h|h);exact Ic h;exact h2 h⟩
      · rw[h3,if_neg (by rw[beq_iff_eq];omega)]
        exact Or.inr ⟨x::a,b,by rw[h1];rfl,by rw[List.mem_cons];rintro(h|h);exact Ic h;exact h2 h,by rw[List.length_cons];omega⟩
theorem wQ (s:BA) (c:UInt8) (hs:s.size<9223372036854775807):
    (strings_Cut.f s ⟨#[c]⟩=some (s,(⟨#[]⟩:BA),false)∧c∉s.toList)∨
    ∃a b:BA,strings_Cut.f s ⟨#[c]⟩=some (a,b,true)∧s.toList=a.toList++c::b.toList∧c∉a.toList:=by
  have hbt:bt (⟨#[c]⟩:BA) 0=(c.toNat:Int):=rfl
  have key:∀i:Int,stringslite_Index.f s ⟨#[c]⟩=some i→i=Lib.indexByte s.toList c→((strings_Cut.f s ⟨#[c]⟩=some (s,(⟨#[]⟩:BA),false)∧c∉s.toList)∨
    ∃a b:BA,strings_Cut.f s ⟨#[c]⟩=some (a,b,true)∧s.toList=a.toList++c::b.toList∧c∉a.toList):=by
    intro i hi hv;unfold strings_Cut.f stringslite_Cut.f;rw[hi,Option.bind_some];rcases uP s.toList c with⟨h1,h2⟩|⟨a,b,h1,h2,h3⟩
    · rw[hv,h1,if_pos (by decide)]
      exact Or.inl ⟨rfl,h2⟩
    · have hl:a.length+(b.length+1)=s.size:=by rw[←kI,h1,List.length_append,List.length_cons]
      rw[hv,h3,if_neg (by omega),Int.toNat_natCast,if_pos (by show a.length+1≤s.size;omega)];refine Or.inr ⟨_,_,rfl,?_,?_⟩
      · rw[rQ,List.drop_zero,Nat.sub_zero,rA,h1,List.take_left]
        congr 1
        show c::b=c::(a++c::b).drop (a.length+1)
        rw[List.drop_append,List.drop_of_length_le (by omega),show a.length+1 - a.length=1 from by omega];rfl
      · rw[rQ,List.drop_zero,Nat.sub_zero,h1,List.take_left]
        exact h2
  unfold stringslite_Index.f at key;rw[if_pos (show(⟨#[c]⟩:BA).size=1 from rfl),if_pos hs]at key;by_cases he:((⟨#[c]⟩:BA).toList==s.toList)=true
  · rw[if_pos he]at key
    refine key 0 rfl ?_;have:s.toList= [c]:=by rw[←beq_iff_eq.1 he];exact CR [c]
    rw[this]
    show(0:Int)=if c==c then 0 else _
    rw[if_pos (beq_self_eq_true c)]
  · rw[if_neg he]at key
    refine key _ rfl ?_
    show Lib.indexByte s.data.toList ((bt (⟨#[c]⟩:BA) 0).toNat.toUInt8)=_
    rw[hbt,Int.toNat_natCast,toList_data];congr 1;simp
def rU (s:BA):Int×BA×Bool:=
  if s.toList= [98,97,99,107]then(2,(⟨#[]⟩:BA),true)
  else if[102,105,114,115,116,32]<+:s.toList∧plain (s.extract 6 s.size)=true∧6<s.size then(0,s.extract 6 s.size,true)
  else if[97,108,108,32]<+:s.toList∧plain (s.extract 4 s.size)=true∧4<s.size then(1,s.extract 4 s.size,true)
  else(0,(⟨#[]⟩:BA),false)
theorem Ae:BR.toList= [98,97,99,107]:=by decide+kernel
theorem yE:xx.toList= [102,105,114,115,116,32]:=by decide+kernel
theorem BS:CP.toList= [97,108,108,32]:=by decide+kernel
theorem uj:(⟨#[]⟩:BA).toList= []:=by decide+kernel
theorem wm {p:List UInt8} {s:BA} (h:p<+:s.toList):s.toList=p++(s.extract p.length s.size).toList:=by
  obtain⟨t,ht⟩:=h;rw[rA,←ht,List.drop_left]
theorem extract_size (s:BA) {i:Nat} (_:i≤s.size):(s.extract i s.size).size=s.size - i:=by rw[←kI,rA,List.length_drop,kI]
theorem uy (s t:BA):(rC 0 t).toList=s.toList↔(s.toList= [102,105,114,115,116,32]++t.toList∧plain t=true∧t.size≠0)∨(¬(plain t=true∧t.size≠0)∧s.toList= []):=by
  unfold rC;rw[if_neg (by omega)];by_cases h:plain t=true∧t.size≠0
  · rw[if_pos h,if_pos rfl,sV,yE]
    exact⟨fun k=>Or.inl ⟨k.symm,h⟩,fun k=>k.elim (fun k=>k.1.symm) (fun k=>absurd h k.1)⟩
  · rw[if_neg h,uj]
    exact⟨fun k=>Or.inr ⟨h,k.symm⟩,fun k=>k.elim (fun k=>absurd k.2 h) (fun k=>k.2.symm)⟩
theorem wo (s t:BA):(rC 1 t).toList=s.toList↔(s.toList= [97,108,108,32]++t.toList∧plain t=true∧t.size≠0)∨(¬(plain t=true∧t.size≠0)∧s.toList= []):=by
  unfold rC;rw[if_neg (by omega)];by_cases h:plain t=true∧t.size≠0
  · rw[if_pos h,if_neg (by omega),if_pos rfl,sV,BS]
    exact⟨fun k=>Or.inl ⟨k.symm,h⟩,fun k=>k.elim (fun k=>k.1.symm) (fun k=>absurd h k.1)⟩
  · rw[if_neg h,uj]
    exact⟨fun k=>Or.inr ⟨h,k.symm⟩,fun k=>k.elim (fun k=>absurd k.2 h) (fun k=>k.2.symm)⟩
theorem uM {s t:BA} (h:s.toList= [102,105,114,115,116,32]++t.toList) (hp:plain t=true) (h0:t.size≠0):rU s=(0,t,true):=by
  have e:s.extract 6 s.size=t:=ext_list (by rw[rA,h];rfl);have hl:s.size=6+t.size:=by rw[←kI,h,List.length_append,kI];rfl
  unfold rU;rw[if_neg (by rw[h];intro k;injection k with k _;exact absurd k (by decide)),if_pos ⟨⟨t.toList,h.symm⟩,by rw[e];exact hp,by omega⟩,e]
theorem wR {s t:BA} (h:s.toList= [97,108,108,32]++t.toList) (hp:plain t=true) (h0:t.size≠0):rU s=(1,t,true):=by
  have e:s.extract 4 s.size=t:=ext_list (by rw[rA,h];rfl);have hl:s.size=4+t.size:=by rw[←kI,h,List.length_append,kI];rfl
  unfold rU
  rw[if_neg (by rw[h];intro k;injection k with k _;exact absurd k (by decide)),
    if_neg (fun k=>by obtain⟨⟨u,hu⟩,_⟩:=k;rw[h]at hu;injection hu with hu _;exact absurd hu (by decide)),
    if_pos ⟨⟨t.toList,h.symm⟩,by rw[e];exact hp,by omega⟩,e]
theorem wq {s:BA} (h:s.toList= [98,97,99,107]):rU s=(2,(⟨#[]⟩:BA),true):=by unfold rU;rw[if_pos h]
theorem rr {s:BA} (h1:s.toList≠ [98,97,99,107]) (h2:∀t:BA,s.toList= [102,105,114,115,116,32]++t.toList→¬(plain t=true∧t.size≠0))
    (h3:∀t:BA,s.toList= [97,108,108,32]++t.toList→¬(plain t=true∧t.size≠0)):rU s=(0,(⟨#[]⟩:BA),false):=by
  unfold rU
  rw[if_neg h1,if_neg (fun k=>h2 _ (wm k.1) ⟨k.2.1,by show(s.extract 6 s.size).size≠0;rw[extract_size s (by omega)];omega⟩),
    if_neg (fun k=>h3 _ (wm k.1) ⟨k.2.1,by show(s.extract 4 s.size).size≠0;rw[extract_size s (by omega)];omega⟩)]
theorem xW (s:BA):(s.toList= [98,97,99,107]∧rU s=(2,(⟨#[]⟩:BA),true))∨
    (∃t:BA,s.toList= [102,105,114,115,116,32]++t.toList∧plain t=true∧t.size≠0∧rU s=(0,t,true))∨
    (∃t:BA,s.toList= [97,108,108,32]++t.toList∧plain t=true∧t.size≠0∧rU s=(1,t,true))∨
    (s.toList≠ [98,97,99,107]∧(∀t:BA,s.toList= [102,105,114,115,116,32]++t.toList→¬(plain t=true∧t.size≠0))∧(∀t:BA,s.toList= [97,108,108,32]++t.toList→¬(plain t=true∧t.size≠0))∧rU s=(0,(⟨#[]⟩:BA),false)):=by
  by_cases h1:s.toList= [98,97,99,107]
  · exact Or.inl ⟨h1,wq h1⟩
  by_cases h2:∃t:BA,s.toList= [102,105,114,115,116,32]++t.toList∧plain t=true∧t.size≠0
  · obtain⟨t,a,b,c⟩:=h2
    exact Or.inr (Or.inl ⟨t,a,b,c,uM a b c⟩)
  by_cases h3:∃t:BA,s.toList= [97,108,108,32]++t.toList∧plain t=true∧t.size≠0
  · obtain⟨t,a,b,c⟩:=h3
    exact Or.inr (Or.inr (Or.inl ⟨t,a,b,c,wR a b c⟩))
  have k2:∀t:BA,s.toList= [102,105,114,115,116,32]++t.toList→¬(plain t=true∧t.size≠0):=fun t a b=>h2 ⟨t,a,b⟩
  have k3:∀t:BA,s.toList= [97,108,108,32]++t.toList→¬(plain t=true∧t.size≠0):=fun t a b=>h3 ⟨t,a,b⟩
  exact Or.inr (Or.inr (Or.inr ⟨h1,k2,k3,rr h1 k2 k3⟩))
theorem tV {c:UInt8}:∀{a a' b b':List UInt8},c∉a→c∉a'→a++c::b=a'++c::b'→a=a'
  | [],[],_,_,_,_,_=>rfl
  | [],y::a',_,_,_,h2,e=>by injection e with e _;exact absurd (by rw[e];exact List.mem_cons_self) h2
  |x::a,[],_,_,h1,_,e=>by injection e with e _;exact absurd (by rw[←e];exact List.mem_cons_self) h1
  |x::a,y::a',_,_,h1,h2,e=>by
    injection e with e1 e2
    rw[e1,tV (fun k=>h1 (List.mem_cons_of_mem _ k)) (fun k=>h2 (List.mem_cons_of_mem _ k)) e2]
theorem xy (t:BA) (h:t.size=0):(rC 2 t).toList= [98,97,99,107]:=by unfold rC;rw[if_pos ⟨rfl,h⟩,Ae]
theorem CS (t:BA) (h:t.size≠0):(rC 2 t).toList= []:=by
  unfold rC;rw[if_neg (fun k=>h k.2)];split
  · rw[if_neg (by omega),if_neg (by omega),uj]
  · exact uj
theorem tc {s:BA} (hs:s.size≤9223372036854774000):Ev (fun k=>pk.f k s) (rU s):=by
  unfold pk.f;rcases wQ s 32 (by omega)with⟨hc,hn⟩|⟨a,b,hc,hl,hn⟩
  · refine ie hc ?_
    show Ev (fun k=>if s.toList=_ then _ else _) _
    have n1:∀t:BA,s.toList≠ [102,105,114,115,116,32]++t.toList:=fun t e=>hn (by rw[e];simp)
    have n2:∀t:BA,s.toList≠ [97,108,108,32]++t.toList:=fun t e=>hn (by rw[e];simp)
    by_cases h1:s.toList= [102,105,114,115,116]
    · refine gm h1 (Ev.bind (qz 0 (s:=⟨#[]⟩) (by decide)) (gn ?_ ?_))
      · show¬(rC 0 (⟨#[]⟩:BA)).toList=s.toList
        rw[uy];rintro(⟨e,_⟩|⟨_,e⟩)
        · exact n1 _ e
        · rw[h1]at e;cases e
      · rw[rr (by rw[h1];decide) (fun t e=>absurd e (n1 t)) (fun t e=>absurd e (n2 t))]
        exact Ev.now _
    refine gn h1 ?_;by_cases h2:s.toList= [97,108,108]
    · refine gm h2 (Ev.bind (qz 1 (s:=⟨#[]⟩) (by decide)) (gn ?_ ?_))
      · show¬(rC 1 (⟨#[]⟩:BA)).toList=s.toList
        rw[wo];rintro(⟨e,_⟩|⟨_,e⟩)
        · exact n2 _ e
        · rw[h2]at e;cases e
      · rw[rr (by rw[h2];decide) (fun t e=>absurd e (n1 t)) (fun t e=>absurd e (n2 t))]
        exact Ev.now _
    refine gn h2 ?_;by_cases h3:s.toList= [98,97,99,107]
    · refine gm h3 (Ev.bind (qz 2 (s:=⟨#[]⟩) (by decide)) (gm ?_ ?_))
      · show(rC 2 (⟨#[]⟩:BA)).toList=s.toList
        rw[xy _ rfl,h3]
      · rw[wq h3]
        exact Ev.now _
    refine gn h3 ?_;rw[rr h3 (fun t e=>absurd e (n1 t)) (fun t e=>absurd e (n2 t))];exact Ev.now _
  · refine ie hc ?_
    show Ev (fun k=>if a.toList=_ then _ else _) _
    have hbs:b.size≤9223372036854775000:=by
      have:=congrArg List.length hl;rw[List.length_append,List.length_cons,kI,kI,kI]at this;omega
    have nb:s.toList≠ [98,97,99,107]:=fun e=>by
      have:(32:UInt8)∈s.toList:=by rw[hl];simp
      rw[e]at this;revert this;decide
    by_cases h1:a.toList= [102,105,114,115,116]
    · have hl1:s.toList= [102,105,114,115,116,32]++b.toList:=by rw[hl,h1];rfl
      refine gm h1 (Ev.bind (qz 0 hbs) ?_);by_cases hp:plain b=true∧b.size≠0
      · rw[uM hl1 hp.1 hp.2]
        exact gm ((uy s b).2 (Or.inl ⟨hl1,hp⟩)) (Ev.now _)
      · refine gn (fun k=>?_) ?_
        · rcases(uy s b).1 k with k|k
          · exact hp k.2
          · rw[hl1]at k;cases k.2
        · rw[rr nb (fun t e k=>hp (by
            have:t=b:=ext_list (List.append_cancel_left (e.symm.trans hl1));rwa [this]at k)) (fun t e=>by rw[hl1]at e;injection e with e _;exact absurd e (by decide))]
          exact Ev.now _
    refine gn h1 ?_;by_cases h2:a.toList= [97,108,108]
    · have hl1:s.toList= [97,108,108,32]++b.toList:=by rw[hl,h2];rfl
      refine gm h2 (Ev.bind (qz 1 hbs) ?_);by_cases hp:plain b=true∧b.size≠0
      · rw[wR hl1 hp.1 hp.2]
        exact gm ((wo s b).2 (Or.inl ⟨hl1,hp⟩)) (Ev.now _)
      · refine gn (fun k=>?_) ?_
        · rcases(wo s b).1 k with k|k
          · exact hp k.2
          · rw[hl1]at k;cases k.2
        · rw[rr nb (fun t e=>by rw[hl1]at e;injection e with e _;exact absurd e (by decide)) (fun t e k=>hp (by
            have:t=b:=ext_list (List.append_cancel_left (e.symm.trans hl1));rwa [this]at k))]
          exact Ev.now _
    refine gn h2 ?_
    have n1:∀t:BA,s.toList≠ [102,105,114,115,116,32]++t.toList:=fun t e=>by
      have e2:a.toList++32::b.toList= [102,105,114,115,116]++32::t.toList:=hl.symm.trans e;exact h1 (tV hn (by decide) e2)
    have n2:∀t:BA,s.toList≠ [97,108,108,32]++t.toList:=fun t e=>by
      have e2:a.toList++32::b.toList= [97,108,108]++32::t.toList:=hl.symm.trans e;exact h2 (tV hn (by decide) e2)
    by_cases h3:a.toList= [98,97,99,107]
    · refine gm h3 (Ev.bind (qz 2 hbs) (gn (fun k=>?_) ?_))
      · have hk:(rC 2 b).toList=s.toList:=k
        by_cases hb0:b.size=0
        · rw[xy b hb0]at hk;exact nb hk.symm
        · rw[CS b hb0,hl]at hk;simp at hk
      · rw[rr nb (fun t e=>absurd e (n1 t)) (fun t e=>absurd e (n2 t))]
        exact Ev.now _
    refine gn h3 ?_;rw[rr nb (fun t e=>absurd e (n1 t)) (fun t e=>absurd e (n2 t))];exact Ev.now _
theorem uk {α:Type} {c:Prop} [Decidable c] {g:Nat→Option α} {r:α} (h:Ev g r):Ev (fun n=>if c then g n else g n) r:=by
  by_cases k:c
  · exact gm k h
  · exact gn k h
def what:BA:=⟨#[119,104,97,116]⟩
def Dp (k:Nat) (t:Int) (l:List Int) (c:Int) (a b:BA):Option BA:=
  if a.toList=([110,111,114,109,97,108,108,121]:List UInt8)then((oC.f k t b).bind fun v=>(if v.2.2=true then((jR.f k t l v.1 v.2.1).bind fun x=>((qF.f x).bind fun y=>(some y)))else(some (⟨#[119,104,97,116]⟩:BA))))else((kJ.f k t b).bind fun h=>(if h.2=true then(if a.toList=([98,101,108,105,101,118,101]:List UInt8)then((qF.f ((Go.bits .andNot .i64 c h.1)==0)).bind fun y=>(some y))else(if a.toList=([102,105,114,109]:List UInt8)then((pq.f k t l h.1).bind fun x=>((strconv_Itoa.f x).bind fun y=>(some y)))else(if a.toList=([103,105,118,101]:List UInt8)then((qb.f k t l h.1).bind fun x=>((gS.f k t x).bind fun y=>(some y)))else(if a.toList=([117,112,100,97,116,101]:List UInt8)then((jm.f k t c h.1).bind fun x=>((gS.f k t x).bind fun y=>(some y)))else(if a.toList=([110,101,97,114]:List UInt8)then((kd.f k t c h.1).bind fun x=>((gS.f k t x).bind fun y=>(some y)))else(some (⟨#[119,104,97,116]⟩:BA)))))))else(some (⟨#[119,104,97,116]⟩:BA))))
def BT (k:Nat) (t:Int) (l:List Int) (ls:List (List Int)) (q:Int) (m:List Int) (ms:List (List Int)) (c:Int) (a b:BA):Option (Int×List Int×(List (List Int))×BA):=
  (jv.f k t b).bind fun h=>((iu.f k t b).bind fun v=>(if a.toList=([98,101,108,105,101,118,101]:List UInt8)then(fC.j3 k c a h.1 h.2 v.2.2 h.2 t l ls q m ms v.1 v.2.1)else(fC.j3 k c a h.1 h.2 v.2.2 false t l ls q m ms v.1 v.2.1)))
section
variable {t:Int} {l:List Int} {ls:List (List Int)} {q:Int} {m:List Int} {ms:List (List Int)} {c x ra rb:Int} {a b s:BA} {ok r9:Bool} {R:Int×List Int×(List (List Int))×BA}
theorem BU (n:a.toList= [110,111,114,109,97,108,108,121]) (h:Ev (fun k=>fC.j8 k r9 t l ls q m ms ra rb) R):Ev (fun k=>fC.j3 k c a x ok r9 false t l ls q m ms ra rb) R:=
  Ev.step (fun _=>rfl) (gn (by rw[n];decide) (Ev.step (fun _=>rfl) (gn (by rw[n];decide) (Ev.step (fun _=>rfl) (gn (by rw[n];decide) (Ev.step (fun _=>rfl) (gn (by rw[n];decide) (Ev.step (fun _=>rfl) (gm n h)))))))))
theorem Hn (n:a.toList≠ [110,111,114,109,97,108,108,121]):Ev (fun k=>fC.j3 k c a x false r9 false t l ls q m ms ra rb) (q,m,ms,what):=
  Ev.step (fun _=>rfl) (uk (Ev.step (fun _=>rfl) (uk (Ev.step (fun _=>rfl) (uk (Ev.step (fun _=>rfl) (uk (Ev.step (fun _=>rfl) (gn n (Ev.step (fun _=>rfl) (Ev.now _)))))))))))
theorem Ei (n:a.toList≠ [110,111,114,109,97,108,108,121]) (n1:a.toList≠ [102,105,114,109]) (n2:a.toList≠ [103,105,118,101]) (n3:a.toList≠ [117,112,100,97,116,101]) (n4:a.toList≠ [110,101,97,114]):Ev (fun k=>fC.j3 k c a x ok r9 false t l ls q m ms ra rb) (q,m,ms,what):=
  Ev.step (fun _=>rfl) (gn n1 (Ev.step (fun _=>rfl) (gn n2 (Ev.step (fun _=>rfl) (gn n3 (Ev.step (fun _=>rfl) (gn n4 (Ev.step (fun _=>rfl) (gn n (Ev.step (fun _=>rfl) (Ev.now _)))))))))))
theorem BV (b:Bool):∃r,qF.f b=some r∧qX.f b=some r∧r.toList≠ []:=by cases b<;>exact⟨_,rfl,rfl,by decide+kernel⟩
theorem yF {n:Nat} (h:n≤10):(num n).toList≠ []:=by
  have:∀m:Nat,m<11→(num m).toList≠ []:=by decide+kernel
  exact this n (by omega)
theorem Ho:(List.range 4).all (fun s=>(sent 1 s).data.toList != [])=true:=by decide+kernel
theorem Hp:(List.range 16).all (fun s=>(sent 2 s).data.toList != [])=true:=by decide+kernel
theorem Hq:(List.range 256).all (fun s=>(sent 3 s).data.toList != [])=true:=by decide+kernel
theorem vx {t:Int} (ht:1≤t∧t≤3) {s:Nat} (hs:s≤all t):(sent t s).toList≠ []:=by
  have h:((sent t s).data.toList != [])=true:=by
    rcases three ht with rfl|rfl|rfl
    · exact rv Ho (by have:all 1=3:=rfl;omega)
    · exact rv Hp (by have:all 2=15:=rfl;omega)
    · exact rv Hq (by have:all 3=255:=rfl;omega)
  rw[toList_data];exact bne_iff_ne.1 h
theorem FQ (r:List Int) {c:BA} (h:c.toList≠ []):(jn c r).toList≠ []:=by
  rw[xw];exact fun k=>h (List.append_eq_nil_iff.1 k).1
theorem yG (hr:nA t l=true) (a:BA) {b:BA} (hb:b.size≤1048576):∃r,r.toList≠ []∧Ev (fun k=>Dp k t l ((jC l (all t):Nat):Int) a b) r∧∀q m ms,Ev (fun k=>BT k t l ls q m ms ((jC l (all t):Nat):Int) a b) (q,m,ms,r):=by
  obtain⟨v,ri,rs,rc⟩:=Ac t (s:=b) (by omega);have hi:=qp t b;have hs:=rH t b;obtain⟨x,ok,hh⟩:∃x ok,holds t b=(x,ok):=⟨_,_,rfl⟩;rw[hh]at hi hs;unfold Dp BT;by_cases n:a.toList= [110,111,114,109,97,108,108,121]
  · have nb:a.toList≠ [98,101,108,105,101,118,101]:=by rw[n];decide
    rcases rc with rfl|⟨A,B,rfl,g0,g1,g2⟩
    · exact⟨_,by decide+kernel,gm n (Ev.bind ri (gn Bool.false_ne_true (Ev.now _))),fun q m ms=>Ev.bind hs (Ev.bind rs (gn nb (BU n (Ev.step (fun _=>rfl) (Ev.now _)))))⟩
    · obtain⟨y,y1,y2,y3⟩:=BV (decide (jC l A&&& B=jC l A))
      exact⟨y,y3,gm n (Ev.bind ri (gm rfl (Ev.bind (yu hr g1) (ie y1 (Ev.now _))))),fun q m ms=>Ev.bind hs (Ev.bind rs (gn nb (BU n (Ev.step (fun _=>rfl) (Ev.bind (yv hr g0 g1 g2) (ie y2 (Ev.now _)))))))⟩
  · cases ok with
    |false=>exact⟨_,by decide+kernel,gn n (Ev.bind hi (gn Bool.false_ne_true (Ev.now _))),fun q m ms=>Ev.bind hs (Ev.bind rs (uk (Hn n)))⟩
    |true=>
      obtain⟨ht,h0,h1⟩:=sq hh;obtain⟨s,rfl⟩:=Int.eq_ofNat_of_zero_le h0;have hx:s≤all t:=by omega
      have hc:jC l (all t)≤all t:=qe ht (kn.1 hr).2.1 _;by_cases n0:a.toList= [98,101,108,105,101,118,101]
      · obtain⟨y,y1,y2,y3⟩:=BV (decide (jC l (all t)&&& s=jC l (all t)))
        exact⟨y,y3,gn n (Ev.bind hi (gm rfl (gm n0 (ie (by rw[vW (big (rD hc))];exact y1) (Ev.now _))))),fun q m ms=>Ev.bind hs (Ev.bind rs (gm n0 (Ev.step (fun _=>rfl) (Ev.bind (tG (rD hc)) (ie (by rw[zw];exact y2) (Ev.now _))))))⟩
      · by_cases n1:a.toList= [102,105,114,109]
        · obtain⟨z,ez,hz⟩:=xS hr (all t^^^s)
          have f1:=uK hr hx;have f2:=wE hr hx;rw[ez]at f1 f2;exact⟨_,yF hz,gn n (Ev.bind hi (gm rfl (gn n0 (gm n1 (Ev.bind f1 (ie (sZ hz).1 (Ev.now _))))))),fun q m ms=>Ev.bind hs (Ev.bind rs (gn n0 (Ev.step (fun _=>rfl) (gm n1 (Ev.step (fun _=>rfl) (Ev.bind f2 (Ev.bind (tp hz) (Ev.now _))))))))⟩
        · by_cases n2:a.toList= [103,105,118,101]
          · have hg:=BH hr s
            exact⟨_,vx ht hg,gn n (Ev.bind hi (gm rfl (gn n0 (gn n1 (gm n2 (Ev.bind (yw hr hx) (Ev.bind (si ht hg) (Ev.now _)))))))),fun q m ms=>Ev.bind hs (Ev.bind rs (gn n0 (Ev.step (fun _=>rfl) (gn n1 (Ev.step (fun _=>rfl) (gm n2 (Ev.step (fun _=>rfl) (Ev.bind (yx hr hx) (Ev.bind (sj ht hg) (Ev.now _))))))))))⟩
          · by_cases n3:a.toList= [117,112,100,97,116,101]
            · have hg:=CI ht (a:=jC l (all t)) hx
              exact⟨_,vx ht hg,gn n (Ev.bind hi (gm rfl (gn n0 (gn n1 (gn n2 (gm n3 (Ev.bind (xp ht hc hx) (Ev.bind (si ht hg) (Ev.now _))))))))),fun q m ms=>Ev.bind hs (Ev.bind rs (gn n0 (Ev.step (fun _=>rfl) (gn n1 (Ev.step (fun _=>rfl) (gn n2 (Ev.step (fun _=>rfl) (gm n3 (Ev.step (fun _=>rfl) (Ev.bind (xq ht hc hx) (Ev.bind (sj ht hg) (Ev.now _))))))))))))⟩
            · by_cases n4:a.toList= [110,101,97,114]
              · have hg:=vv ht hc hx
                exact⟨_,vx ht hg,gn n (Ev.bind hi (gm rfl (gn n0 (gn n1 (gn n2 (gn n3 (gm n4 (Ev.bind (xo ht hc hx) (Ev.bind (si ht hg) (Ev.now _)))))))))),fun q m ms=>Ev.bind hs (Ev.bind rs (gn n0 (Ev.step (fun _=>rfl) (gn n1 (Ev.step (fun _=>rfl) (gn n2 (Ev.step (fun _=>rfl) (gn n3 (Ev.step (fun _=>rfl) (gm n4 (Ev.step (fun _=>rfl) (Ev.bind (ug ht hc hx) (Ev.bind (sj ht hg) (Ev.now _))))))))))))))⟩
              · exact⟨what,by decide+kernel,gn n (Ev.bind hi (gm rfl (gn n0 (gn n1 (gn n2 (gn n3 (gn n4 (Ev.now _)))))))),fun q m ms=>Ev.bind hs (Ev.bind rs (gn n0 (Ei n n1 n2 n3 n4)))⟩
theorem Dq {p:Nat} (hp:p≤s.size) (hs:s.size≤1048576) (hn:∀j:Nat,j<p→bt s (j:Int)≠32) (he:p=s.size∨bt s (p:Int)=32) (h:Ev (fun k=>fC.j2 k s c (p:Int) t l ls q m ms) R):Ev (fun k=>fC.l1 k s c 0 t l ls q m ms) R:=by
  have key:∀i,i≤p→Ev (fun k=>fC.l1 k s c (i:Int) t l ls q m ms) R:=by
    apply down
    · by_cases e:p=s.size
      · exact Ev.step (fun _=>rfl) (gn (by omega) h)
      · exact Ev.step (fun _=>rfl) (gm (by omega) (gm (by omega) (gm (he.resolve_left e) h)))
    · intro i hi ih
      refine Ev.step (fun _=>rfl) (gm (by omega) (gm (by omega) (gn (hn i hi) ?_)));rw[w1 (n:=s.size) (by omega) (by omega)];exact ih
  exact key 0 (Nat.zero_le _)
theorem Ej {p:Nat} (h:p=s.size):Ev (fun k=>fC.j2 k s c ((p:Nat):Int) t l ls q m ms) (q,m,ms,what):=Ev.step (fun _=>rfl) (gm (by omega) (Ev.now _))
theorem FR {p:Nat} (hp:p<s.size) (hs:s.size≤1048576) (ha:s.extract 0 p=a) (hb:s.extract (p+1) s.size=b) (h:Ev (fun k=>BT k t l ls q m ms c a b) R):Ev (fun k=>fC.j2 k s c (p:Int) t l ls q m ms) R:=by
  refine Ev.step (fun _=>rfl) (gn (by omega) (gm (by omega) (gm (by omega) ?_)));rw[w1 (n:=s.size) (by omega) (by omega),Int.toNat_natCast,Int.toNat_natCast,ha,hb];exact gm (by omega) (gm (by omega) h)
theorem yH (hr:nA t l=true) (hls:ls.length≤10) (hs:s.size≤1048576):∃r,r.toList≠ []∧Ev (fun k=>jf.f k t l ls s) r∧∀q m ms,Ev (fun k=>(pz.f k t l).bind fun c=>(if s.toList=([99,111,114,101]:List UInt8)then((gX.f k t c).bind fun x=>(some (q,m,ms,x)))else(if s.toList=([114,97,110,107,115]:List UInt8)then(if 0<(l.length:Int)then((gV.f k (rd l 0)).bind fun x=>(fC.l0 k x 1 t l ls q m ms))else(none))else(if s.toList=([112,97,115,116]:List UInt8)then((gV.f k (ls.length:Int)).bind fun x=>(some (q,m,ms,x)))else(fC.l1 k s c 0 t l ls q m ms))))) (q,m,ms,r):=by
  obtain⟨ht,hl,hx,h0⟩:=kn.1 hr;have h8:=len8 hr;have hc:jC l (all t)≤all t:=qe ht hl _;have ci:=tL hr;have cs:=Ab hr;by_cases n1:s.toList= [99,111,114,101]
  · exact⟨_,vx ht hc,ie ci (gm n1 (Ev.bind (si ht hc) (Ev.now _))),fun q m ms=>Ev.bind cs (gm n1 (Ev.bind (sj ht hc) (Ev.now _)))⟩
  · by_cases n2:s.toList= [114,97,110,107,115]
    · cases l with
      |nil=>cases h0
      |cons x r=>
        have hy:∀y∈x::r,y.toNat≤10:=fun y hy=>by have:=hx y hy;omega
        have hj:=yC hy (by rw[List.length_cons]at h8;omega);have hx0:=hx x List.mem_cons_self;refine⟨_,FQ r (yF (hy x List.mem_cons_self)),ie ci (gn n1 (gm n2 (xU h8 hx hj))),fun q m ms=>Ev.bind cs (gn n1 (gm n2 (gm (by rw[List.length_cons];omega) (Ev.bind (uL (x:=rd (x::r) 0) hx0.1 (hy x List.mem_cons_self)) ?_))))⟩;exact yD h8 hx 1 (by rw[List.length_cons];omega) (num x.toNat) (Nat.le_trans (ui (hy x List.mem_cons_self)) (by decide))
    · by_cases n3:s.toList= [112,97,115,116]
      · exact⟨_,yF hls,ie ci (gn n1 (gn n2 (gm n3 (ie (sZ hls).1 (Ev.now _))))),fun q m ms=>Ev.bind cs (gn n1 (gn n2 (gm n3 (Ev.bind (tp hls) (Ev.now _)))))⟩
      · have zD:∀{j:Nat} {d:List UInt8},j<d.length→d<+:s.toList→32∉d→bt s (j:Int)≠32:=by
          intro j d hj hp hn e;have hjs:j<s.size:=by rw[←kI];exact Nat.lt_of_lt_of_le hj hp.length_le
          rw[uu s hjs]at e;have e2:s.toList[j]'(by rw[kI];exact hjs)=32:=UInt8.toNat_inj.1 (by have:(32:UInt8).toNat=32:=rfl;omega);rw[←hp.getElem hj]at e2;exact hn (e2▸List.getElem_mem hj)
        rcases wQ s 32 (by omega)with⟨hk,hn⟩|⟨a,b,hk,he,hn⟩
        · refine⟨what,by decide+kernel,ie ci (gn n1 (gn n2 (gn n3 (ie hk (gn Bool.false_ne_true (Ev.now _)))))),fun q m ms=>Ev.bind cs (gn n1 (gn n2 (gn n3 (Dq (Nat.le_refl _) hs ?_ (Or.inl rfl) (Ej rfl)))))⟩
          exact fun j hj=>zD (d:=s.toList) (by rw[kI];exact hj) (List.prefix_refl _) hn
        · have hz:a.size+(b.size+1)=s.size:=by rw[←kI s,he,List.length_append,List.length_cons,kI,kI]
          have hp:a.size<s.size:=by omega
          obtain⟨r,g0,g1,g2⟩:=yG (ls:=ls) hr a (b:=b) (by omega);refine⟨r,g0,ie ci (gn n1 (gn n2 (gn n3 (ie hk (gm rfl g1))))),fun q m ms=>Ev.bind cs (gn n1 (gn n2 (gn n3 (Dq (p:=a.size) (by omega) hs ?_ (Or.inr ?_) (FR hp hs ?_ ?_ (g2 q m ms))))))⟩
          · exact fun j hj=>zD (d:=a.toList) (by rw[kI];exact hj) ⟨_,he.symm⟩ hn
          · rw[uu s hp]
            have:s.toList[a.size]?=some 32:=by rw[he,List.getElem?_append_right (by rw[kI];omega),kI,Nat.sub_self];rfl
            rw[List.getElem?_eq_getElem (by rw[kI];exact hp)]at this;rw[Option.some.inj this];rfl
          · apply ext_list
            rw[rQ,he,List.drop_zero,Nat.sub_zero,←kI a,List.take_left'];rfl
          · apply ext_list
            rw[rA,he,←kI a,←List.drop_drop,List.drop_left']
            · rfl
            · rfl
end
set_option maxHeartbeats 1000000 in
theorem tr {t:Int} {l:List Int} {ls:List (List Int)} (hn:l.length≤9223372036854775807) (hs:ls.length≤9223372036854775807) (hl:∀y∈ls,y.length≤9223372036854775807) (a:Int) (s:BA):
    Ev (fun k=>iH.f k t l ls a s) (if qv t l ls=true then yB t l ls a s else(0,[],[],false)):=by
  unfold iH.f;refine Ev.bind (qN t hn hs hl) ?_;by_cases hm:qv t l ls=true
  · rw[if_pos hm]
    refine gm hm ?_;obtain⟨htl,h9,hls⟩:=qq.1 hm;obtain⟨hr,htd⟩:=oP.1 htl;obtain⟨ht,hll,hx,_⟩:=kn.1 hr;have h8:=(rm t).1
    have hlen:∀y∈ls,y.length≤100:=fun y hy=>by
      have:=(kn.1 (oP.1 (hls y hy)).1).2.1;omega
    refine Ev.bind (tU t (by omega) (by omega) hlen) ?_;unfold yB;have ER:∀v:Int,Ev (fun k=>iH.j1 k v true t l ls a s t l ls) (sW t l ls):=fun v=>Ev.step (f:=fun _=>some (t,l,ls,false)) (fun k=>rfl) (Ev.now _)
    have go:Ev (fun k=>iH.j0 k false t l ls a s t l ls) (if a=0∨a=1 then(if(holds t s).2=true then(if(holds t s).1=0 then sW t l ls else(if wB l a (holds t s).1.toNat=l then sW t l ls else(t,wB l a (holds t s).1.toNat,push l ls,true)))else sW t l ls)else sW t l ls):=by
      refine Ev.step (f:=fun k=>(jv.f k t s).bind fun BW=>(if BW.2=true then((lR.f a 0 1).bind fun Hr=>(iH.j1 k BW.1 (!Hr) t l ls a s t l ls))else(iH.j1 k BW.1 true t l ls a s t l ls))) (fun k=>rfl) (Ev.bind (rH t s) ?_);by_cases h2:(holds t s).2=true
      · refine gm h2 (ie (rO _ _ _) ?_)
        by_cases ha:a=0∨a=1
        · rw[if_pos ha,if_pos h2,decide_eq_true (by omega)]
          have eh:holds t s=((holds t s).1,true):=by rw[←h2]
          obtain⟨_,v0,v1⟩:=sq eh;have hch:=xv hr v0 v1 ha;obtain⟨v,ev⟩:=Int.eq_ofNat_of_zero_le v0;rw[ev]at hch⊢;rw[Int.toNat_natCast]at hch⊢;have Ie:∀q:List Int,Ev (fun k=>iH.j2 k q true t l ls) (sW t l ls):=fun q=>Ev.step (f:=fun _=>some (t,l,ls,false)) (fun k=>rfl) (Ev.now _)
          refine Ev.step (f:=fun k=>(jX.f k t l a (v:Int)).bind fun sx=>(if sx.2=true then((iZ.f k t sx.1 l).bind fun Ed=>(iH.j2 k sx.1 Ed t l ls))else(iH.j2 k sx.1 true t l ls))) (fun k=>rfl) (Ev.bind hch ?_);by_cases e0:(v:Int)=0
          · rw[if_pos e0,if_pos e0]
            exact rG (Ie _)
          · rw[if_neg e0,if_neg e0]
            have hq:=wg hr a v;obtain⟨hq1,hq2⟩:=oP.1 hq;have hso:=xu hq1 hr;rw[hq2,htd]at hso;refine oF (Ev.bind hso ?_);by_cases e:wB l a v=l
            · rw[if_pos e,decide_eq_true e]
              exact Ie _
            · rw[if_neg e,decide_eq_false e]
              refine Ev.step (f:=fun k=>if ls.length<5864062014805 then((some (ls++ [l]:List (List Int))).bind fun Ek=>(if(Ek.length:Int)>10 then(some (t,wB l a v,Ek.drop (1:Int).toNat,true))else(some (t,wB l a v,Ek,true))))else(none)) (fun k=>rfl) (gm (by omega) (ie rfl ?_));have hln:(ls++ [l]).length=ls.length+1:=by rw[List.length_append,List.length_singleton]
              unfold push;by_cases h10:ls.length+1>10
              · rw[if_pos h10]
                exact gm (by rw[hln];omega) (Ev.now _)
              · rw[if_neg h10]
                exact gn (by rw[hln];omega) (Ev.now _)
        · rw[if_neg ha,decide_eq_false (by omega)]
          exact ER _
      · refine gn h2 ?_
        by_cases ha:a=0∨a=1
        · rw[if_pos ha,if_neg h2]
          exact ER _
        · rw[if_neg ha]
          exact ER _
    by_cases hb:a=2∧s.size=0
    · rw[if_pos hb]
      refine gm ((isNil a s).2 hb) ?_;by_cases he:ls= []
      · rw[if_pos he]
        rw[if_neg (by omega)]at go;rw[show decide (((ls.length:Nat):Int)>0)=false from by rw[he];rfl];exact go
      · rw[if_neg he]
        have hp:0<ls.length:=List.length_pos_iff.2 he;obtain⟨r1,r2,r3⟩:=(zA he).resolve_right (fun k=>k (by omega));rw[decide_eq_true (by omega)];refine Ev.step (f:=fun k=>if 0≤(wrap64 ((ls.length:Int) - 1))then(if(wrap64 ((ls.length:Int) - 1))<(ls.length:Int)then(some (t,ox ls (wrap64 ((ls.length:Int) - 1)),ls.take (wrap64 ((ls.length:Int) - 1)).toNat,true))else(none))else(none)) (fun k=>rfl) (gm (by rw[r2];omega) (gm (by rw[r2];omega) ?_));rw[r1,r3];exact Ev.now _
    · rw[if_neg hb]
      exact gn (fun k=>hb ((isNil a s).1 k)) go
  · rw[if_neg hm]
    exact gn hm (Ev.now _)
theorem CT {l:List rZ} {i:Nat} (h:i<l.length):rJ l (i:Int)=l[i]:=by
  unfold rJ;rw[Int.toNat_natCast,List.getD_eq_getElem?_getD,List.getElem?_eq_getElem h];rfl
def rB (s:BA):List rZ→Int×BA×Bool
  | []=>(0,(⟨#[]⟩:BA),false)
  |x::t=>if s.toList≠ []∧(rC x.f0 x.f1).toList=s.toList then(x.f0,x.f1,true)else rB s t
theorem BX (s:BA) {L:List rZ} (hL:L.length≤1000) (hs:∀x∈L,x.f1.size≤9223372036854774000):
    ∀i,i≤L.length→Ev (fun k=>gU.l0 k s L (i:Int)) (rB s (L.drop i)):=by
  apply down
  · rw[List.drop_length]
    exact Ev.step (fun k=>rfl) (gn (by omega) (Ev.now _))
  · intro i hi ih
    rw[List.drop_eq_getElem_cons hi];refine Ev.step (fun k=>rfl) (gm (by omega) ?_);by_cases h0:s.toList= []
    · refine gm h0 ?_
      rw[w1 hi (by omega)];unfold rB;rw[if_neg (fun k=>k.1 h0)];exact ih
    · refine gn h0 (gm (by omega) ?_)
      rw[CT hi];refine Ev.bind (tb _ (s:=L[i].f1) (by have:=hs _ (List.getElem_mem hi);omega)) ?_;unfold rB;by_cases hd:(rC L[i].f0 L[i].f1).toList=s.toList
      · rw[if_pos ⟨h0,hd⟩]
        exact gm hd (Ev.now _)
      · rw[if_neg (fun k=>hd k.2),w1 hi (by omega)]
        exact gn hd ih
def zE (s:BA):List rZ:=(⟨2,(⟨#[]⟩:BA)⟩:rZ)::((if 6<s.size then[(⟨0,s.extract 6 s.size⟩:rZ)]else[])++(if 4<s.size then[(⟨1,s.extract 4 s.size⟩:rZ)]else[]))
theorem xX (s:BA):rB s (zE s)=rU s:=by
  have f0:∀L:List rZ,(∀x∈L,s.toList= []∨(rC x.f0 x.f1).toList≠s.toList)→rB s L=(0,(⟨#[]⟩:BA),false):=by
    intro L h;induction L with
    |nil=>rfl
    |cons x t ih=>
      unfold rB;rw[if_neg (fun k=>by rcases h x List.mem_cons_self with h|h;exact k.1 h;exact h k.2)];exact ih (fun y hy=>h y (List.mem_cons_of_mem _ hy))
  have fb:s.toList≠ [98,97,99,107]→rB s (zE s)=rB s ((if 6<s.size then[(⟨0,s.extract 6 s.size⟩:rZ)]else[])++(if 4<s.size then[(⟨1,s.extract 4 s.size⟩:rZ)]else[])):=by
    intro h
    show(if _ then _ else _)=_
    rw[if_neg (fun k=>h (by rw[←k.2];exact xy _ rfl))]
  rcases xW s with⟨h,e⟩|⟨t,h,hp,h0,e⟩|⟨t,h,hp,h0,e⟩|⟨h1,h2,h3,e⟩
  · rw[e]
    show(if _ then _ else _)=_
    rw[if_pos ⟨by rw[h];decide,by rw[h];exact xy _ rfl⟩]
  · have hl:s.size=6+t.size:=by rw[←kI,h,List.length_append,kI];rfl
    have ex:s.extract 6 s.size=t:=ext_list (by rw[rA,h];rfl);rw[e,fb (by rw[h];intro k;injection k with k _;exact absurd k (by decide)),if_pos (by omega),ex]
    show(if _ then _ else _)=_
    rw[if_pos ⟨by rw[h];simp,(uy s t).2 (Or.inl ⟨h,hp,h0⟩)⟩]
  · have hl:s.size=4+t.size:=by rw[←kI,h,List.length_append,kI];rfl
    have ex:s.extract 4 s.size=t:=ext_list (by rw[rA,h];rfl)
    have n6:rB s ((if 6<s.size then[(⟨0,s.extract 6 s.size⟩:rZ)]else[])++ [(⟨1,t⟩:rZ)])=rB s [(⟨1,t⟩:rZ)]:=by
      by_cases c:6<s.size
      · rw[if_pos c]
        show(if _ then _ else _)=_
        rw[if_neg (fun k=>by
          rcases(uy s _).1 k.2 with⟨k,_⟩|⟨_,k⟩
          · rw[h]at k;injection k with k _;exact absurd k (by decide)
          · rw[h]at k;simp at k)]
        rfl
      · rw[if_neg c];rfl
    rw[e,fb (by rw[h];intro k;injection k with k _;exact absurd k (by decide)),if_pos (c:=4<s.size) (by omega),ex,n6]
    show(if _ then _ else _)=_
    rw[if_pos ⟨by rw[h];simp,(wo s t).2 (Or.inl ⟨h,hp,h0⟩)⟩]
  · rw[e,fb h1]
    apply f0;intro x hx;by_cases hs0:s.toList= []
    · exact Or.inl hs0
    refine Or.inr fun k=>?_
    rcases List.mem_append.1 hx with hx|hx
    · by_cases c:6<s.size
      · rw[if_pos c]at hx
        rw[List.mem_singleton.1 hx]at k;rcases(uy s _).1 k with⟨k,k2⟩|⟨_,k⟩
        · exact h2 _ k k2
        · exact hs0 k
      · rw[if_neg c]at hx;simp at hx
    · by_cases c:4<s.size
      · rw[if_pos c]at hx
        rw[List.mem_singleton.1 hx]at k;rcases(wo s _).1 k with⟨k,k2⟩|⟨_,k⟩
        · exact h3 _ k k2
        · exact hs0 k
      · rw[if_neg c]at hx;simp at hx
theorem uz {s:BA} (hs:s.size≤9223372036854774000):Ev (fun k=>gU.f k s) (rU s):=by
  have hx:∀i:Nat,(s.extract i s.size).size≤9223372036854774000:=fun i=>by rw[←kI,rA,List.length_drop,kI];omega
  rw[←xX]
  have fin:∀L:List rZ,L.length≤1000→(∀x∈L,x.f1.size≤9223372036854774000)→Ev (fun k=>gU.j1 k s L) (rB s L):=by
    intro L h1 h2;refine Ev.step (fun k=>rfl) ?_;simp only[gU.j1];exact BX s h1 h2 0 (Nat.zero_le _)
  unfold gU.f;refine ie rfl ?_
  have go:∀L:List rZ,L.length≤900→(∀x∈L,x.f1.size≤9223372036854774000)→Ev (fun k=>gU.j0 k s L) (rB s (L++(if 4<s.size then[(⟨1,s.extract 4 s.size⟩:rZ)]else[]))):=by
    intro L h1 h2;refine Ev.step (fun k=>rfl) ?_;simp only[gU.j0];by_cases c:4<s.size
    · rw[if_pos c]
      refine gm (by omega) (gm (by omega) (gm (by omega) (fin _ (by rw[List.length_append];exact Nat.add_le_add h1 (by decide:1≤100)) ?_)));intro x hm;rcases List.mem_append.1 hm with hm|hm
      · exact h2 x hm
      · rw[List.mem_singleton.1 hm];exact hx 4
    · rw[if_neg c,List.append_nil]
      exact gn (by omega) (fin _ (by omega) h2)
  by_cases c:6<s.size
  · refine gm (by omega) (gm (by omega) (gm (by decide) ?_))
    have:=go ([(⟨2,(⟨#[]⟩:BA)⟩:rZ)]++ [(⟨0,s.extract 6 s.size⟩:rZ)]) (by simp) (by
      intro x hm;rcases List.mem_append.1 hm with hm|hm
      · rw[List.mem_singleton.1 hm];exact(by decide:(0:Nat)≤9223372036854774000)
      · rw[List.mem_singleton.1 hm];exact hx 6)
    unfold zE;rw[if_pos c];exact this
  · refine gn (by omega) ?_
    have:=go [(⟨2,(⟨#[]⟩:BA)⟩:rZ)] (by decide) (by
      intro x hm;rw[List.mem_singleton.1 hm];exact(by decide:(0:Nat)≤9223372036854774000))
    unfold zE;rw[if_neg c,List.nil_append];exact this
theorem Af {t:Int} {l:List Int} {ls:List (List Int)} (h:qv t l ls=true) {s:BA} (hz:s.size≤1048576):
    ∃q m ms r,Ev (fun k=>oQ.f k t l ls s) (q,m,ms,r)∧Ev (fun k=>fC.f k t l ls s) (q,m,ms,r)∧qv q m ms=true∧r.toList≠ []:=by
  obtain⟨o1,o2,o3⟩:=qq.1 h;have l1:=len8 (oP.1 o1).1;have l3:∀y∈ls,y.length≤8:=fun y hy=>len8 (oP.1 (o3 y hy)).1
  have sm:=qN t (l:=l) (ls:=ls) (by omega) (by omega) (fun y hy=>by have:=l3 y hy;omega);rw[h]at sm;have sc:=tU t (l:=l) (ls:=ls) (by omega) (by omega) (fun y hy=>by have:=l3 y hy;omega);have ic:=rp t (l:=l) (ls:=ls) (by omega) (by omega) (fun y hy=>by have:=l3 y hy;omega);have ir:=tc (s:=s) (by omega);have sr:=uz (s:=s) (by omega);obtain⟨a,d,b,e⟩:∃a d b,rU s=(a,d,b):=⟨_,_,_,rfl⟩;rw[e]at ir sr;cases b with
  |true=>
    have id:=wh h a d;have sd:=tr (t:=t) (l:=l) (ls:=ls) (by omega) (by omega) (fun y hy=>by have:=l3 y hy;omega) a d;rw[if_pos h]at sd;have ok:=BQ h a d;generalize yB t l ls a d=g at id sd ok;obtain⟨q,m,ms,b⟩:=g;cases b with
    |true=>exact⟨q,m,ms,_,Ev.bind ir (gm rfl (Ev.bind id (gm rfl (Ev.now _)))),Ev.bind sm (oF (Ev.bind sc (Ev.bind sr (gm rfl (Ev.bind sd (gm rfl (Ev.now _))))))),ok,by decide+kernel⟩
    |false=>exact⟨q,m,ms,_,Ev.bind ir (gm rfl (Ev.bind id (gn Bool.false_ne_true (Ev.now _)))),Ev.bind sm (oF (Ev.bind sc (Ev.bind sr (gm rfl (Ev.bind sd (gn Bool.false_ne_true (Ev.now _))))))),ok,by decide+kernel⟩
  |false=>
    obtain⟨r,g0,g1,g2⟩:=yH (oP.1 o1).1 (ls:=ls) o2 hz;exact⟨t,l,ls,r,Ev.bind ir (gn Bool.false_ne_true (Ev.bind ic (Ev.bind g1 (Ev.now _)))),Ev.bind sm (oF (Ev.bind sc (Ev.bind sr (gn Bool.false_ne_true (g2 t l ls))))),h,g0⟩
theorem yI {l:List BA} {i:Nat} (h:i<l.length):rdOf ByteArray.empty l (i:Int)=l[i]:=by
  unfold rdOf;rw[Int.toNat_natCast,List.getD_eq_getElem?_getD,List.getElem?_eq_getElem h];rfl
inductive uA:Int→List Int→List (List Int)→List BA→Int→List Int→List (List Int)→List BA→Prop
  |nil {t:Int} {l:List Int} {ls:List (List Int)}:uA t l ls [] t l ls []
  |cons {t q q':Int} {l m m':List Int} {ls ms ms':List (List Int)} {s r:BA} {ss rs:List BA} (a:Ev (fun k=>oQ.f k t l ls s) (q,m,ms,r)) (b:Ev (fun k=>fC.f k t l ls s) (q,m,ms,r)) (c:uA q m ms ss q' m' ms' rs) (d:r.toList≠ []):uA t l ls (s::ss) q' m' ms' (r::rs)
theorem BZ {ss:List BA}:∀{t:Int} {l:List Int} {ls:List (List Int)},qv t l ls=true→(∀y∈ss,y.size≤1048576)→∃q m ms rs,uA t l ls ss q m ms rs∧qv q m ms=true∧rs.length=ss.length:=by
  induction ss with
  |nil=>exact fun h _=>⟨_,_,_,_,.nil,h,rfl⟩
  |cons s ss ih=>
    intro t l ls h hz;obtain⟨q,m,ms,r,a,b,ok,d⟩:=Af h (s:=s) (hz _ List.mem_cons_self);obtain⟨q',m',ms',rs,c,ok',hl⟩:=ih ok (fun y hy=>hz y (List.mem_cons_of_mem _ hy));exact⟨q',m',ms',r::rs,.cons a b c d,ok',by rw[List.length_cons,List.length_cons,hl]⟩
theorem uA.append {ss:List BA}:∀{t q q':Int} {l m m':List Int} {ls ms ms':List (List Int)} {ss' rs rs':List BA},uA t l ls ss q m ms rs→uA q m ms ss' q' m' ms' rs'→uA t l ls (ss++ss') q' m' ms' (rs++rs'):=by
  induction ss with
  |nil=>
    intro t q q' l m m' ls ms ms' ss' rs rs' h k;cases h;exact k
  |cons s ss ih=>
    intro t q q' l m m' ls ms ms' ss' rs rs' h k;cases h with
    |cons a b c d=>exact .cons a b (ih c k) d
theorem Ca {ss:List BA}:∀{t q:Int} {l m:List Int} {ls ms:List (List Int)} {rs pre acc:List BA},uA t l ls ss q m ms rs→pre.length+ss.length≤40→acc.length≤pre.length→Ev (fun k=>jo.l0 k acc (pre++ss) ((pre++ss).length:Int) (pre.length:Int) t l ls) (q,m,ms,acc++rs):=by
  induction ss with
  |nil=>
    intro t q l m ls ms rs pre acc h hn ha;cases h;rw[List.append_nil,List.append_nil];exact Ev.step (fun k=>rfl) (gn (by omega) (Ev.now _))
  |cons s ss ih=>
    intro t q l m ls ms rs pre acc h hn ha;cases h with
    | @cons _ q1 _ _ m1 _ _ ms1 _ _ r _ rs a b c d=>
      rw[List.length_cons]at hn;have e:(pre++ [s])++ss=pre++s::ss:=by rw[List.append_assoc];rfl
      have i:=ih (pre:=pre++ [s]) (acc:=acc++ [r]) c (by rw[List.length_append,List.length_singleton];omega) (by rw[List.length_append,List.length_append,List.length_singleton,List.length_singleton];omega);rw[e,List.append_assoc]at i;have hlt:pre.length<(pre++s::ss).length:=by rw[List.length_append,List.length_cons];omega
      refine Ev.step (fun k=>rfl) (gm (by omega) (gm (by omega) (gm (by omega) ?_)));rw[yI hlt,List.getElem_append_right (Nat.le_refl _),w1 hlt (by rw[List.length_append,List.length_cons];omega)];simp only[Nat.sub_self,List.getElem_cons_zero];refine Ev.bind a (gm (by omega) ?_);have hl:(((pre++ [s]).length:Nat):Int)=((pre.length+1:Nat):Int):=by rw[List.length_append,List.length_singleton]
      rw[hl]at i;exact i
theorem Cb {ss:List BA}:∀{t q:Int} {l m:List Int} {ls ms:List (List Int)} {rs pre acc:List BA},uA t l ls ss q m ms rs→pre.length+ss.length≤40→acc.length≤pre.length→Ev (fun k=>iU.l0 k (pre++ss) acc (pre.length:Int) t l ls) (q,m,ms,acc++rs):=by
  induction ss with
  |nil=>
    intro t q l m ls ms rs pre acc h hn ha;cases h;rw[List.append_nil,List.append_nil];exact Ev.step (fun k=>rfl) (gn (by omega) (Ev.now _))
  |cons s ss ih=>
    intro t q l m ls ms rs pre acc h hn ha;cases h with
    | @cons _ q1 _ _ m1 _ _ ms1 _ _ r _ rs a b c d=>
      rw[List.length_cons]at hn;have e:(pre++ [s])++ss=pre++s::ss:=by rw[List.append_assoc];rfl
      have i:=ih (pre:=pre++ [s]) (acc:=acc++ [r]) c (by rw[List.length_append,List.length_singleton];omega) (by rw[List.length_append,List.length_append,List.length_singleton,List.length_singleton];omega);rw[e,List.append_assoc]at i;have hlt:pre.length<(pre++s::ss).length:=by rw[List.length_append,List.length_cons];omega
      refine Ev.step (fun k=>rfl) (gm (by omega) (gm (by omega) ?_));rw[yI hlt,List.getElem_append_right (Nat.le_refl _),w1 hlt (by rw[List.length_append,List.length_cons];omega)];simp only[Nat.sub_self,List.getElem_cons_zero];refine Ev.bind b (gm (by omega) ?_);have hl:(((pre++ [s]).length:Nat):Int)=((pre.length+1:Nat):Int):=by rw[List.length_append,List.length_singleton]
      rw[hl]at i;exact i
theorem uB {t q:Int} {l m:List Int} {ls ms:List (List Int)} {ss rs:List BA} (ok:qv t l ls=true) (hn:ss.length≤40) (h:uA t l ls ss q m ms rs):
    Ev (fun k=>jo.f k t l ls ss) (q,m,ms,rs)∧Ev (fun k=>iU.f k t l ls ss) (q,m,ms,rs):=by
  obtain⟨o1,o2,o3⟩:=qq.1 ok;have l1:=len8 (oP.1 o1).1;have l3:∀y∈ls,y.length≤8:=fun y hy=>len8 (oP.1 (o3 y hy)).1
  have im:=ux t (l:=l) (ls:=ls) (by omega) (fun y hy=>by have:=l3 y hy;omega);have sm:=qN t (l:=l) (ls:=ls) (by omega) (by omega) (fun y hy=>by have:=l3 y hy;omega);rw[ok]at im sm;have sc:=tU t (l:=l) (ls:=ls) (by omega) (by omega) (fun y hy=>by have:=l3 y hy;omega);have ic:=rp t (l:=l) (ls:=ls) (by omega) (by omega) (fun y hy=>by have:=l3 y hy;omega);have f1:=Ca (pre:=[]) (acc:=[]) h (by simpa using hn) (Nat.le_refl _);have f2:=Cb (pre:=[]) (acc:=[]) h (by simpa using hn) (Nat.le_refl _);have hd:decide ((ss.length:Int)>40)=false:=decide_eq_false (by omega);unfold jo.f iU.f;refine⟨Ev.bind im (oF ?_),ie rfl (Ev.bind sm (oF ?_))⟩
  · rw[hd]
    exact Ev.step (fun k=>rfl) (Ev.bind ic f1)
  · rw[hd]
    exact Ev.step (fun k=>rfl) (Ev.bind sc f2)
theorem uA.ne {ss:List BA}:∀{t q:Int} {l m:List Int} {ls ms:List (List Int)} {rs:List BA},uA t l ls ss q m ms rs→∀r∈rs,r.toList≠ []:=by
  induction ss with
  |nil=>intro t q l m ls ms rs h r hr;cases h;cases hr
  |cons s ss ih=>
    intro t q l m ls ms rs h r hr;cases h with
    |cons a b c d=>
      rcases List.mem_cons.1 hr with rfl|hr
      · exact d
      · exact ih c r hr
theorem tW (l:List Int) (s:Nat):∀(d i:Nat) (m:Int),qM l s d i m=m∨∃j,i≤j∧j<i+d∧s.testBit j=true∧qM l s d i m=l.getD j 0
  |0,_,_=>Or.inl rfl
  |d+1,i,m=>by
    unfold qM
    by_cases hb:s.testBit i=true
    · rw[if_pos hb]
      rcases tW l s d (i+1) (mn m (l.getD i 0))with e|⟨j,h1,h2,h3,h4⟩
      · rw[e]
        unfold mn
        split
        · exact Or.inr ⟨i,Nat.le_refl _,by omega,hb,rfl⟩
        · exact Or.inl rfl
      · exact Or.inr ⟨j,by omega,by omega,h3,h4⟩
    · rw[if_neg hb]
      rcases tW l s d (i+1) m with e|⟨j,h1,h2,h3,h4⟩
      · exact Or.inl e
      · exact Or.inr ⟨j,by omega,by omega,h3,h4⟩
theorem Cc {t:Int} {l:List Int} (h:nA t l=true) (s:Nat):jC l (all t)&&& s=jC l (all t)↔leastOf l (all t^^^s)≠0:=by
  obtain⟨ht,hl,hx,_⟩:=kn.1 h
  have hbit:∀w,(jC l (all t)).testBit w=(decide (w<l.length)&&((all t).testBit w&&decide (l.getD w 0=0))):=fun w=>by
    unfold jC;rw[ue,vV h]
  constructor
  · intro e k
    rcases tW l (all t^^^s) l.length 0 10 with q|⟨j,_,h2,h3,h4⟩
    · unfold leastOf at k
      omega
    · have ha:=xm ht (j:=j) (by omega)
      rw[Nat.testBit_xor,ha]at h3
      have hj:(jC l (all t)).testBit j=true:=by
        unfold leastOf at k;rw[hbit,ha,decide_eq_true (show j<l.length by omega),decide_eq_true (h4.symm.trans k)];rfl
      have:=congrArg (fun n=>n.testBit j) e;rw[Nat.testBit_and,hj]at this;cases hs:s.testBit j with
      |true=>rw[hs]at h3;cases h3
      |false=>rw[hs]at this;cases this
  · intro e
    apply Nat.eq_of_testBit_eq;intro w;rw[Nat.testBit_and];cases hw:(jC l (all t)).testBit w with
    |false=>rfl
    |true=>
      rw[hbit,Bool.and_eq_true,Bool.and_eq_true,decide_eq_true_iff,decide_eq_true_iff]at hw;obtain⟨w1,w2,w3⟩:=hw;cases hs:s.testBit w with
      |true=>rfl
      |false=>
        exfalso;apply e;have a:=(sM l (all t^^^s) (fun x k=>(hx x k).1) l.length 0 10 (by decide) (by decide)).1;have b:=(tS l (all t^^^s) l.length 0 10).2 w (Nat.zero_le _) (by omega) (by rw[Nat.testBit_xor,w2,hs];rfl);unfold leastOf;omega
theorem Cd {n:Nat} (h:n≤10):((num n).toList !=([48]:List UInt8))=decide (n≠0):=by
  have:∀m:Nat,m<11→((num m).toList !=([48]:List UInt8))=decide (m≠0):=by decide+kernel
  exact this n (by omega)
theorem FT {t:Int} (ht:1≤t∧t≤3):∃s:Nat,holds t (⟨#[97]⟩:BA)=((s:Int),true)∧s≤all t:=by
  rcases three ht with rfl|rfl|rfl
  · exact⟨2,by decide+kernel,by decide⟩
  · exact⟨10,by decide+kernel,by decide⟩
  · exact⟨170,by decide+kernel,by decide⟩
theorem xY {t:Int} {l:List Int} {ls:List (List Int)} (h:qv t l ls=true) {s r:BA} (hz:s.size≤1048576) (hs:(rU s).2.2=false) (ha:Ev (fun k=>jf.f k t l ls s) r):Ev (fun k=>oS.f k t l ls s) (t,l,ls,r):=by
  obtain⟨o1,o2,o3⟩:=qq.1 h;have l1:=len8 (oP.1 o1).1;have l3:∀y∈ls,y.length≤8:=fun y hy=>len8 (oP.1 (o3 y hy)).1
  have im:=ux t (l:=l) (ls:=ls) (by omega) (fun y hy=>by have:=l3 y hy;omega);rw[h]at im;have ic:=rp t (l:=l) (ls:=ls) (by omega) (by omega) (fun y hy=>by have:=l3 y hy;omega);have ir:=tc (s:=s) (by omega);obtain⟨a,d,b,e⟩:∃a d b,rU s=(a,d,b):=⟨_,_,_,rfl⟩;rw[e]at ir hs
  have il:Ev (fun k=>oQ.f k t l ls s) (t,l,ls,r):=by
    cases b with
    |true=>cases hs
    |false=>exact Ev.bind ir (gn Bool.false_ne_true (Ev.bind ic (Ev.bind ha (Ev.now _))))
  exact Ev.bind im (oF (Ev.bind il (Ev.now _)))
def FU:BA:=⟨#[98,101,108,105,101,118,101,32,97]⟩
def Dr:BA:=⟨#[102,105,114,109,32,97]⟩
theorem CU {t:Int} {l:List Int} {ls:List (List Int)} (h:qv t l ls=true):∃y f,Ev (fun k=>oS.f k t l ls FU) (t,l,ls,y)∧Ev (fun k=>oS.f k t l ls Dr) (t,l,ls,f)∧
    ((y.toList==([121,101,115]:List UInt8))==(f.toList !=([48]:List UInt8)))=true:=by
  have hr:=(oP.1 (qq.1 h).1).1;obtain⟨ht,hl,_,_⟩:=kn.1 hr;obtain⟨s,hh,hx⟩:=FT ht;have hc:jC l (all t)≤all t:=qe ht hl _;have hi:=qp t (⟨#[97]⟩:BA);rw[hh]at hi;have c1:strings_Cut.f FU (⟨#[32]⟩:BA)=some ((⟨#[98,101,108,105,101,118,101]⟩:BA),(⟨#[97]⟩:BA),true):=by decide+kernel
  have c2:strings_Cut.f Dr (⟨#[32]⟩:BA)=some ((⟨#[102,105,114,109]⟩:BA),(⟨#[97]⟩:BA),true):=by decide+kernel
  obtain⟨z,ez,hz⟩:=xS hr (all t^^^s);have f1:=uK hr hx;rw[ez]at f1;have key:=Cc hr s;rw[ez]at key;have yes:∀b:Bool,∃y,qF.f b=some y∧(y.toList==([121,101,115]:List UInt8))=b:=fun b=>by cases b<;>exact⟨_,rfl,by decide+kernel⟩
  obtain⟨y,y1,y2⟩:=yes (decide (jC l (all t)&&& s=jC l (all t)));refine⟨y,num z,xY h (by decide) (by decide+kernel) ?_,xY h (by decide) (by decide+kernel) ?_,?_⟩
  · exact ie (tL hr) (gn (by decide+kernel) (gn (by decide+kernel) (gn (by decide+kernel) (ie c1 (gm rfl (gn (by decide+kernel) (Ev.bind hi (gm rfl (gm (by decide+kernel) (ie (by rw[vW (big (rD hc))];exact y1) (Ev.now _)))))))))))
  · exact ie (tL hr) (gn (by decide+kernel) (gn (by decide+kernel) (gn (by decide+kernel) (ie c2 (gm rfl (gn (by decide+kernel) (Ev.bind hi (gm rfl (gn (by decide+kernel) (gm (by decide+kernel) (Ev.bind f1 (ie (sZ hz).1 (Ev.now _)))))))))))))
  · rw[y2,Cd hz,beq_iff_eq]
    exact decide_eq_decide.2 (key.trans (by omega))
theorem wu {t:Int} {l:List Int} (h:qO t l=true):0<l.length∧l.length≤8:=by
  have h1:=(kn.1 (oP.1 h).1).2.1;have:=rm t;omega
theorem CV (t:Int) (l:List Int) (ls:List (List Int)) (a:Int) (s:BA):(yB t l ls a s).2.2.1.length≤ls.length+1:=by
  have no:(sW t l ls).2.2.1.length≤ls.length+1:=Nat.le_succ _;unfold yB;split
  · split
    · exact no
    · show(ls.dropLast).length≤_
      rw[List.length_dropLast];omega
  · split
    · split
      · split
        · exact no
        · split
          · exact no
          · show(push l ls).length≤_
            unfold push;split
            · rw[List.length_drop,List.length_append,List.length_singleton];omega
            · rw[List.length_append,List.length_singleton];omega
      · exact no
    · exact no
theorem yJ (t:Int) {l:List Int} {ls:List (List Int)} (hn:l.length≤100) (hs:ls.length≤9) (hl:∀y∈ls,y.length≤100) (a:Int) (s:BA):
    ∃r1 r2 r3 r4,Ev (fun k=>iH.f k t l ls a s) (r1,r2,r3,r4)∧(r4=true→(0<r2.length∧r2.length≤8)∧r3.length≤ls.length+1∧∀y∈r3,y.length≤8):=by
  have h:=tr (t:=t) (l:=l) (ls:=ls) (by omega) (by omega) (fun y hy=>by have:=hl y hy;omega) a s;by_cases hm:qv t l ls=true
  · rw[if_pos hm]at h
    obtain⟨o1,_,o3⟩:=qq.1 (BQ hm a s);exact⟨(yB t l ls a s).1,(yB t l ls a s).2.1,(yB t l ls a s).2.2.1,(yB t l ls a s).2.2.2,h,fun _=>⟨wu o1,CV t l ls a s,fun y hy=>(wu (o3 y hy)).2⟩⟩
  · rw[if_neg hm]at h
    exact⟨0,[],[],false,h,fun k=>by cases k⟩
def xz (t:Int) (l:List Int):Int×List Int×List (List Int):=if nA t l=true then(t,qh l,[])else(0,[],[])
theorem yK {t:Int} {l:List Int} (h:nA t l=true):l.length≤8:=by
  have:=(kn.1 h).2.1;have:=(rm t).1;omega
theorem uQ (t:Int) {l:List Int} (hn:l.length≤9223372036854775807):Ev (fun k=>pb.f k t l) (xz t l):=by
  unfold pb.f xz;refine Ev.bind (rW t hn) ?_;by_cases h:nA t l=true
  · rw[if_pos h]
    exact gm h (Ev.bind (sU h) (Ev.now _))
  · rw[if_neg h]
    exact gn h (Ev.now _)
theorem xZ:rV.f=some true:=by decide+kernel
def Code (b:List Int):Prop:=b.length≤2000∧∀x,x∈b→0≤x∧x≤255
theorem xA {b:List Int} (h:Code b) {i:Int} (h0:0≤i) (h1:i<(b.length:Int)):0≤rd b i∧rd b i≤255:=by
  obtain⟨n,rfl⟩:=Int.eq_ofNat_of_zero_le h0;exact h.2 _ (yn (by omega))
theorem yL {x y:Int} (h0:0≤x) (h1:x<4611686018427387904) (k0:0≤y) (k1:y<4611686018427387904):0≤Go.bits .xor .i64 x y:=by
  obtain⟨a,rfl⟩:=Int.eq_ofNat_of_zero_le h0;obtain⟨b,rfl⟩:=Int.eq_ofNat_of_zero_le k0;rw[CC a b (by omega) (by omega)];omega
theorem tmod_in {x n:Int} (h:0≤x) (hn:1≤n):0≤Int.tmod x n∧Int.tmod x n<n:=by
  rw[Int.tmod_eq_emod_of_nonneg h];exact⟨Int.emod_nonneg _ (by omega),Int.emod_lt_of_pos _ (by omega)⟩
theorem zF {x n:Int} (h:0≤x) (hn:1≤n):0≤Int.tdiv x n∧Int.tdiv x n≤x:=by
  rw[Int.tdiv_eq_ediv_of_nonneg h];exact⟨Int.ediv_nonneg h (by omega),Int.ediv_le_self _ h⟩
theorem qH {b:List Int} (hb:Code b) {p:Int} (h0:0≤p) (h1:p≤1000000000) (n:Int):
    ∃r,Ev (fun k=>gp.f k b p n) (r,p+1)∧0≤r∧(1≤n→r<n)∧(n<1→r=0):=by
  have hl:=hb.1;have hw:wrap64 (p+1)=p+1:=su (by omega) (by omega);have hw2:wrap64 (p+1 - 1)=p:=by rw[su (by omega) (by omega)];omega
  unfold gp.f;rw[hw];by_cases hn:n<1
  · refine⟨0,gm hn (Ev.step (f:=fun _=>some (0,p+1)) (fun k=>rfl) (Ev.now _)),Int.le_refl _,fun h=>by omega,fun _=>rfl⟩
  · by_cases he:(b.length:Int)=0
    · refine⟨0,gn hn ?_,Int.le_refl _,fun h=>by omega,fun _=>rfl⟩
      rw[he];exact Ev.step (f:=fun _=>some (0,p+1)) (fun k=>rfl) (Ev.now _)
    · have he':((b.length:Int)==0)=false:=beq_eq_false_iff_ne.2 he
      by_cases hk:p<(b.length:Int)
      · obtain⟨a1,a2⟩:=xA hb h0 hk
        have hm:=tmod_in (x:=rd b p) (n:=n) a1 (by omega);refine⟨Int.tmod (rd b p) n,gn hn ?_,hm.1,fun _=>hm.2,fun h=>by omega⟩;rw[he'];refine Ev.step (fun k=>rfl) ?_;simp only[gp.j0,hw2];refine gn (by decide) (gm hk (gm h0 (gn (by omega) (kQ (Ev.now _) ?_))));rw[su (by omega) (by omega)]
      · have hlp:1≤(b.length:Int):=by omega
        have m1:=tmod_in (x:=p) (n:=(b.length:Int)) h0 hlp;have e7:wrap64 (p*7)=p*7:=su (by omega) (by omega);have ID:wrap64 (p*7+3)=p*7+3:=su (by omega) (by omega);have m2:=tmod_in (x:=p*7+3) (n:=(b.length:Int)) (by omega) hlp;have c1:=xA hb m1.1 m1.2;have c2:=xA hb m2.1 m2.2;have d1:=zF (x:=p) (n:=(b.length:Int)) h0 hlp;generalize hA:rd b (Int.tmod p (b.length:Int))=A at c1;generalize hB:rd b (Int.tmod (p*7+3) (b.length:Int))=B at c2;generalize hD:Int.tdiv p (b.length:Int)=D at d1;have hx0:0≤A*131+B*1117+p*29+D*53:=by omega
        have hx1:A*131+B*1117+p*29+D*53<4611686018427387904:=by omega
        have d2:=zF (x:=A*131+B*1117+p*29+D*53) (n:=64) hx0 (by omega);have Hs:=yL hx0 hx1 d2.1 (by omega);have hm:=tmod_in (n:=n) Hs (by omega);refine⟨_,gn hn ?_,hm.1,fun _=>hm.2,fun h=>by omega⟩;rw[he'];refine Ev.step (fun k=>rfl) ?_;simp only[gp.j0,hw2,e7,ID,hA,hB,hD];refine gn (by decide) (gn hk (gn he (gm m1.1 (gm m1.2 (gm m2.1 (gm m2.2 (gn (by omega) (kQ (Ev.now _) ?_))))))));rw[su (n:=A) (by omega) (by omega),su (n:=B) (by omega) (by omega),su (n:=A*131) (by omega) (by omega),su (n:=B*1117) (by omega) (by omega),su (n:=A*131+B*1117) (by omega) (by omega),su (n:=p*29) (by omega) (by omega),su (n:=A*131+B*1117+p*29) (by omega) (by omega),su (n:=D) (by omega) (by omega),su (n:=D*53) (by omega) (by omega),su (n:=A*131+B*1117+p*29+D*53) (by omega) (by omega),su (n:=Int.tdiv _ 64) (by omega) (by omega)]
theorem xB {b:List Int} (hb:Code b) {p:Int} (h0:0≤p) (h1:p≤1000000000) (n:Int):
    ∃r p',Ev (fun k=>jl.f k b p n) (r,p')∧p≤p'∧p'≤p+1:=by
  unfold jl.f;by_cases hn:n>0
  · obtain⟨r,hr,_⟩:=qH hb h0 h1 n
    exact⟨_,p+1,gm hn (Ev.bind hr (Ev.now _)),by omega,by omega⟩
  · exact⟨false,p,gn hn (Ev.now _),by omega,by omega⟩
theorem CW {c:List Int} (h:∀x∈c,(Lit.int .u8 x).wf=true):∃b,qY.f c=some (b,0)∧Code b:=by
  have hc:∀x,x∈c→0≤x∧x≤255:=fun x hx=>by
    have:=h x hx;simp[Lit.wf,IntKind.min,IntKind.max,IntKind.signed,IntKind.bits]at this;omega
  unfold qY.f;by_cases hl:(c.length:Int)>2000
  · refine⟨c.take 2000,by rw[if_pos hl,if_pos (by omega)],by rw[List.length_take];omega,fun x hx=>hc x (List.mem_of_mem_take hx)⟩
  · exact⟨c,by rw[if_neg hl],by omega,hc⟩
theorem xC {b:List Int} (hb:Code b) {p:Int} (h0:0≤p) (h1:p≤900000000) (t d:Int):
    ∃s,Ev (fun k=>hX.j0 k t d true b p) (s,p+2)∧s.size≤1:=by
  obtain⟨i,hi,i0,i1,_⟩:=qH hb (p:=p) h0 (by omega) 8;have i1:=i1 (by omega);have hm:1≤mx (mn t 3) 1∧mx (mn t 3) 1≤3:=by unfold mx mn;split<;>split<;>omega
  have hd:Int.tdiv i 7=0∨Int.tdiv i 7=1:=by
    rw[Int.tdiv_eq_ediv_of_nonneg i0];omega
  generalize hn:wrap64 ((mx (mn t 3) 1)+(wrap64 ((wrap64 (Int.tdiv i 7))*3)))=n
  have hn1:1≤n∧n≤6:=by
    rw[←hn];rcases hd with e|e
    · rw[e,su (n:=(0:Int)) (by omega) (by omega),su (n:=(0:Int)*3) (by omega) (by omega),su (by omega) (by omega)];omega
    · rw[e,su (n:=(1:Int)) (by omega) (by omega),su (n:=(1:Int)*3) (by omega) (by omega),su (by omega) (by omega)];omega
  obtain⟨j,hj,j0,j1,_⟩:=qH hb (p:=p+1) (by omega) (by omega) n;have j1:=j1 hn1.1;have e2:p+1+1=p+2:=by omega
  rw[e2]at hj;refine⟨rdOf ByteArray.empty [(⟨#[97]⟩:BA),(⟨#[98]⟩:BA),(⟨#[99]⟩:BA),(⟨#[97]⟩:BA),(⟨#[48]⟩:BA),(⟨#[49]⟩:BA)] j,Ev.step (f:=fun k=>((some (([(⟨#[97]⟩:BA),(⟨#[98]⟩:BA),(⟨#[99]⟩:BA),(⟨#[97]⟩:BA),(⟨#[48]⟩:BA),(⟨#[49]⟩:BA)]:List BA):List BA)).bind fun FV=>((gp.f k b p 8).bind fun Ds=>((gp.f k b Ds.2 (wrap64 ((mx (mn t 3) 1)+(wrap64 ((wrap64 (Int.tdiv Ds.1 7))*3))))).bind fun zG=>(if 0≤zG.1 then(if zG.1<(FV.length:Int)then(some (rdOf ByteArray.empty FV zG.1,zG.2))else(none))else(none)))))) (fun k=>rfl) (ie rfl (Ev.bind hi ?_)),?_⟩
  · rw[hn]
    exact Ev.bind hj (gm j0 (gm (by show j<6;omega) (Ev.now _)))
  · have:j=0∨j=1∨j=2∨j=3∨j=4∨j=5:=by omega
    rcases this with rfl|rfl|rfl|rfl|rfl|rfl<;>decide+kernel
theorem uC {b:List Int} (hb:Code b) (t:Int) (d c m:Nat) (hd:d<100) (hc:c≤1000) (hm:m≤1000)
    (H:∀p:Int,0≤p→p≤900000000 - 2*c - 10→∃s p',Ev (fun k=>hX.f k b p t (d:Int)) (s,p')∧p≤p'∧p'≤p+c∧s.size≤m):
    ∀p:Int,0≤p→p≤900000000 - 2*(2*c+5:Nat) - 10→∃s p',Ev (fun k=>hX.f k b p t ((d+1:Nat):Int)) (s,p')∧p≤p'∧p'≤p+(2*c+5:Nat)∧s.size≤2*m+3:=by
  intro p h0 h1;obtain⟨y,hy,_,_,_⟩:=qH hb h0 (by omega) 3;have hd1:wrap64 (((d+1:Nat):Int) - 1)=(d:Int):=by rw[su (by omega) (by omega)];omega
  have st:∀{r},Ev (fun k=>hX.j0 k t ((d+1:Nat):Int) (y==0) b (p+1)) r→Ev (fun k=>hX.f k b p t ((d+1:Nat):Int)) r:=fun h=>Ev.step (f:=fun k=>if((d+1:Nat):Int)=0 then(hX.j0 k t ((d+1:Nat):Int) true b p)else((gp.f k b p 3).bind fun uN=>(hX.j0 k t ((d+1:Nat):Int) (uN.1==0) b uN.2))) (fun k=>rfl) (gn (by omega) (Ev.bind hy h))
  by_cases e0:y=0
  · obtain⟨s,hs,h2⟩:=xC hb (p:=p+1) (by omega) (by omega) t ((d+1:Nat):Int)
    have eb:(y==0)=true:=beq_iff_eq.2 e0;rw[eb]at st;exact⟨s,p+1+2,st hs,by omega,by omega,by omega⟩
  · have eb:(y==0)=false:=beq_eq_false_iff_ne.2 e0
    rw[eb]at st;obtain⟨z,hz,_,_,_⟩:=qH hb (p:=p+1) (by omega) (by omega) 4;obtain⟨s1,p1,hs1,a1,a2,a3⟩:=H (p+1+1) (by omega) (by omega);obtain⟨s2,p2,hs2,b1,b2,b3⟩:=H p1 (by omega) (by omega);rw[←hd1]at hs1 hs2;have II:∀x:BA,x.size=1→((x++s1)++x).size=s1.size+2:=fun x hx=>by rw[ByteArray.size_append,ByteArray.size_append,hx];omega
    have one:∀x:UInt8,(⟨#[x]⟩:BA).size=1:=fun x=>rfl
    by_cases z0:z=0
    · refine⟨(⟨#[33]⟩:BA)++s1,p1,st (Ev.step (fun k=>rfl) (Ev.bind hz (gm z0 (Ev.bind hs1 (gm (by dsimp only;(try simp only[ByteArray.size_append,one]);omega) (Ev.now _)))))),by omega,by omega,?_⟩
      rw[ByteArray.size_append,one];omega
    by_cases z1:z=1
    · refine⟨((((⟨#[40]⟩:BA)++s1)++(⟨#[38]⟩:BA))++s2)++(⟨#[41]⟩:BA),p2,st (Ev.step (fun k=>rfl) (Ev.bind hz (gn z0 (gm z1 (Ev.bind hs1 (gm (by dsimp only;(try simp only[ByteArray.size_append,one]);omega) (gm (by dsimp only;(try simp only[ByteArray.size_append,one]);omega) (Ev.bind hs2 (gm (by dsimp only;(try simp only[ByteArray.size_append,one]);omega) (gm (by dsimp only;(try simp only[ByteArray.size_append,one]);omega) (Ev.now _))))))))))),by omega,by omega,?_⟩
      simp only[ByteArray.size_append,one];omega
    by_cases z2:z=2
    · refine⟨((((⟨#[40]⟩:BA)++s1)++(⟨#[124]⟩:BA))++s2)++(⟨#[41]⟩:BA),p2,st (Ev.step (fun k=>rfl) (Ev.bind hz (gn z0 (gn z1 (gm z2 (Ev.bind hs1 (gm (by dsimp only;(try simp only[ByteArray.size_append,one]);omega) (gm (by dsimp only;(try simp only[ByteArray.size_append,one]);omega) (Ev.bind hs2 (gm (by dsimp only;(try simp only[ByteArray.size_append,one]);omega) (gm (by dsimp only;(try simp only[ByteArray.size_append,one]);omega) (Ev.now _)))))))))))),by omega,by omega,?_⟩
      simp only[ByteArray.size_append,one];omega
    · refine⟨((((⟨#[40]⟩:BA)++s1)++(⟨#[62]⟩:BA))++s2)++(⟨#[41]⟩:BA),p2,st (Ev.step (fun k=>rfl) (Ev.bind hz (gn z0 (gn z1 (gn z2 (Ev.bind hs1 (gm (by dsimp only;(try simp only[ByteArray.size_append,one]);omega) (gm (by dsimp only;(try simp only[ByteArray.size_append,one]);omega) (Ev.bind hs2 (gm (by dsimp only;(try simp only[ByteArray.size_append,one]);omega) (gm (by dsimp only;(try simp only[ByteArray.size_append,one]);omega) (Ev.now _)))))))))))),by omega,by omega,?_⟩
      simp only[ByteArray.size_append,one];omega
theorem zH {b:List Int} (hb:Code b) (t:Int) {p:Int} (h0:0≤p) (h1:p≤800000000):∃s p',Ev (fun k=>hX.f k b p t 2) (s,p')∧p≤p'∧p'≤p+30∧s.size≤20:=by
  have H0:∀p:Int,0≤p→p≤900000000 - 2*(2:Nat) - 10→∃s p',Ev (fun k=>hX.f k b p t ((0:Nat):Int)) (s,p')∧p≤p'∧p'≤p+(2:Nat)∧s.size≤1:=by
    intro p h0 h1;obtain⟨s,hs,h2⟩:=xC hb (p:=p) h0 (by omega) t ((0:Nat):Int);exact⟨s,p+2,Ev.step (f:=fun k=>if((0:Nat):Int)=0 then(hX.j0 k t ((0:Nat):Int) true b p)else((gp.f k b p 3).bind fun uN=>(hX.j0 k t ((0:Nat):Int) (uN.1==0) b uN.2))) (fun k=>rfl) (gm rfl hs),by omega,by omega,h2⟩
  have H1:=uC hb t 0 2 1 (by omega) (by omega) (by omega) H0;have H2:=uC hb t 1 9 5 (by omega) (by omega) (by omega) H1;obtain⟨s,p',a,b1,b2,b3⟩:=H2 p h0 (by omega);exact⟨s,p',a,b1,by omega,by omega⟩
theorem FW (b:List Int) (p:Int):Ev (fun k=>jl.f k b p 0) (false,p):=by
  unfold jl.f;exact gn (by omega) (Ev.now _)
theorem yM {b:List Int} (hb:Code b) {p:Int} (h0:0≤p) (h1:p≤900000000):
    ∃r,Ev (fun k=>nD.f k b p 0) (r,p+1)∧1≤r∧r≤3:=by
  unfold nD.f;obtain⟨r,hr,r0,r1,_⟩:=qH hb (p:=p) h0 (by omega) 5;have r1:=r1 (by omega);refine⟨rd [1,2,2,3,3] r,Ev.bind (FW b p) (gn Bool.false_ne_true (ie rfl (Ev.bind hr (gm r0 (gm (by simpa using r1) (Ev.now _)))))),?_⟩;have:r=0∨r=1∨r=2∨r=3∨r=4:=by omega
  rcases this with rfl|rfl|rfl|rfl|rfl<;>decide+kernel
theorem Ce {b:List Int} (hb:Code b) {t:Int} (ht:1≤t∧t≤3) {x:Int} (x0:0≤x) (x1:x<3):∀i:Nat,i≤wn t→∀(l:List Int) (p:Int),l.length=i→(∀y∈l,0≤y∧y≤9)→0≤p→p+10*(wn t - i:Nat)≤800000000→
    ∃r p',Ev (fun k=>jH.l0 k 0 l (wn t:Int) x (i:Int) b p) (r,p')∧p≤p'∧p'≤p+10*(wn t - i:Nat)+10∧nA t r=true:=by
  have hw:=rm t;apply down
  · intro l p hl hx h0 h1
    obtain⟨j,hj,j0,j1,_⟩:=qH hb (p:=p) (by omega) (by omega) (wn t:Int);have j1:=j1 (by omega);obtain⟨m,rfl⟩:=Int.eq_ofNat_of_zero_le j0;have hm:m<l.length:=by omega
    refine⟨l.set ((m:Int)).toNat 0,p+1,Ev.step (fun k=>rfl) (gn (by omega) (Ev.bind hj (gm j0 (gm (by omega) (ie rfl (Ev.bind (FW b (p+1)) (rG (Ev.now _)))))))),by omega,by omega,kn.2 ⟨ht,by rw[List.length_set,hl],fun y hy=>?_,?_⟩⟩
    · rcases List.mem_or_eq_of_mem_set hy with h|rfl
      · exact hx y h
      · omega
    · rw[Int.toNat_natCast]
      exact List.mem_set hm 0
  · intro i hi ih l p hl hx h0 h1
    obtain⟨z,hz,z0,z1,_⟩:=qH hb (p:=p) (by omega) (by omega) (rd [2,4,10] x)
    have hq:1≤rd [2,4,10] x∧rd [2,4,10] x≤10:=by
      have:x=0∨x=1∨x=2:=by omega
      rcases this with rfl|rfl|rfl<;>decide+kernel
    have z1:=z1 hq.1
    obtain⟨r,p',hr,b1,b2,b3⟩:=ih (l++ [z]) (p+1) (by rw[List.length_append,hl];rfl) (fun y hy=>by
      rcases List.mem_append.1 hy with h|h
      · exact hx y h
      · rw[List.mem_singleton.1 h];omega) (by omega) (by omega)
    refine⟨r,p',Ev.step (fun k=>rfl) (gm (by omega) (ie rfl (gm x0 (gm (by simpa using x1) (Ev.bind hz (gm (by omega) ?_)))))),by omega,by omega,b3⟩;rw[w1 hi (by omega)];exact hr
theorem Cf {b:List Int} (hb:Code b) {p:Int} (h0:0≤p) (h1:p≤700000000) {t:Int} (ht:1≤t∧t≤3):
    ∃r p',Ev (fun k=>jH.f k b p t 0) (r,p')∧p≤p'∧p'≤p+100∧nA t r=true:=by
  have hw:=rm t
  have hv:qx.f t=some (wn t:Int):=by
    unfold qx.f;rw[rO,Option.bind_some,decide_eq_true ht,if_pos rfl,if_pos (by omega),tl ht]
  obtain⟨x,hx,x0,x1,_⟩:=qH hb h0 (by omega) 3;have x1:=x1 (by omega);have hmx:mx (wn t:Int) 1=(wn t:Int):=by unfold mx;split<;>omega
  obtain⟨r,p',hr,b1,b2,b3⟩:=Ce hb ht x0 x1 0 (Nat.zero_le _) [] (p+1) rfl (by simp) (by omega) (by omega);unfold jH.f;refine⟨r,p',ie hv (Ev.bind hx ?_),by omega,by omega,b3⟩;rw[hmx];exact hr
theorem zI {b:List Int} (hb:Code b) (t:Int) (l:List Int) (ls:List (List Int)) {p:Int} (h0:0≤p) (h1:p≤700000000):∃a s p',Ev (fun k=>kL.f k b p t l ls) (a,s,p')∧p≤p'∧p'≤p+40∧s.size≤21:=by
  obtain⟨i,hi,i0,i1,_⟩:=qH hb (p:=p) h0 (by omega) 7;have i1:=i1 (by omega);obtain⟨j,hj,_,_,_⟩:=qH hb (p:=p+1) (by omega) (by omega) 60;unfold kL.f;generalize hK:wrap64 ((rd [0,0,0,1,1,1,2] i)+(wrap64 ((wrap64 (Int.tdiv j 59))*3)))=K;have one:∀x:UInt8,(⟨#[x]⟩:BA).size=1:=fun x=>rfl
  by_cases e:K=2
  · obtain⟨o,p1,ho,a1,a2⟩:=xB hb (p:=p+1+1) (by omega) (by omega) 40
    cases o with
    |true=>
      refine⟨K,(⟨#[]⟩:BA)++(⟨#[41]⟩:BA),p1,ie rfl (Ev.bind hi (gm i0 (gm (by show i<7;omega) (Ev.bind hj ?_)))),by omega,by omega,by decide⟩;simp only[hK];exact gm e (Ev.bind ho (oF (gm (by decide) (Ev.now _))))
    |false=>
      refine⟨K,(⟨#[]⟩:BA),p1,ie rfl (Ev.bind hi (gm i0 (gm (by show i<7;omega) (Ev.bind hj ?_)))),by omega,by omega,by decide⟩;simp only[hK];exact gm e (Ev.bind ho (rG (Ev.now _)))
  · obtain⟨s,p2,hs,c1,c2,c3⟩:=zH hb t (p:=p+1+1) (by omega) (by omega)
    obtain⟨o,p1,ho,a1,a2⟩:=xB hb (p:=p2) (by omega) (by omega) 40;cases o with
    |true=>
      refine⟨K,s++(⟨#[41]⟩:BA),p1,ie rfl (Ev.bind hi (gm i0 (gm (by show i<7;omega) (Ev.bind hj ?_)))),by omega,by omega,by rw[ByteArray.size_append,one];omega⟩;simp only[hK];exact gn e (Ev.bind hs (Ev.bind ho (oF (gm (by show s.size+1≤_;omega) (Ev.now _)))))
    |false=>
      refine⟨K,s,p1,ie rfl (Ev.bind hi (gm i0 (gm (by show i<7;omega) (Ev.bind hj ?_)))),by omega,by omega,by omega⟩;simp only[hK];exact gn e (Ev.bind hs (Ev.bind ho (rG (Ev.now _))))
theorem CX {b:List Int} (hb:Code b) (n:Int):∀(x:Nat) (t:Int) (l:List Int) (ls:List (List Int)) (p:Int),x≤5→0≤p→p+100*x≤600000000→0<l.length→l.length≤8→ls.length+x≤5→(∀y∈ls,y.length≤8)→
    ∃t' l' ls' p',Ev (fun k=>jO.l0 k n (x:Int) b p t l ls) (t',l',ls',p')∧p≤p'∧p'≤p+100*x+10∧l'.length≤8∧ls'.length≤6∧∀y∈ls',y.length≤8:=by
  intro x;induction x with
  |zero=>
    intro t l ls p _ h0 h1 hl0 ES hs hr;obtain⟨o,p1,ho,a1,a2⟩:=xB hb h0 (by omega) n;cases o with
    |false=>exact⟨t,l,ls,p1,Ev.step (fun k=>rfl) (gn (by omega) (Ev.bind ho (rG (Ev.now _)))),by omega,by omega,ES,by omega,hr⟩
    |true=>
      obtain⟨z,hz,z0,z1,_⟩:=qH hb (p:=p1) (by omega) (by omega) 3;by_cases e0:z=0
      · exact⟨4,l,ls,p1+1,Ev.step (fun k=>rfl) (gn (by omega) (Ev.bind ho (oF (Ev.bind hz (gm e0 (Ev.now _)))))),by omega,by omega,ES,by omega,hr⟩
      by_cases e1:z=1
      · exact⟨t,l.set (0:Int).toNat 9,ls,p1+1,Ev.step (fun k=>rfl) (gn (by omega) (Ev.bind ho (oF (Ev.bind hz (gn e0 (gm e1 (gm (by omega) (Ev.now _)))))))),by omega,by omega,by rw[List.length_set];exact ES,by omega,hr⟩
      · refine⟨t,l,ls++ [[1]],p1+1,Ev.step (fun k=>rfl) (gn (by omega) (Ev.bind ho (oF (Ev.bind hz (gn e0 (gn e1 (gm (by omega) (Ev.now _)))))))),by omega,by omega,ES,by rw[List.length_append,List.length_singleton];omega,fun y hy=>?_⟩
        rcases List.mem_append.1 hy with h|h
        · exact hr y h
        · rw[List.mem_singleton.1 h];decide
  |succ x ih=>
    intro t l ls p hx h0 h1 hl0 ES hs hr;obtain⟨a,s,p1,hd,a1,a2,a3⟩:=zI hb t l ls h0 (by omega);obtain⟨r1,r2,r3,r4,hm,hgood⟩:=yJ t (l:=l) (ls:=ls) (by omega) (by omega) (fun y hy=>by have:=hr y hy;omega) a s;have hw:wrap64 (((x+1:Nat):Int) - 1)=(x:Int):=by rw[su (by omega) (by omega)];omega
    cases r4 with
    |true=>
      obtain⟨g1,g2,g3⟩:=hgood rfl;obtain⟨t',l',ls',p',h2,b1,b2,b3⟩:=ih r1 r2 r3 p1 (by omega) (by omega) (by omega) g1.1 g1.2 (by omega) g3;refine⟨t',l',ls',p',Ev.step (fun k=>rfl) (gm (by omega) (Ev.bind hd (Ev.bind hm (oF ?_)))),by omega,by omega,b3⟩;rw[hw];exact h2
    |false=>
      obtain⟨t',l',ls',p',h2,b1,b2,b3⟩:=ih t l ls p1 (by omega) (by omega) (by omega) hl0 ES (by omega) hr;refine⟨t',l',ls',p',Ev.step (fun k=>rfl) (gm (by omega) (Ev.bind hd (Ev.bind hm (rG ?_)))),by omega,by omega,b3⟩;rw[hw];exact h2
theorem CY {b:List Int} (hb:Code b) (n:Int) {p:Int} (h0:0≤p) (h1:p≤500000000):
    ∃t l ls p',Ev (fun k=>jO.f k b p n) (t,l,ls,p')∧p≤p'∧p'≤p+1000∧l.length≤8∧ls.length≤6∧∀y∈ls,y.length≤8:=by
  unfold jO.f;obtain⟨t,ht,t0,t1⟩:=yM hb h0 (by omega);obtain⟨l,p1,hl,a1,a2,a3⟩:=Cf hb (p:=p+1) (by omega) (by omega) (t:=t) ⟨t0,t1⟩;have h8:=yK a3;have hw:=rm t;have hlen:=(kn.1 a3).2.1;have hn:=uQ t (l:=l) (by omega);have en:xz t l=(t,qh l,[]):=if_pos a3;rw[en]at hn;obtain⟨x,hx,x0,x1,_⟩:=qH hb (p:=p1) (by omega) (by omega) 6;have x1:=x1 (by omega);obtain⟨m,rfl⟩:=Int.eq_ofNat_of_zero_le x0;obtain⟨t',l',ls',p',h2,b1,b2,b3⟩:=CX hb n m t (qh l) [] (p1+1) (by omega) (by omega) (by omega) (by rw[qL];omega) (by rw[qL];omega) (by simp only[List.length_nil];omega) (by simp);exact⟨t',l',ls',p',Ev.bind ht (Ev.bind hl (Ev.bind hn (Ev.bind hx h2))),by omega,by omega,b3⟩
theorem wv {l:List BA} {n:Nat} (h:∀y∈l,y.size≤n) (i:Int):(rdOf ByteArray.empty l i).size≤n:=by
  unfold rdOf;rw[List.getD_eq_getElem?_getD];cases e:l[i.toNat]? with
  |none=>exact Nat.zero_le _
  |some y=>exact h y (List.mem_of_getElem? e)
theorem ya {b:List Int} (hb:Code b) (t:Int) {p:Int} (h0:0≤p) (h1:p≤800000000):∃s p',Ev (fun k=>hX.f k b p t 1) (s,p')∧p≤p'∧p'≤p+9∧s.size≤5:=by
  have H0:∀p:Int,0≤p→p≤900000000 - 2*(2:Nat) - 10→∃s p',Ev (fun k=>hX.f k b p t ((0:Nat):Int)) (s,p')∧p≤p'∧p'≤p+(2:Nat)∧s.size≤1:=by
    intro p h0 h1;obtain⟨s,hs,h2⟩:=xC hb (p:=p) h0 (by omega) t ((0:Nat):Int);exact⟨s,p+2,Ev.step (f:=fun k=>if((0:Nat):Int)=0 then(hX.j0 k t ((0:Nat):Int) true b p)else((gp.f k b p 3).bind fun uN=>(hX.j0 k t ((0:Nat):Int) (uN.1==0) b uN.2))) (fun k=>rfl) (gm rfl hs),by omega,by omega,h2⟩
  have H1:=uC hb t 0 2 1 (by omega) (by omega) (by omega) H0;obtain⟨s,p',a,b1,b2,b3⟩:=H1 p h0 (by omega);exact⟨s,p',a,b1,by omega,by omega⟩
theorem yN (a:Int) (s:BA):(rC a s).size≤s.size+6:=by
  unfold rC;split
  · show 4≤s.size+6
    omega
  · split
    · split
      · rw[ByteArray.size_append]
        show 6+s.size≤s.size+6
        omega
      · split
        · rw[ByteArray.size_append]
          show 4+s.size≤s.size+6
          omega
        · exact Nat.zero_le _
    · exact Nat.zero_le _
theorem CZ {b:List Int} (hb:Code b) (t:Int) (l:List Int) (ls:List (List Int)) {p:Int} (h0:0≤p) (h1:p≤600000000):∃s p',Ev (fun k=>iW.f k b p t l ls) (s,p')∧p≤p'∧p'≤p+110∧s.size≤60:=by
  have T:∀y:Int,∃s p',Ev (fun k=>iW.j0 k y true b (p+1) t l ls) (s,p')∧p≤p'∧p'≤p+110∧s.size≤60:=by
    intro y;obtain⟨i,hi,i0,i1,_⟩:=qH hb (p:=p+1) (by omega) (by omega) 5;have i1:=i1 (by omega);obtain⟨s,p',hs,c1,c2,c3⟩:=zH hb t (p:=p+1+1) (by omega) (by omega);have hz:(rdOf ByteArray.empty [(⟨#[98,101,108,105,101,118,101,32]⟩:BA),(⟨#[102,105,114,109,32]⟩:BA),(⟨#[103,105,118,101,32]⟩:BA),(⟨#[117,112,100,97,116,101,32]⟩:BA),(⟨#[110,101,97,114,32]⟩:BA)] i).size≤8:=wv (by decide) i;refine⟨(rdOf ByteArray.empty [(⟨#[98,101,108,105,101,118,101,32]⟩:BA),(⟨#[102,105,114,109,32]⟩:BA),(⟨#[103,105,118,101,32]⟩:BA),(⟨#[117,112,100,97,116,101,32]⟩:BA),(⟨#[110,101,97,114,32]⟩:BA)] i)++s,p',Ev.step (fun _=>rfl) ?_,by omega,by omega,?_⟩
    · simp only[iW.j0]
      exact gm trivial (ie rfl (Ev.bind hi (gm i0 (gm (by show i<5;omega) (Ev.bind hs (gm (by dsimp only;omega) (Ev.now _)))))))
    · rw[ByteArray.size_append]
      omega
  have F:∀y:Int,∃s p',Ev (fun k=>iW.j0 k y false b (p+1) t l ls) (s,p')∧p≤p'∧p'≤p+110∧s.size≤60:=by
    intro y;by_cases e:y=4
    · obtain⟨s,p2,hs,c1,c2,c3⟩:=ya hb t (p:=p+1) (by omega) (by omega)
      obtain⟨u,p3,hu,d1,d2,d3⟩:=ya hb t (p:=p2) (by omega) (by omega);have n9:(⟨#[110,111,114,109,97,108,108,121,32]⟩:BA).size=9:=rfl;have n2:(⟨#[45,62]⟩:BA).size=2:=rfl;refine⟨(((⟨#[110,111,114,109,97,108,108,121,32]⟩:BA)++s)++(⟨#[45,62]⟩:BA))++u,p3,Ev.step (fun _=>rfl) ?_,by omega,by omega,?_⟩
      · simp only[iW.j0]
        exact gn Bool.false_ne_true (gm e (Ev.bind hs (gm (by dsimp only;omega) (gm (by dsimp only;rw[ByteArray.size_append,n9];omega) (Ev.bind hu (gm (by dsimp only;rw[ByteArray.size_append,ByteArray.size_append,n9,n2];omega) (Ev.now _)))))))
      · rw[ByteArray.size_append,ByteArray.size_append,ByteArray.size_append,n9,n2]
        omega
    · obtain⟨a,s,p2,hd,c1,c2,c3⟩:=zI hb t l ls (p:=p+1) (by omega) (by omega)
      have:=yN a s;refine⟨rC a s,p2,Ev.step (fun _=>rfl) ?_,by omega,by omega,by omega⟩;simp only[iW.j0];exact gn Bool.false_ne_true (gn e (Ev.bind hd (Ev.bind (tb a (s:=s) (by omega)) (Ev.now _))))
  obtain⟨x,hx,x0,x1,_⟩:=qH hb h0 (by omega) 6;have x1:=x1 (by omega);unfold iW.f;by_cases e0:x=0
  · obtain⟨i,hi,i0,i1,_⟩:=qH hb (p:=p+1) (by omega) (by omega) 3
    have i1:=i1 (by omega);exact⟨_,p+1+1,Ev.bind hx (gm e0 (ie rfl (Ev.bind hi (gm i0 (gm (by show i<3;omega) (Ev.now _)))))),by omega,by omega,Nat.le_trans (wv (n:=5) (by decide) i) (by omega)⟩
  · by_cases e1:x=1
    · obtain⟨i,hi,i0,i1,_⟩:=qH hb (p:=p+1) (by omega) (by omega) 10
      have i1:=i1 (by omega);exact⟨_,p+1+1,Ev.bind hx (gn e0 (gm e1 (ie rfl (Ev.bind hi (gm i0 (gm (by show i<10;omega) (Ev.now _))))))),by omega,by omega,Nat.le_trans (wv (n:=10) (by decide) i) (by omega)⟩
    · by_cases e2:x=2
      · obtain⟨s,p',h,c1,c2,c3⟩:=T x
        have e:(x==2)=true:=by rw[e2];rfl
        refine⟨s,p',Ev.bind hx (gn e0 (gn e1 (gm e2 ?_))),c1,c2,c3⟩;dsimp only;rw[e];exact h
      · by_cases e3:x=3
        · obtain⟨s,p',h,c1,c2,c3⟩:=T x
          have e:(x==3)=true:=by rw[e3];rfl
          refine⟨s,p',Ev.bind hx (gn e0 (gn e1 (gn e2 ?_))),c1,c2,c3⟩;dsimp only;rw[e];exact h
        · obtain⟨s,p',h,c1,c2,c3⟩:=F x
          have e:(x==3)=false:=beq_eq_false_iff_ne.2 e3;refine⟨s,p',Ev.bind hx (gn e0 (gn e1 (gn e2 ?_))),c1,c2,c3⟩;dsimp only;rw[e];exact h
theorem yb {l m:List Int} (hn:l.length≤9223372036854775807):Ev (fun k=>jI.f k l m) (decide (l=m)):=by
  unfold jI.f;by_cases hl:l.length=m.length
  · refine gm (by omega) ?_
    have key:∀i,i≤l.length→Ev (fun k=>jI.l0 k l m (i:Int)) (decide (l.drop i=m.drop i)):=by
      apply down
      · refine Ev.step (fun k=>rfl) (gn (by omega) (kQ (Ev.now _) ?_))
        rw[List.drop_length,hl,List.drop_length,decide_eq_true rfl]
      · intro i hi ih
        have hm:i<m.length:=by omega
        refine Ev.step (fun k=>rfl) (gm (by omega) (gm (by omega) (gm (by omega) ?_)));rw[qK hi,qK hm,w1 hi hn,List.drop_eq_getElem_cons hi,List.drop_eq_getElem_cons hm];by_cases e:l[i]=m[i]
        · refine gm e (kQ ih ?_)
          exact decide_eq_decide.2 ⟨fun k=>by rw[e,k],fun k=>(List.cons.inj k).2⟩
        · refine gn e (kQ (Ev.now _) ?_)
          exact(decide_eq_false (fun k=>e (List.cons.inj k).1)).symm
    have:=key 0 (Nat.zero_le _);simpa using this
  · refine gn (by omega) (kQ (Ev.now _) ?_)
    exact(decide_eq_false (fun k=>hl (by rw[k]))).symm
theorem tP {l:List Int} (hn:l.length≤9223372036854775807):Ev (fun k=>jI.f k l l) true:=kQ (yb hn) (decide_eq_true rfl)
theorem wF {l:List (List Int)} (hn:l.length≤9223372036854775807) (hl:∀y∈l,y.length≤9223372036854775807):Ev (fun k=>kj.f k l l) true:=by
  unfold kj.f;refine gm rfl ?_
  have key:∀i,i≤l.length→Ev (fun k=>kj.l0 k l l (i:Int)) true:=by
    apply down
    · exact Ev.step (fun k=>rfl) (gn (by omega) (Ev.now _))
    · intro i hi ih
      refine Ev.step (fun k=>rfl) (gm (by omega) (gm (by omega) (gm (by omega) ?_)));rw[tk hi,w1 hi hn];exact Ev.bind (tP (hl _ (List.getElem_mem hi))) (oF ih)
  exact key 0 (Nat.zero_le _)
theorem sX (t:Int) {l:List Int} {ls:List (List Int)} (hn:l.length≤9223372036854775807) (hs:ls.length≤9223372036854775807) (hl:∀y∈ls,y.length≤9223372036854775807):Ev (fun k=>mZ.f k t l ls t l ls) true:=by
  unfold mZ.f;exact gm rfl (Ev.bind (tP hn) (oF (Ev.bind (wF hs hl) (Ev.now _))))
end Go.Proofs.YtigeaokfhnlkcaaGreatDoor.Pl
