-- Written by a program of this session (wip/hook.py), which runs the kit's printer; Lean checks it.
import Derived.Test.YtihgpkohglcijaaPx0
namespace Go.Proofs.Ytihgpkohglcijaa.P
open Go.RowKit Go.Proofs.YtihgpkohglcijaaW.PrintWords Go.Proofs.YtihgpkohglcijaaW.PrintLast Go.Proofs.YtihgpkohglcijaaW.PrintMore
attribute [local go_sem] max2_int min2_int max_two min_two max_three min_three max_four min_four   -- for this text's walks alone
set_option linter.unusedVariables false
set_option linter.unusedSimpArgs false

/-! ### impl_allWorlds: function 121 (by hand) -/
theorem impl_allWorlds.nonneg (x y:Int):0≤shl .u64 x y:=by
 unfold shl;rw[show IntKind.u64.wrap (x*2^min y.toNat IntKind.u64.bits)=(x*2^min y.toNat IntKind.u64.bits)%18446744073709551616 from by simp[IntKind.wrap,IntKind.bits,IntKind.signed]];exact Int.emod_nonneg _ (by decide)
def impl_allWorlds.f (a0:Int):Option (Int):=if 0≤a0 then(some (wrap64 ((shl .i64 1 (shl .u64 1 a0)) - 1)))else(none)
set_option maxHeartbeats 8000000 in
set_option maxRecDepth 100000 in
theorem impl_allWorlds.calls (a0:Int) (r:Int) (w:World) (h:impl_allWorlds.f a0=some r):
  Calls Try.prog 121 #[.int .i64 a0] w fun e w'=>e= .returned (.int .i64 r)∧Drawn0 w w':=by
 have H:(if 0≤a0 then(some (wrap64 ((shl .i64 1 (shl .u64 1 a0)) - 1)))else(none))=some r:=h;clear h;by_cases c2:0≤a0;rotate_left;(rw[if_neg c2]at H;exact absurd H (by simp));rw[if_pos c2]at H;have ao:=eq_true c2;have aq:decide (0≤a0)=true:=decide_eq_true c2;clear c2;obtain rfl:=Option.some.inj H;clear H;have p:=impl_allWorlds.nonneg 1 a0;obtain⟨ag,ai⟩:∃j_:Int,(shl .u64 1 a0)=j_:=⟨_,rfl⟩;rw[ai]at p⊢;have ar:(IntKind.u64.wrap (1*2^min a0.toNat 64))=ag:=ai;have aO:(IntKind.u64.wrap (2^min a0.toNat 64))=ag:=by have h_:=ar;rw[Int.one_mul]at h_;exact h_
 have aP:=eq_true p;have aV:decide (0≤ag)=true:=decide_eq_true p;have aW:decide (ag<0)=false:=decide_eq_false (by omega)
 have e5:wrap64 (2^min ag.toNat 64)=shl .i64 1 ag:=by
  unfold shl;rw[i64_w,Int.one_mul];rfl
 have E5:=Asd.mk e5;clear ai p e5;go_enter Try.func121,Try.ntmps121;go_wp2;go_ret;rw[←E5.out];exact⟨rfl,Drawn0.refl _⟩

/-! ### impl_setThat: function 137 (by hand) -/
def impl_setThat.l (p:Int→Option Bool):Nat→Int→Int→Option Int
 |0,_,s=>some s
 |n+1,x,s=>(p x).bind fun b=>impl_setThat.l p n (x+1) (if b=true then Go.bits .or .i64 s (shl .i64 1 x)else s)
def impl_setThat.f (p:Int→Option Bool) (things:Int):Option Int:=if 0≤things then(if things≤3 then impl_setThat.l p (2^things.toNat) 0 0 else none)else none
set_option maxHeartbeats 4000000 in
set_option maxRecDepth 100000 in
theorem impl_setThat.calls (g:Nat) (lb:Array Value) (eg:∀args w,(callFunc g args).run Try.prog w= .ok (.enter g args) w) (p:Int→Option Bool)
  (things:Int) (r:Int) (w:World) (hp:Hof.GivesI g lb p w) (h:impl_setThat.f p things=some r):
  Calls Try.prog 137 #[.int .i64 things,.func (.func g) #[] lb] w fun e w'=>e= .returned (.int .i64 r)∧Below w.heap.size w w':=by
 have HP:=Asd.mk hp;clear hp
 have h2:0≤things∧things≤3∧impl_setThat.l p (2^things.toNat) 0 0=some r:=by
  unfold impl_setThat.f at h;by_cases a:0≤things
  ·rw[if_pos a]at h;by_cases b:things≤3
   ·rw[if_pos b]at h;exact⟨a,b,h⟩
   ·rw[if_neg b]at h;cases h
  ·rw[if_neg a]at h;cases h
 obtain⟨h0,h3,h⟩:=h2;obtain⟨t,rfl⟩:=Int.eq_ofNat_of_zero_le h0;rw[Int.toNat_natCast]at h
 have hN:((2^t:Nat):Int)≤8∧IntKind.i64.wrap (2^min t 64)=((2^t:Nat):Int):=by
  rcases(by omega:t=0∨t=1∨t=2∨t=3)with rfl|rfl|rfl|rfl<;>exact⟨by decide,by decide+kernel⟩
 obtain⟨N,eN⟩:∃N:Nat,N=2^t:=⟨_,rfl⟩;rw[←eN]at hN h;obtain⟨aY,au⟩:=hN;have hNw:wrap64 (2^min t 64)=(N:Int):=(i64_w _).symm.trans au;have H':Asd (impl_setThat.l p N 0 0=some r):=⟨h⟩;have aP:=eq_true h0;clear h h0 h3 eN;go_enter Try.func137,Try.ntmps137;go_wp2;go_loopg [5,9] N (fun gg s5 s9 wr=>∃(n:Nat) (x s:Int),0≤x∧x+n=(N:Int)∧n≤gg∧s5= .int .i64 s∧s9= .int .i64 x∧Asd (Below w.heap.size w wr)∧Asd (impl_setThat.l p n x s=some r))
 case atStart=>exact⟨N,0,0,by omega,by omega,Nat.le_refl _,rfl,rfl,⟨Below.refl _ _⟩,H'⟩
 case round=>
  clear H';obtain⟨n,x,s,aQ,aZ,hg,rfl,rfl,HB,HA⟩:=hrel;cases n with
  |zero=>
   have a1:¬x<(N:Int):=by omega
   obtain rfl:s=r:=by have:=HA.out;simpa [impl_setThat.l] using this
   clear HA au hNw;go_wp2;go_ret;exact⟨rfl,HB.out⟩
  |succ n=>
   have a6:x<(N:Int):=by omega
   have a7:x≤7:=by omega
   obtain⟨b,hb,aj⟩:=Option.bind_eq_some_iff.mp (show((p x).bind fun b=>impl_setThat.l p n (x+1) (if b=true then Go.bits .or .i64 s (shl .i64 1 x)else s))=some r from HA.out);have ak:=HP.out wr x b HB.out hb;have HRest:=Asd.mk aj;clear aj hb HA HP au hNw;have px:=eq_true aQ;cases b with
   |true=>
    obtain⟨j,hj⟩:∃j:Int,shl .i64 1 x=j:=⟨_,rfl⟩;have av:Asd (impl_setThat.l p n (x+1) (Go.bits .or .i64 s j)=some r):=⟨by have:=HRest.out;rw[if_pos rfl,hj]at this;exact this⟩;have aw:IntKind.i64.wrap (2^min x.toNat 64)=j:=by have h_:IntKind.i64.wrap (1*2^min x.toNat 64)=j:=hj;rw[Int.one_mul]at h_;exact h_
    have aR:IntKind.i64.wrap (2^x.toNat)=j:=by rw[←aw,show min x.toNat 64=x.toNat from by omega]
    have a8:wrap64 (2^x.toNat)=j:=(i64_w _).symm.trans aR;have ba:wrap64 (2^min x.toNat 64)=j:=(i64_w _).symm.trans aw;clear hj HRest;go_wp2_with fail;refine ak.mono ?_;rintro e w' ⟨rfl,hb'⟩;go_wp2_with fail;go_roundg n
    case measure=>omega
    case rel=>exact⟨n,x+1,_,by omega,by omega,Nat.le_refl _,(by first|rfl|(simp;done)|(simp[*];done)),by go_num,⟨below_then HB.out HB.out.size hb'⟩,av⟩
   |false=>
    have av:Asd (impl_setThat.l p n (x+1) s=some r):=⟨by have:=HRest.out;simpa using this⟩;clear HRest;go_wp2_with fail;refine ak.mono ?_;rintro e w' ⟨rfl,hb'⟩;go_wp2_with fail;go_roundg n
    case measure=>omega
    case rel=>exact⟨n,x+1,_,by omega,by omega,Nat.le_refl _,(by first|rfl|(simp;done)|(simp[*];done)),by go_num,⟨below_then HB.out HB.out.size hb'⟩,av⟩

/-- A state of type 130 at block g of W; what its slices lead to came in by w0. -/
def IsS130 (w0 W:World) (g:Nat) (f0:Int) (f1:ByteArray) (f2:Int):Prop:=W.heap[g]?=some (.cells #[.int .i64 f0,.string f1,.int .i64 f2] 130 (0,0))∧w0.heap.size≤g
theorem IsS130.grown {w0 W:World} {g:Nat} {f0:Int} {f1:ByteArray} {f2:Int} {W1:World} {row:Option Nat} (h:IsS130 w0 W g f0 f1 f2) (hw:W.grownBy W1 row) (al:some g≠row):IsS130 w0 W1 g f0 f1 f2:=by
 obtain⟨hb,hg⟩:=h;exact⟨blk_grown hb hw al,hg⟩
theorem IsS130.own_neN {w0 W:World} {g:Nat} {f0:Int} {f1:ByteArray} {f2:Int} {α:Type} {d:Kd α} {e:Nat} {base:Nat} {ok:Nat→Prop} {v:Value} {xs:List α} (h:IsS130 w0 W g f0 f1 f2) (ho:Kd.N d e W base ok v xs) (ht:e≠130):some g≠v.ownBlock:=by
 obtain⟨hb,hg⟩:=h;exact Kd.N_ne ho hb ht
theorem IsS130.fresh {w0 W:World} {g:Nat} {f0:Int} {f1:ByteArray} {f2:Int} (h:IsS130 w0 W g f0 f1 f2):∀k,W.heap.size≤k→k≠g:=by
 obtain⟨hb,hg⟩:=h;exact Kd.freshB hb
theorem IsS130.kept {w0 W:World} {g:Nat} {f0:Int} {f1:ByteArray} {f2:Int} {W1:World} {S:Nat→Prop} (h:IsS130 w0 W g f0 f1 f2) (hk:Kept W W1 S) (al:¬S g):IsS130 w0 W1 g f0 f1 f2:=by
 obtain⟨hb,hg⟩:=h;exact⟨blk_kept hb hk al,hg⟩
theorem IsS130.below {w0 W:World} {g:Nat} {f0:Int} {f1:ByteArray} {f2:Int} {W1:World} (h:IsS130 w0 W g f0 f1 f2) (hw:Below W.heap.size W W1):IsS130 w0 W1 g f0 f1 f2:=h.grown (grown_of_below hw none) (by simp)
theorem IsS130.bX {w0 W:World} {g:Nat} {f0:Int} {f1:ByteArray} {f2:Int} {W1:World} [s:StB W W1] (h:IsS130 w0 W g f0 f1 f2):IsS130 w0 W1 g f0 f1 f2:=h.below s.b
theorem IsS130.alloc {w0 W:World} {g:Nat} {f0:Int} {f1:ByteArray} {f2:Int} (h:IsS130 w0 W g f0 f1 f2) (o:Obj):IsS130 w0 (W.alloc o) g f0 f1 f2:=h.below (bwA (Below.refl _ _) o)
theorem IsS130.drewN {w0 W:World} {g:Nat} {f0:Int} {f1:ByteArray} {f2:Int} (h:IsS130 w0 W g f0 f1 f2) (m:Nat):IsS130 w0 (W.drewN m) g f0 f1 f2:=h
theorem IsS130.drew {w0 W:World} {g:Nat} {f0:Int} {f1:ByteArray} {f2:Int} (h:IsS130 w0 W g f0 f1 f2):IsS130 w0 W.drew g f0 f1 f2:=h
theorem IsS130.at_ {w0 W:World} {g:Nat} {f0:Int} {f1:ByteArray} {f2:Int} {w':World} {m:Nat} (hq:W.drewN m=w') (h:IsS130 w0 W g f0 f1 f2):IsS130 w0 w' g f0 f1 f2:=by subst hq;exact IsS130.drewN h m
theorem IsS130.apart {w0 W:World} {g:Nat} {f0:Int} {f1:ByteArray} {f2:Int} {α:Type} {d:Kd α} {e:Nat} {base:Nat} {ok:Nat→Prop} {v:Value} {xs:List α} (h:IsS130 w0 W g f0 f1 f2) (ho:d.R e W base ok v xs) (ht:∀q,q∈e::d.E→q≠130):d.R e W base (fun k=>ok k∧k≠g) v xs:=by
 obtain⟨hb,hg⟩:=h;exact Kd.R_types ho hb ht
theorem IsS130.own_ne {w0 W:World} {g:Nat} {f0:Int} {f1:ByteArray} {f2:Int} {α:Type} {d:Kd α} {e:Nat} {base:Nat} {ok:Nat→Prop} {v:Value} {xs:List α} (h:IsS130 w0 W g f0 f1 f2) (ho:d.R e W base ok v xs) (ht:e≠130):some g≠v.ownBlock:=by
 obtain⟨hb,hg⟩:=h;exact Kd.R_ne ho hb ht
theorem IsS130.apartQ {w0 W:World} {g:Nat} {f0:Int} {f1:ByteArray} {f2:Int} {α:Type} {d:Kd α} {e:Nat} {base:Nat} {ok:Nat→Prop} {v:Value} {xs:List α} (h:IsS130 w0 W g f0 f1 f2) (ho:d.Q e W base ok v xs) (ht:∀q,q∈e::d.E→q≠130):d.Q e W base (fun k=>ok k∧k≠g) v xs:=by
 obtain⟨hb,hg⟩:=h;exact Kd.Q_types ho hb ht
theorem IsS130.own_neQ {w0 W:World} {g:Nat} {f0:Int} {f1:ByteArray} {f2:Int} {α:Type} {d:Kd α} {e:Nat} {base:Nat} {ok:Nat→Prop} {v:Value} {xs:List α} (h:IsS130 w0 W g f0 f1 f2) (ho:d.Q e W base ok v xs) (ht:e≠130):some g≠v.ownBlock:=by
 obtain⟨hb,hg⟩:=h;exact Kd.Q_ne ho hb ht
theorem IsS130.apartS {w0 W:World} {g:Nat} {f0:Int} {f1:ByteArray} {f2:Int} {α:Type} {d:Kd α} {e:Nat} {base:Nat} {ok:Nat→Prop} {v:Value} {xs:List α} (h:IsS130 w0 W g f0 f1 f2) (ho:d.S e W base ok v xs) (ht:∀q,q∈e::d.E→q≠130):d.S e W base (fun k=>ok k∧k≠g) v xs:=by
 obtain⟨hb,hg⟩:=h;exact Kd.S_types ho hb ht
theorem IsS130.own_neS {w0 W:World} {g:Nat} {f0:Int} {f1:ByteArray} {f2:Int} {α:Type} {d:Kd α} {e:Nat} {base:Nat} {ok:Nat→Prop} {v:Value} {xs:List α} (h:IsS130 w0 W g f0 f1 f2) (ho:d.S e W base ok v xs) (ht:e≠130):some g≠v.ownBlock:=by
 obtain⟨hb,hg⟩:=h;exact Kd.S_ne ho hb ht
theorem IsS130.lt {w0 W:World} {g:Nat} {f0:Int} {f1:ByteArray} {f2:Int} (h:IsS130 w0 W g f0 f1 f2):g<W.heap.size:=by
 obtain⟨hb,hg⟩:=h;exact bkL hb
theorem IsS130.ge {w0 W:World} {g:Nat} {f0:Int} {f1:ByteArray} {f2:Int} (h:IsS130 w0 W g f0 f1 f2):w0.heap.size≤g:=by
 obtain⟨hb,hg⟩:=h;exact hg
theorem IsS130.ne_blk {w0 W:World} {g:Nat} {f0:Int} {f1:ByteArray} {f2:Int} {a:Nat} {cs:Array Value} {t:TypeId} {fr:Nat×Nat} (h:IsS130 w0 W g f0 f1 f2) (an:W.heap[a]?=some (.cells cs t fr)) (ht:t≠130):g≠a:=by
 obtain⟨hb,hg⟩:=h;rintro rfl;rw[hb]at an;injection an with an
 injection an with _ ht2
 exact ht ht2.symm
theorem IsS130.far {w0 W:World} {g:Nat} {f0:Int} {f1:ByteArray} {f2:Int} {p:Addr} (h:IsS130 w0 W g f0 f1 f2) (al:g≠p.block) (u:Value):IsS130 w0 (W.setCell p u) g f0 f1 f2:=by
 obtain⟨hb,hg⟩:=h;exact⟨bkR hb al u,hg⟩
theorem cellS130_0 {W:World} {g:Nat} {f0:Int} {f1:ByteArray} {f2:Int} (h:W.heap[g]?=some (.cells #[.int .i64 f0,.string f1,.int .i64 f2] 130 (0,0))):W.cell? ⟨g,0,none⟩=some (.int .i64 f0):=(bkC h 0).trans rfl
theorem IsS130.set_0 {w0 W:World} {g:Nat} {f0:Int} {f1:ByteArray} {f2:Int} (h:IsS130 w0 W g f0 f1 f2) (x:Int):IsS130 w0 (W.setCell ⟨g,0,none⟩ (.int .i64 x)) g x f1 f2:=by
 obtain⟨hb,hg⟩:=h;exact⟨by simpa using blk_set hb 0 (.int .i64 x),hg⟩
theorem cellS130_1 {W:World} {g:Nat} {f0:Int} {f1:ByteArray} {f2:Int} (h:W.heap[g]?=some (.cells #[.int .i64 f0,.string f1,.int .i64 f2] 130 (0,0))):W.cell? ⟨g,1,none⟩=some (.string f1):=(bkC h 1).trans rfl
theorem IsS130.set_1 {w0 W:World} {g:Nat} {f0:Int} {f1:ByteArray} {f2:Int} (h:IsS130 w0 W g f0 f1 f2) (x:ByteArray):IsS130 w0 (W.setCell ⟨g,1,none⟩ (.string x)) g f0 x f2:=by
 obtain⟨hb,hg⟩:=h;exact⟨by simpa using blk_set hb 1 (.string x),hg⟩
theorem cellS130_2 {W:World} {g:Nat} {f0:Int} {f1:ByteArray} {f2:Int} (h:W.heap[g]?=some (.cells #[.int .i64 f0,.string f1,.int .i64 f2] 130 (0,0))):W.cell? ⟨g,2,none⟩=some (.int .i64 f2):=(bkC h 2).trans rfl
theorem IsS130.set_2 {w0 W:World} {g:Nat} {f0:Int} {f1:ByteArray} {f2:Int} (h:IsS130 w0 W g f0 f1 f2) (x:Int):IsS130 w0 (W.setCell ⟨g,2,none⟩ (.int .i64 x)) g f0 f1 x:=by
 obtain⟨hb,hg⟩:=h;exact⟨by simpa using blk_set hb 2 (.int .i64 x),hg⟩
theorem IsS130.new (w0 W:World) (f0:Int) (f1:ByteArray) (f2:Int) (hB:Below w0.heap.size w0 W):IsS130 w0 (W.alloc (.cells #[.int .i64 f0,.string f1,.int .i64 f2] 130)) W.heap.size f0 f1 f2:=⟨by simpa using heap_alloc_new W _,hB.size⟩

theorem IsS130.z {w0 W W':World} {g:Nat} {f0 ax:Int} {f1 ay:ByteArray} {f2 az:Int} (h:Asd (IsS130 w0 W g f0 f1 f2)) (s:IsS130 w0 W g f0 f1 f2→IsS130 w0 W' g ax ay az:=by intro h;repeat(with_reducible first|exact h|apply IsS130.bX|apply IsS130.set_0|apply IsS130.set_1|apply IsS130.set_2|refine IsS130.far ?_ aX _)):IsS130 w0 W' g ax ay az:=s h.out
/-! ### impl_sentenceReader_next: function 149 -/
def impl_sentenceReader_next.f (aa:Int) (I:ByteArray) (J:Int):Option (Int×Int×ByteArray×Int):=if J=(I.size:Int)then(some (0,aa,I,J))else(if 0≤(wrap64 ((wrap64 (J+1)) - 1))then(if(wrap64 ((wrap64 (J+1)) - 1))<(I.size:Int)then(some (bt I (wrap64 ((wrap64 (J+1)) - 1)),aa,I,wrap64 (J+1)))else(none))else(none))
set_option maxHeartbeats 8000000 in
set_option maxRecDepth 100000 in
theorem impl_sentenceReader_next.calls (g:Nat) (aa:Int) (I:ByteArray) (J:Int) (r1:Int) (r2:Int) (r3:ByteArray) (r4:Int) (w0 w:World) (hI:IsS130 w0 w g aa I J) (hB:Below w0.heap.size w0 w) (h:impl_sentenceReader_next.f aa I J=some (r1,r2,r3,r4)):
  Calls Try.prog 149 #[.pointer (some ⟨g,0,none⟩)] w fun e w'=>e= .returned (.int .u8 r1)∧IsS130 w0 w' g r2 r3 r4∧Below w0.heap.size w0 w'∧Kbt w w' g none:=by
 have ah:=Asd.mk hI;have HK:=Asd.mk (Kbt.refl w g none);have HL:=Asd.mk hB.size;clear hI;have bb:=Asd.mk hB.size;have HB:=Asd.mk hB;clear hB;have H:(if J=(I.size:Int)then(some (0,aa,I,J))else(if 0≤(wrap64 ((wrap64 (J+1)) - 1))then(if(wrap64 ((wrap64 (J+1)) - 1))<(I.size:Int)then(some (bt I (wrap64 ((wrap64 (J+1)) - 1)),aa,I,wrap64 (J+1)))else(none))else(none)))=some (r1,r2,r3,r4):=h;clear h;by_cases c2:J=(I.size:Int)
 ·rw[if_pos c2]at H;have ao:(J==(I.size:Int))=true:=beq_iff_eq.mpr c2;have aq:(J !=(I.size:Int))=false:=bne_eq_false_iff_eq.mpr c2;clear c2;simp only[Option.some.injEq,Prod.mk.injEq]at H;obtain⟨rfl,rfl,rfl,rfl⟩:=H;obtain⟨ab,aA⟩:=ah.out;have aC:=cellS130_0 ab;have aD:=cellS130_1 ab;have aE:=cellS130_2 ab;have aF:=bkF ab 0;have aG:=bkF ab 1;have aH:=bkF ab 2;clear ab aA;go_enter Try.func149,Try.ntmps149;go_wp2;repeat(go_quiet (fail);try go_wp2)
  go_ret;exact⟨by first|rfl|(simp[*,errW_none,errW_some]<;>rfl),IsS130.z ah,wI HB (IsS130.ge ah.out),kZ HK⟩
 ·rw[if_neg c2]at H;have ao:(J==(I.size:Int))=false:=beq_eq_false_iff_ne.mpr c2;have aq:(J !=(I.size:Int))=true:=bne_iff_ne.mpr c2;obtain⟨ad,af⟩:∃j_:Int,(wrap64 ((wrap64 (J+1)) - 1))=j_:=⟨_,rfl⟩;replace H:(if 0≤(ad)then(if(ad)<(I.size:Int)then(some (bt I (ad),aa,I,wrap64 (J+1)))else(none))else(none))=some (r1,r2,r3,r4):=by first|(rw[af]at H;exact H)|(simp only[af]at H⊢;exact H)
  have aS:(IntKind.i64.wrap ((wrap64 (J+1)) - 1))=ad:=(i64_w _).trans af;by_cases c5:0≤(ad);rotate_left;(rw[if_neg c5]at H;exact absurd H (by simp));rw[if_pos c5]at H;have aT:decide (0≤(ad))=true:=decide_eq_true c5;clear c5;by_cases c6:(ad)<(I.size:Int);rotate_left;(rw[if_neg c6]at H;exact absurd H (by simp));rw[if_pos c6]at H;have aU:decide ((ad)<(I.size:Int))=true:=decide_eq_true c6;clear c6;simp only[Option.some.injEq,Prod.mk.injEq]at H;obtain⟨rfl,rfl,rfl,rfl⟩:=H;obtain⟨ae,aB⟩:=ah.out;have aI:=cellS130_0 ae;have aJ:=cellS130_1 ae;have aK:=cellS130_2 ae;have aL:=bkF ae 0;have aM:=bkF ae 1;have aN:=bkF ae 2;clear ae aB;have p7:0≤((ad):Int):=odt;have q7:(ad)<(I.size:Int):=odt;have bc:=bt_at I (ad);replace p7:=eq_true p7;replace q7:=eq_true q7;go_enter Try.func149,Try.ntmps149;go_wp2;repeat(go_quiet (fail);try go_wp2)
  go_ret;exact⟨by first|rfl|(simp[errW_none,errW_some]<;>rfl)|(simp only[←af];first|rfl|(simp[errW_none,errW_some]<;>rfl))|(simp[*,errW_none,errW_some]<;>rfl),IsS130.z ah,wI HB (IsS130.ge ah.out),kZ HK⟩

end Go.Proofs.Ytihgpkohglcijaa.P
