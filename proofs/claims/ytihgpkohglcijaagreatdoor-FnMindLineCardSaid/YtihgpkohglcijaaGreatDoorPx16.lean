import Derived.Test.YtihgpkohglcijaaGreatDoorPx0
import Derived.Test.YtihgpkohglcijaaGreatDoorPx15
namespace Go.Proofs.YtihgpkohglcijaaGreatDoor.P
open Go.RowKit YtihgpkohglcijaaGreatDoorW PrintWords PrintLast PrintMore
attribute [local go_sem] max2_int min2_int max_two min_two max_three min_three max_four min_four
set_option linter.unusedVariables false
set_option linter.unusedSimpArgs false
set_option maxHeartbeats 8000000
set_option maxRecDepth 100000
def lD.f (k:Nat) (a0:ByteArray):Option (Int×ByteArray×Bool):=(strings_Cut.f a0 (⟨#[32]⟩:ByteArray)).bind fun ag=>(if ag.1.toList=([102,105,114,115,116]:List UInt8)then((jh.f k 0 ag.2.1).bind fun ak=>(if ak.toList=a0.toList then(some (0,ag.2.1,true))else(some (0,(⟨#[]⟩:ByteArray),false))))else(if ag.1.toList=([97,108,108]:List UInt8)then((jh.f k 1 ag.2.1).bind fun al=>(if al.toList=a0.toList then(some (1,ag.2.1,true))else(some (0,(⟨#[]⟩:ByteArray),false))))else(if ag.1.toList=([98,97,99,107]:List UInt8)then((jh.f k 2 ag.2.1).bind fun an=>(if an.toList=a0.toList then(some (2,ag.2.1,true))else(some (0,(⟨#[]⟩:ByteArray),false))))else(some (0,(⟨#[]⟩:ByteArray),false)))))
instance lD.mo {k a0}:ku (lD.f k a0) (lD.f (k+1) a0):=by unfold lD.f;infer_instance
theorem lD.calls (k:Nat) (a0:ByteArray) (r1:Int) (r2:ByteArray) (r3:Bool) (w:World) (h:lD.f k a0=some (r1,r2,r3)):
  Calls Tryz.prog 86 #[.string a0] w fun e w'=>e= .returned (.tuple #[.agg #[.int .i64 r1,.string r2],.bool r3])∧Below w.heap.size w w':=by
 have dB:=Tryz.underlying58;have HB:=bm (Below.refl w.heap.size w);have H:=h;clear h;unfold lD.f at H;obtain⟨⟨ai,ae,au⟩,A2,H⟩:=bE H;try dsimp only at H
 rcases iT H with⟨c3,H⟩|⟨c3,H⟩
 obtain⟨bc,bd⟩:=vl c3;clear c3;obtain⟨ak,A4,H⟩:=bE H;try dsimp only at H
 rcases iT H with⟨c5,H⟩|⟨c5,H⟩
 obtain⟨aR,bf⟩:=vl c5;clear c5;obtain⟨rfl,rfl,rfl⟩:=s3 H
 rotate_left
 obtain⟨aR,bf⟩:=vk c5;obtain⟨rfl,rfl,rfl⟩:=s3 H
 rotate_left
 obtain⟨bc,bd⟩:=vk c3;rcases iT H with⟨az,H⟩|⟨az,H⟩
 obtain⟨aU,aV⟩:=vl az;clear az;obtain⟨al,bB,H⟩:=bE H;try dsimp only at H
 rcases iT H with⟨aA,H⟩|⟨aA,H⟩
 obtain⟨aW,aY⟩:=vl aA;clear aA;obtain⟨rfl,rfl,rfl⟩:=s3 H
 rotate_left
 obtain⟨aW,aY⟩:=vk aA;obtain⟨rfl,rfl,rfl⟩:=s3 H
 rotate_left
 obtain⟨aU,aV⟩:=vk az;rcases iT H with⟨aB,H⟩|⟨aB,H⟩
 obtain⟨aZ,a1⟩:=vl aB;clear aB;obtain⟨an,cf,H⟩:=bE H;try dsimp only at H
 rcases iT H with⟨aC,H⟩|⟨aC,H⟩
 obtain⟨a6,a7⟩:=vl aC;clear aC;obtain⟨rfl,rfl,rfl⟩:=s3 H
 rotate_left
 obtain⟨a6,a7⟩:=vk aC;obtain⟨rfl,rfl,rfl⟩:=s3 H
 rotate_left
 obtain⟨aZ,a1⟩:=vk aB;obtain⟨rfl,rfl,rfl⟩:=s3 H
 rotate_left
 all_goals(go_enter Tryz.func86,Tryz.ntmps86;go_wp2_with (first|(refine mK 2 #[.int .i64 0,.string (⟨#[]⟩:ByteArray)] 58 ?_;intro af hg w6 J hb;have I:=bm (J);have ao:=bG HB hg;replace HB:=bW HB hb;clear hb J hg)|(refine gB (some 10) Tryz.func85 #[.string a0,.string (⟨#[32]⟩:ByteArray)] rfl ?_;(with_reducible refine(strings_Cut.calls a0 (⟨#[32]⟩:ByteArray) ai ae au _ A2.out).mono ?_);rintro e w' ⟨rfl,⟨nd,rfl⟩⟩;refine⟨_,rfl,?_⟩;(try(rw[drewN_self w6];generalize nz:World.drewN w6 _=w6;replace I:lE w6 af #[.int .i64 0,.string (⟨#[]⟩:ByteArray)] 58:=⟨by rw[←nz];exact(kS I)⟩;replace HB:gm (Below w.heap.size w w6):=⟨by rw[←nz];exact(wZ HB)⟩;clear nz)))|(refine mK 7 #[.int .i64 0,.string (⟨#[]⟩:ByteArray)] 58 ?_;intro _ hg _ J hb;have aa:=bm (J);have ar:=bG HB hg;replace HB:=bW HB hb;have ab:=bL I hg;have ad:=bM I hg;replace I:=bU I hb;clear hb J hg;obtain⟨_,_⟩:=vS ad ab;obtain⟨_,_,_,_⟩:=b2 aa;obtain⟨_,_,_,_⟩:=b2 I)|(refine gB (some 28) Tryz.func88 #[.agg #[.int .i64 0,.string ae]] rfl ?_;(with_reducible refine(jh.calls k 0 ae ak _ A4.out).mono ?_);rintro e _ ⟨rfl,hb⟩;refine⟨_,rfl,?_⟩;replace I:=bU I hb;replace aa:=bP #[.int .i64 0,.string ae] aa hb;replace HB:=bW HB hb;clear hb;obtain⟨_,_,_,_⟩:=b2 aa;obtain⟨_,_,_,_⟩:=b2 I)|(refine mK 2 #[.int .i64 0,.string (⟨#[]⟩:ByteArray)] 58 ?_;intro af hg aF J hb;have I:=bm (J);have ao:=bG HB hg;replace HB:=bW HB hb;clear hb J hg)|(refine gB (some 10) Tryz.func85 #[.string a0,.string (⟨#[32]⟩:ByteArray)] rfl ?_;(with_reducible refine(strings_Cut.calls a0 (⟨#[32]⟩:ByteArray) ai ae au _ A2.out).mono ?_);rintro e w' ⟨rfl,⟨nd,rfl⟩⟩;refine⟨_,rfl,?_⟩;(try(rw[drewN_self aF];generalize nz:World.drewN aF _=aF;replace I:lE aF af #[.int .i64 0,.string (⟨#[]⟩:ByteArray)] 58:=⟨by rw[←nz];exact(kS I)⟩;replace HB:gm (Below w.heap.size w aF):=⟨by rw[←nz];exact(wZ HB)⟩;clear nz)))|(refine gB (some 28) Tryz.func88 #[.agg #[.int .i64 1,.string ae]] rfl ?_;(with_reducible refine(jh.calls k 1 ae al _ bB.out).mono ?_);rintro e _ ⟨rfl,hb⟩;refine⟨_,rfl,?_⟩;replace I:=bU I hb;replace aa:=bP #[.int .i64 1,.string ae] aa hb;replace HB:=bW HB hb;clear hb;obtain⟨_,_,_,_⟩:=b2 aa;obtain⟨_,_,_,_⟩:=b2 I)|(refine gB (some 28) Tryz.func88 #[.agg #[.int .i64 2,.string ae]] rfl ?_;(with_reducible refine(jh.calls k 2 ae an _ cf.out).mono ?_);rintro e _ ⟨rfl,hb⟩;refine⟨_,rfl,?_⟩;replace I:=bU I hb;replace aa:=bP #[.int .i64 2,.string ae] aa hb;replace HB:=bW HB hb;clear hb;obtain⟨_,_,_,_⟩:=b2 aa;obtain⟨_,_,_,_⟩:=b2 I)))
 ·refine bodyPost_ret (results_ct rfl _ _ af 58 #[.int .i64 0,.string ae] (0,0) _ rfl (kP I) Tryz.underlying58 rfl (by kernel_rfl)) rfl ?_;exact vo HB
 ·refine bodyPost_ret (results_ct rfl _ _ af 58 #[.int .i64 0,.string (⟨#[]⟩:ByteArray)] (0,0) _ rfl (kP I) Tryz.underlying58 rfl (by kernel_rfl)) rfl ?_;exact vo HB
 ·refine bodyPost_ret (results_ct rfl _ _ af 58 #[.int .i64 1,.string ae] (0,0) _ rfl (kP I) Tryz.underlying58 rfl (by kernel_rfl)) rfl ?_;exact vo HB
 ·refine bodyPost_ret (results_ct rfl _ _ af 58 #[.int .i64 0,.string (⟨#[]⟩:ByteArray)] (0,0) _ rfl (kP I) Tryz.underlying58 rfl (by kernel_rfl)) rfl ?_;exact vo HB
 ·refine bodyPost_ret (results_ct rfl _ _ af 58 #[.int .i64 2,.string ae] (0,0) _ rfl (kP I) Tryz.underlying58 rfl (by kernel_rfl)) rfl ?_;exact vo HB
 iterate 2(refine bodyPost_ret (results_ct rfl _ _ af 58 #[.int .i64 0,.string (⟨#[]⟩:ByteArray)] (0,0) _ rfl (kP I) Tryz.underlying58 rfl (by kernel_rfl)) rfl ?_;exact vo HB)
def jb.l (p:Int→Option Bool):Nat→Int→Int→Option Int
 |0,_,s=>some s
 |n+1,x,s=>(p x).bind fun b=>jb.l p n (x+1) (if b=true then Go.bits .or .i64 s (shl .i64 1 x)else s)
def jb.f (p:Int→Option Bool) (things:Int):Option Int:=if 0≤things then(if things≤3 then jb.l p (2^things.toNat) 0 0 else none)else none
theorem jb.calls (g:Nat) (lb:Array Value) (eg:∀args w,(callFunc g args).run Tryz.prog w= .ok (.enter g args) w) (p:Int→Option Bool)
  (things:Int) (r:Int) (w:World) (hp:Hof.qL g lb p w) (h:jb.f p things=some r):
  Calls Tryz.prog 118 #[.int .i64 things,.func (.func g) #[] lb] w fun e w'=>e= .returned (.int .i64 r)∧Below w.heap.size w w':=by
 have HP:=bm hp;clear hp
 have h2:0≤things∧things≤3∧jb.l p (2^things.toNat) 0 0=some r:=by
  unfold jb.f at h;by_cases a:0≤things
  ·rw[if_pos a]at h;by_cases b:things≤3
   ·rw[if_pos b]at h;exact⟨a,b,h⟩
   ·rw[if_neg b]at h;cases h
  ·rw[if_neg a]at h;cases h
 obtain⟨h0,h3,h⟩:=h2;obtain⟨t,rfl⟩:=Int.eq_ofNat_of_zero_le h0;rw[Int.toNat_natCast]at h
 have hN:((2^t:Nat):Int)≤8∧IntKind.i64.wrap (2^min t 64)=((2^t:Nat):Int):=by
  rcases(by omega:t=0∨t=1∨t=2∨t=3)with rfl|rfl|rfl|rfl<;>exact⟨by decide,by decide+kernel⟩
 obtain⟨N,eN⟩:∃N:Nat,N=2^t:=⟨_,rfl⟩;rw[←eN]at hN h;obtain⟨dR,a8⟩:=hN;have Fi:wrap64 (2^min t 64)=(N:Int):=(i64_w _).symm.trans a8;have H':gm (jb.l p N 0 0=some r):=⟨h⟩;have dw:=vI h0;clear h h0 h3 eN;go_enter Tryz.func118,Tryz.ntmps118;go_wp2;go_loopg [5,9] N (fun gg s5 s9 wr=>∃(n:Nat) (x s:Int),0≤x∧x+n=(N:Int)∧n≤gg∧s5= .int .i64 s∧s9= .int .i64 x∧gm (Below w.heap.size w wr)∧gm (jb.l p n x s=some r))
 case atStart=>exact⟨N,0,0,by omega,by omega,Nat.le_refl _,rfl,rfl,⟨Below.refl _ _⟩,H'⟩
 case round=>
  clear H';obtain⟨n,x,s,dx,dS,hg,rfl,rfl,HB,HA⟩:=hrel;cases n with
  |zero=>
   have dT:¬x<(N:Int):=by omega
   obtain rfl:s=r:=by have:=HA.out;simpa [jb.l] using this
   clear HA a8 Fi;go_wp2;go_ret;exact⟨rfl,HB.out⟩
  |succ n=>
   have dU:x<(N:Int):=by omega
   have dV:x≤7:=by omega
   obtain⟨b,hb,aL⟩:=Option.bind_eq_some_iff.mp (show((p x).bind fun b=>jb.l p n (x+1) (if b=true then Go.bits .or .i64 s (shl .i64 1 x)else s))=some r from HA.out);have aM:=HP.out wr x b HB.out hb;have sF:=bm aL;clear aL hb HA HP a8 Fi;have px:=vI dx;cases b with
   |true=>
    obtain⟨j,hj⟩:∃j:Int,shl .i64 1 x=j:=⟨_,rfl⟩;have ba:gm (jb.l p n (x+1) (Go.bits .or .i64 s j)=some r):=⟨by have:=sF.out;rw[if_pos rfl,hj]at this;exact this⟩;have cL:IntKind.i64.wrap (2^min x.toNat 64)=j:=by have h_:IntKind.i64.wrap (1*2^min x.toNat 64)=j:=hj;rw[Int.one_mul]at h_;exact h_
    have dy:IntKind.i64.wrap (2^x.toNat)=j:=by rw[←cL,show min x.toNat 64=x.toNat from by omega]
    have dW:wrap64 (2^x.toNat)=j:=(i64_w _).symm.trans dy;have dX:wrap64 (2^min x.toNat 64)=j:=(i64_w _).symm.trans cL;clear hj sF;go_wp2_with fail;refine aM.mono ?_;rintro e w' ⟨rfl,hb'⟩;go_wp2_with fail;go_roundg n
    case measure=>omega
    case rel=>exact⟨n,x+1,_,by omega,by omega,Nat.le_refl _,(by first|rfl|(simp;done)|(simp[*];done)),by go_num,⟨below_then HB.out HB.out.size hb'⟩,ba⟩
   |false=>
    have ba:gm (jb.l p n (x+1) s=some r):=⟨by have:=sF.out;simpa using this⟩;clear sF;go_wp2_with fail;refine aM.mono ?_;rintro e w' ⟨rfl,hb'⟩;go_wp2_with fail;go_roundg n
    case measure=>omega
    case rel=>exact⟨n,x+1,_,by omega,by omega,Nat.le_refl _,(by first|rfl|(simp;done)|(simp[*];done)),by go_num,⟨below_then HB.out HB.out.size hb'⟩,ba⟩
theorem kv.wQ (x y:Int):0≤shl .u64 x y:=by
 unfold shl;rw[show IntKind.u64.wrap (x*2^min y.toNat IntKind.u64.bits)=(x*2^min y.toNat IntKind.u64.bits)%18446744073709551616 from by simp[IntKind.wrap,IntKind.bits,IntKind.signed]];exact Int.emod_nonneg _ (by decide)
def kv.f (a0:Int):Option (Int):=if 0≤a0 then(some (wrap64 ((shl .i64 1 (shl .u64 1 a0)) - 1)))else(none)
theorem kv.calls (a0:Int) (r:Int) (w:World) (h:kv.f a0=some r):
  Calls Tryz.prog 140 #[.int .i64 a0] w fun e w'=>e= .returned (.int .i64 r)∧Drawn0 w w':=by
 have H:=h;clear h;unfold kv.f at H;obtain⟨aS,aT,H⟩:=vK H;obtain rfl:=vZ H;clear H;have p:=kv.wQ 1 a0;obtain⟨aD,aN⟩:∃j_:Int,(shl .u64 1 a0)=j_:=⟨_,rfl⟩;rw[aN]at p⊢;have bb:(IntKind.u64.wrap (1*2^min a0.toNat 64))=aD:=aN;have dz:(IntKind.u64.wrap (2^min a0.toNat 64))=aD:=by have h_:=bb;rw[Int.one_mul]at h_;exact h_
 have dw:=vI p;have dY:decide (0≤aD)=true:=vG p;have dZ:decide (aD<0)=false:=vB (by omega)
 have e5:wrap64 (2^min aD.toNat 64)=shl .i64 1 aD:=by
  unfold shl;rw[i64_w,Int.one_mul];rfl
 have E5:=bm e5;clear aN p e5;go_enter Tryz.func140,Tryz.ntmps140;go_wp2;go_ret;rw[←E5.out];exact⟨rfl,Drawn0.refl _⟩
def iR (w0 W:World) (g:Nat) (f0:Int) (f1:ByteArray) (f2:Int):Prop:=W.heap[g]?=some (.cells #[.int .i64 f0,.string f1,.int .i64 f2] 120 (0,0))∧w0.heap.size≤g
theorem iR.grown {w0 W:World} {g:Nat} {f0:Int} {f1:ByteArray} {f2:Int} {W1:World} {row:Option Nat} (h:iR w0 W g f0 f1 f2) (hw:W.grownBy W1 row) (aO:some g≠row):iR w0 W1 g f0 f1 f2:=by
 obtain⟨hb,hg⟩:=h;exact⟨blk_grown hb hw aO,hg⟩
theorem iR.Ad {w0 W:World} {g:Nat} {f0:Int} {f1:ByteArray} {f2:Int} {α:Type} {d:Kd α} {e:Nat} {base:Nat} {ok:Nat→Prop} {v:Value} {xs:List α} (h:iR w0 W g f0 f1 f2) (ho:Kd.N d e W base ok v xs) (ht:e≠120):some g≠v.ownBlock:=by
 obtain⟨hb,hg⟩:=h;exact Kd.N_ne ho hb ht
theorem iR.fresh {w0 W:World} {g:Nat} {f0:Int} {f1:ByteArray} {f2:Int} (h:iR w0 W g f0 f1 f2):∀k,W.heap.size≤k→k≠g:=by
 obtain⟨hb,hg⟩:=h;exact Kd.freshB hb
theorem iR.kept {w0 W:World} {g:Nat} {f0:Int} {f1:ByteArray} {f2:Int} {W1:World} {S:Nat→Prop} (h:iR w0 W g f0 f1 f2) (hk:Kept W W1 S) (aO:¬S g):iR w0 W1 g f0 f1 f2:=by
 obtain⟨hb,hg⟩:=h;exact⟨blk_kept hb hk aO,hg⟩
theorem iR.below {w0 W:World} {g:Nat} {f0:Int} {f1:ByteArray} {f2:Int} {W1:World} (h:iR w0 W g f0 f1 f2) (hw:Below W.heap.size W W1):iR w0 W1 g f0 f1 f2:=h.grown (grown_of_below hw none) (by simp)
theorem iR.bX {w0 W:World} {g:Nat} {f0:Int} {f1:ByteArray} {f2:Int} {W1:World} [s:yJ W W1] (h:iR w0 W g f0 f1 f2):iR w0 W1 g f0 f1 f2:=h.below s.b
theorem iR.alloc {w0 W:World} {g:Nat} {f0:Int} {f1:ByteArray} {f2:Int} (h:iR w0 W g f0 f1 f2) (o:Obj):iR w0 (W.alloc o) g f0 f1 f2:=h.below (xA (Below.refl _ _) o)
theorem iR.drewN {w0 W:World} {g:Nat} {f0:Int} {f1:ByteArray} {f2:Int} (h:iR w0 W g f0 f1 f2) (m:Nat):iR w0 (W.drewN m) g f0 f1 f2:=h
theorem iR.drew {w0 W:World} {g:Nat} {f0:Int} {f1:ByteArray} {f2:Int} (h:iR w0 W g f0 f1 f2):iR w0 W.drew g f0 f1 f2:=h
theorem iR.at_ {w0 W:World} {g:Nat} {f0:Int} {f1:ByteArray} {f2:Int} {w':World} {m:Nat} (hq:W.drewN m=w') (h:iR w0 W g f0 f1 f2):iR w0 w' g f0 f1 f2:=by subst hq;exact iR.drewN h m
theorem iR.apart {w0 W:World} {g:Nat} {f0:Int} {f1:ByteArray} {f2:Int} {α:Type} {d:Kd α} {e:Nat} {base:Nat} {ok:Nat→Prop} {v:Value} {xs:List α} (h:iR w0 W g f0 f1 f2) (ho:d.R e W base ok v xs) (ht:∀q,q∈e::d.E→q≠120):d.R e W base (fun k=>ok k∧k≠g) v xs:=by
 obtain⟨hb,hg⟩:=h;exact Kd.R_types ho hb ht
theorem iR.own_ne {w0 W:World} {g:Nat} {f0:Int} {f1:ByteArray} {f2:Int} {α:Type} {d:Kd α} {e:Nat} {base:Nat} {ok:Nat→Prop} {v:Value} {xs:List α} (h:iR w0 W g f0 f1 f2) (ho:d.R e W base ok v xs) (ht:e≠120):some g≠v.ownBlock:=by
 obtain⟨hb,hg⟩:=h;exact Kd.R_ne ho hb ht
theorem iR.nI {w0 W:World} {g:Nat} {f0:Int} {f1:ByteArray} {f2:Int} {α:Type} {d:Kd α} {e:Nat} {base:Nat} {ok:Nat→Prop} {v:Value} {xs:List α} (h:iR w0 W g f0 f1 f2) (ho:d.Q e W base ok v xs) (ht:∀q,q∈e::d.E→q≠120):d.Q e W base (fun k=>ok k∧k≠g) v xs:=by
 obtain⟨hb,hg⟩:=h;exact Kd.Q_types ho hb ht
theorem iR.xD {w0 W:World} {g:Nat} {f0:Int} {f1:ByteArray} {f2:Int} {α:Type} {d:Kd α} {e:Nat} {base:Nat} {ok:Nat→Prop} {v:Value} {xs:List α} (h:iR w0 W g f0 f1 f2) (ho:d.Q e W base ok v xs) (ht:e≠120):some g≠v.ownBlock:=by
 obtain⟨hb,hg⟩:=h;exact Kd.Q_ne ho hb ht
theorem iR.yU {w0 W:World} {g:Nat} {f0:Int} {f1:ByteArray} {f2:Int} {α:Type} {d:Kd α} {e:Nat} {base:Nat} {ok:Nat→Prop} {v:Value} {xs:List α} (h:iR w0 W g f0 f1 f2) (ho:d.S e W base ok v xs) (ht:∀q,q∈e::d.E→q≠120):d.S e W base (fun k=>ok k∧k≠g) v xs:=by
 obtain⟨hb,hg⟩:=h;exact Kd.S_types ho hb ht
theorem iR.Ae {w0 W:World} {g:Nat} {f0:Int} {f1:ByteArray} {f2:Int} {α:Type} {d:Kd α} {e:Nat} {base:Nat} {ok:Nat→Prop} {v:Value} {xs:List α} (h:iR w0 W g f0 f1 f2) (ho:d.S e W base ok v xs) (ht:e≠120):some g≠v.ownBlock:=by
 obtain⟨hb,hg⟩:=h;exact Kd.S_ne ho hb ht
theorem iR.lt {w0 W:World} {g:Nat} {f0:Int} {f1:ByteArray} {f2:Int} (h:iR w0 W g f0 f1 f2):g<W.heap.size:=by
 obtain⟨hb,hg⟩:=h;exact yN hb
theorem iR.ge {w0 W:World} {g:Nat} {f0:Int} {f1:ByteArray} {f2:Int} (h:iR w0 W g f0 f1 f2):w0.heap.size≤g:=by
 obtain⟨hb,hg⟩:=h;exact hg
theorem iR.wO {w0 W:World} {g:Nat} {f0:Int} {f1:ByteArray} {f2:Int} {a:Nat} {cs:Array Value} {t:TypeId} {fr:Nat×Nat} (h:iR w0 W g f0 f1 f2) (aP:W.heap[a]?=some (.cells cs t fr)) (ht:t≠120):g≠a:=by
 obtain⟨hb,hg⟩:=h;rintro rfl;rw[hb]at aP;injection aP with aP
 injection aP with _ ht2
 exact ht ht2.symm
theorem iR.far {w0 W:World} {g:Nat} {f0:Int} {f1:ByteArray} {f2:Int} {p:Addr} (h:iR w0 W g f0 f1 f2) (aO:g≠p.block) (u:Value):iR w0 (W.setCell p u) g f0 f1 f2:=by
 obtain⟨hb,hg⟩:=h;exact⟨zY hb aO u,hg⟩
theorem pS {W:World} {g:Nat} {f0:Int} {f1:ByteArray} {f2:Int} (h:W.heap[g]?=some (.cells #[.int .i64 f0,.string f1,.int .i64 f2] 120 (0,0))):W.cell? ⟨g,0,none⟩=some (.int .i64 f0):=(ja h 0).trans rfl
theorem iR.Dh {w0 W:World} {g:Nat} {f0:Int} {f1:ByteArray} {f2:Int} (h:iR w0 W g f0 f1 f2) (x:Int):iR w0 (W.setCell ⟨g,0,none⟩ (.int .i64 x)) g x f1 f2:=by
 obtain⟨hb,hg⟩:=h;exact⟨by simpa using blk_set hb 0 (.int .i64 x),hg⟩
theorem sG {W:World} {g:Nat} {f0:Int} {f1:ByteArray} {f2:Int} (h:W.heap[g]?=some (.cells #[.int .i64 f0,.string f1,.int .i64 f2] 120 (0,0))):W.cell? ⟨g,1,none⟩=some (.string f1):=(ja h 1).trans rfl
theorem iR.oH {w0 W:World} {g:Nat} {f0:Int} {f1:ByteArray} {f2:Int} (h:iR w0 W g f0 f1 f2) (x:ByteArray):iR w0 (W.setCell ⟨g,1,none⟩ (.string x)) g f0 x f2:=by
 obtain⟨hb,hg⟩:=h;exact⟨by simpa using blk_set hb 1 (.string x),hg⟩
theorem qM {W:World} {g:Nat} {f0:Int} {f1:ByteArray} {f2:Int} (h:W.heap[g]?=some (.cells #[.int .i64 f0,.string f1,.int .i64 f2] 120 (0,0))):W.cell? ⟨g,2,none⟩=some (.int .i64 f2):=(ja h 2).trans rfl
theorem iR.Di {w0 W:World} {g:Nat} {f0:Int} {f1:ByteArray} {f2:Int} (h:iR w0 W g f0 f1 f2) (x:Int):iR w0 (W.setCell ⟨g,2,none⟩ (.int .i64 x)) g f0 f1 x:=by
 obtain⟨hb,hg⟩:=h;exact⟨by simpa using blk_set hb 2 (.int .i64 x),hg⟩
theorem iR.new (w0 W:World) (f0:Int) (f1:ByteArray) (f2:Int) (hB:Below w0.heap.size w0 W):iR w0 (W.alloc (.cells #[.int .i64 f0,.string f1,.int .i64 f2] 120)) W.heap.size f0 f1 f2:=⟨by simpa using heap_alloc_new W _,hB.size⟩
theorem iR.z {w0 W W':World} {g:Nat} {f0 cM:Int} {f1 cN:ByteArray} {f2 cO:Int} (h:gm (iR w0 W g f0 f1 f2)) (s:iR w0 W g f0 f1 f2→iR w0 W' g cM cN cO:=by intro h;repeat(with_reducible first|exact h|apply iR.bX|apply iR.Dh|apply iR.oH|apply iR.Di|refine iR.far ?_ aX _)):iR w0 W' g cM cN cO:=s h.out
theorem iR.y {w0 W W':World} {g:Nat} {f0:Int} {f1:ByteArray} {f2:Int} (h:gm (iR w0 W g f0 f1 f2)) (s:iR w0 W g f0 f1 f2→iR w0 W' g f0 f1 f2:=by intro h;repeat(with_reducible first|exact h|apply iR.bX|refine iR.far ?_ aX _)):iR w0 W' g f0 f1 f2:=s h.out
def iP.f (av:Int) (aj:ByteArray) (ah:Int):Option (Int×Int×ByteArray×Int):=if ah=(aj.size:Int)then(some (0,av,aj,ah))else(if 0≤(wrap64 ((wrap64 (ah+1)) - 1))then(if(wrap64 ((wrap64 (ah+1)) - 1))<(aj.size:Int)then(some (bt aj (wrap64 ((wrap64 (ah+1)) - 1)),av,aj,wrap64 (ah+1)))else(none))else(none))
theorem iP.calls (g:Nat) (av:Int) (aj:ByteArray) (ah:Int) (r1:Int) (r2:Int) (r3:ByteArray) (r4:Int) (w0 w:World) (hI:iR w0 w g av aj ah) (hB:Below w0.heap.size w0 w) (h:iP.f av aj ah=some (r1,r2,r3,r4)):
  Calls Tryz.prog 141 #[.pointer (some ⟨g,0,none⟩)] w fun e w'=>e= .returned (.int .u8 r1)∧iR w0 w' g r2 r3 r4∧Below w0.heap.size w0 w'∧jZ w w' g none:=by
 have aE:=bm hI;have HK:=bm (jZ.refl w g none);have HL:=bm hB.size;clear hI;have ea:=bm hB.size;have HB:=bm hB;clear hB;have H:=h;clear h;unfold iP.f at H;rcases iT H with⟨c2,H⟩|⟨c2,H⟩
 ·obtain⟨aS,aT⟩:=vl c2;clear c2;obtain⟨rfl,rfl,rfl,rfl⟩:=s4 H;obtain⟨aw,cP⟩:=aE.out;have cV:=pS aw;have cW:=sG aw;have cX:=qM aw;have c0:=nA aw 0;have c1:=nA aw 1;have da:=nA aw 2;clear aw cP;go_enter Tryz.func141,Tryz.ntmps141;go_wp2;repeat(go_quiet (fail);try go_wp2)
  go_ret;exact⟨by first|rfl|(simp[*,fM,fN]<;>rfl),iR.z aE,wI HB (iR.ge aE.out),kZ HK⟩
 ·obtain⟨aS,aT⟩:=vk c2;obtain⟨aQ,ay⟩:∃j_:Int,(wrap64 ((wrap64 (ah+1)) - 1))=j_:=⟨_,rfl⟩;first|rw[ay]at H|simp only[ay]at H
  have dA:(IntKind.i64.wrap ((wrap64 (ah+1)) - 1))=aQ:=(i64_w _).trans ay;obtain⟨aR,H⟩:=vJ H;obtain⟨dE,H⟩:=vJ H;obtain⟨rfl,rfl,rfl,rfl⟩:=s4 H;obtain⟨ax,cQ⟩:=aE.out;have db:=pS ax;have dc:=sG ax;have dd:=qM ax;have de:=nA ax 0;have df:=nA ax 1;have dh:=nA ax 2;clear ax cQ;have p7:0≤((aQ):Int):=jK;have q7:(aQ)<(aj.size:Int):=jK;have eb:=bt_at aj (aQ);replace p7:=vI p7;replace q7:=vI q7;go_enter Tryz.func141,Tryz.ntmps141;go_wp2;repeat(go_quiet (fail);try go_wp2)
  go_ret;exact⟨by first|rfl|(simp[fM,fN]<;>rfl)|(simp only[←ay];first|rfl|(simp[fM,fN]<;>rfl))|(simp[*,fM,fN]<;>rfl),iR.z aE,wI HB (iR.ge aE.out),kZ HK⟩
end Go.Proofs.YtihgpkohglcijaaGreatDoor.P
