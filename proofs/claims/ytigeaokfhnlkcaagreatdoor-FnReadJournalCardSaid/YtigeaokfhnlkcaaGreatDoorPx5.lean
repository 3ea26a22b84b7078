import Derived.Test.YtigeaokfhnlkcaaGreatDoorPx0
import Derived.Test.YtigeaokfhnlkcaaGreatDoorPx4
namespace Go.Proofs.YtigeaokfhnlkcaaGreatDoor.P
open Go.RowKit YtigeaokfhnlkcaaGreatDoorW PrintWords PrintLast PrintMore
attribute [local go_sem] max2_int min2_int max_two min_two max_three min_three max_four min_four
set_option linter.unusedVariables false
set_option linter.unusedSimpArgs false
set_option maxHeartbeats 8000000
set_option maxRecDepth 100000
def oF.f (k:Nat) (a0:ByteArray):Option (Int×ByteArray×Bool):=(strings_Cut.f a0 (⟨#[32]⟩:ByteArray)).bind fun af=>(if af.1.toList=([102,105,114,115,116]:List UInt8)then((ng.f k 0 af.2.1).bind fun t195=>(if t195.toList=a0.toList then(some (0,af.2.1,true))else(some (0,(⟨#[]⟩:ByteArray),false))))else(if af.1.toList=([97,108,108]:List UInt8)then((ng.f k 1 af.2.1).bind fun t196=>(if t196.toList=a0.toList then(some (1,af.2.1,true))else(some (0,(⟨#[]⟩:ByteArray),false))))else(if af.1.toList=([98,97,99,107]:List UInt8)then((ng.f k 2 af.2.1).bind fun t197=>(if t197.toList=a0.toList then(some (2,af.2.1,true))else(some (0,(⟨#[]⟩:ByteArray),false))))else(some (0,(⟨#[]⟩:ByteArray),false)))))
instance oF.mo {k a0}:ph (oF.f k a0) (oF.f (k+1) a0):=by unfold oF.f;infer_instance
theorem oF.calls (k:Nat) (a0:ByteArray) (r1:Int) (r2:ByteArray) (r3:Bool) (w:World) (h:oF.f k a0=some (r1,r2,r3)):
  Calls Tryz.prog 40 #[.string a0] w fun e w'=>e= .returned (.tuple #[.agg #[.int .i64 r1,.string r2],.bool r3])∧Below w.heap.size w w':=by
 have du:=Tryz.underlying47;have HB:=bm (Below.refl w.heap.size w);have H:=h;clear h;unfold oF.f at H;obtain⟨⟨t191,t192,t193⟩,A2,H⟩:=bE H;try dsimp only at H
 rcases iT H with⟨c3,H⟩|⟨c3,H⟩
 ·obtain⟨a1,a6⟩:=nL c3;clear c3;obtain⟨t195,A4,H⟩:=bE H;try dsimp only at H
  rcases iT H with⟨c5,H⟩|⟨c5,H⟩
  ·obtain⟨aL,a7⟩:=nL c5;clear c5;obtain⟨rfl,rfl,rfl⟩:=s3 H;go_enter Tryz.func40,Tryz.ntmps40;go_wp2_with (first|(refine pN 2 #[.int .i64 0,.string (⟨#[]⟩:ByteArray)] 47 ?_;intro ae hg w6 J hb;have I:=bm (J);have ai:=bG HB hg;replace HB:=bW HB hb;clear hb J hg)|(refine gB (some 10) Tryz.func39 #[.string a0,.string (⟨#[32]⟩:ByteArray)] rfl ?_;(with_reducible refine(strings_Cut.calls a0 (⟨#[32]⟩:ByteArray) t191 t192 t193 _ A2.out).mono ?_);rintro e w' ⟨rfl,⟨nd,rfl⟩⟩;refine⟨_,rfl,?_⟩;(try(rw[drewN_self w6];generalize qt:World.drewN w6 _=w6;replace I:pK w6 ae #[.int .i64 0,.string (⟨#[]⟩:ByteArray)] 47:=⟨by rw[←qt];exact(kS I)⟩;replace HB:kn (Below w.heap.size w w6):=⟨by rw[←qt];exact(wZ HB)⟩;clear qt)))|(refine pN 7 #[.int .i64 0,.string (⟨#[]⟩:ByteArray)] 47 ?_;intro aj hg w7 J hb;have aa:=bm (J);have ak:=bG HB hg;replace HB:=bW HB hb;have ab:=bL I hg;have ad:=bM I hg;replace I:=bU I hb;clear hb J hg;obtain⟨_,_⟩:=nC ad ab;obtain⟨cL,cM,cN,cO⟩:=b2 aa)|(refine gB (some 28) Tryz.func43 #[.agg #[.int .i64 0,.string t192]] rfl ?_;(with_reducible refine(ng.calls k 0 t192 t195 _ A4.out).mono ?_);rintro e dy ⟨rfl,hb⟩;refine⟨_,rfl,?_⟩;replace I:=bU I hb;replace aa:=bP #[.int .i64 0,.string t192] aa hb;replace HB:=bW HB hb;clear hb;obtain⟨a8,ba,bb,bc⟩:=b2 aa;obtain⟨bd,bf,bg,bh⟩:=b2 I));refine bodyPost_ret (results_ct rfl _ _ ae 47 #[.int .i64 0,.string t192] (0,0) _ rfl (kP I) Tryz.underlying47 rfl (by kernel_rfl)) rfl ?_;exact rz HB
  ·obtain⟨aL,a7⟩:=nK c5;obtain⟨rfl,rfl,rfl⟩:=s3 H;go_enter Tryz.func40,Tryz.ntmps40;go_wp2_with (first|(refine pN 2 #[.int .i64 0,.string (⟨#[]⟩:ByteArray)] 47 ?_;intro ae hg az J hb;have I:=bm (J);have ai:=bG HB hg;replace HB:=bW HB hb;clear hb J hg)|(refine gB (some 10) Tryz.func39 #[.string a0,.string (⟨#[32]⟩:ByteArray)] rfl ?_;(with_reducible refine(strings_Cut.calls a0 (⟨#[32]⟩:ByteArray) t191 t192 t193 _ A2.out).mono ?_);rintro e w' ⟨rfl,⟨nd,rfl⟩⟩;refine⟨_,rfl,?_⟩;(try(rw[drewN_self az];generalize qt:World.drewN az _=az;replace I:pK az ae #[.int .i64 0,.string (⟨#[]⟩:ByteArray)] 47:=⟨by rw[←qt];exact(kS I)⟩;replace HB:kn (Below w.heap.size w az):=⟨by rw[←qt];exact(wZ HB)⟩;clear qt)))|(refine pN 7 #[.int .i64 0,.string (⟨#[]⟩:ByteArray)] 47 ?_;intro aj hg dz J hb;have aa:=bm (J);have ak:=bG HB hg;replace HB:=bW HB hb;have ab:=bL I hg;have ad:=bM I hg;replace I:=bU I hb;clear hb J hg;obtain⟨_,_⟩:=nC ad ab;obtain⟨bj,bk,bl,bn⟩:=b2 aa)|(refine gB (some 28) Tryz.func43 #[.agg #[.int .i64 0,.string t192]] rfl ?_;(with_reducible refine(ng.calls k 0 t192 t195 _ A4.out).mono ?_);rintro e dA ⟨rfl,hb⟩;refine⟨_,rfl,?_⟩;replace I:=bU I hb;replace aa:=bP #[.int .i64 0,.string t192] aa hb;replace HB:=bW HB hb;clear hb;obtain⟨bo,bp,bq,br⟩:=b2 I));refine bodyPost_ret (results_ct rfl _ _ ae 47 #[.int .i64 0,.string (⟨#[]⟩:ByteArray)] (0,0) _ rfl (kP I) Tryz.underlying47 rfl (by kernel_rfl)) rfl ?_;exact rz HB
 ·obtain⟨a1,a6⟩:=nK c3;rcases iT H with⟨ar,H⟩|⟨ar,H⟩
  ·obtain⟨aO,aP⟩:=nL ar;clear ar;obtain⟨t196,bs,H⟩:=bE H;try dsimp only at H
   rcases iT H with⟨au,H⟩|⟨au,H⟩
   ·obtain⟨aQ,aR⟩:=nL au;clear au;obtain⟨rfl,rfl,rfl⟩:=s3 H;go_enter Tryz.func40,Tryz.ntmps40;go_wp2_with (first|(refine pN 2 #[.int .i64 0,.string (⟨#[]⟩:ByteArray)] 47 ?_;intro ae hg aA J hb;have I:=bm (J);have ai:=bG HB hg;replace HB:=bW HB hb;clear hb J hg)|(refine gB (some 10) Tryz.func39 #[.string a0,.string (⟨#[32]⟩:ByteArray)] rfl ?_;(with_reducible refine(strings_Cut.calls a0 (⟨#[32]⟩:ByteArray) t191 t192 t193 _ A2.out).mono ?_);rintro e w' ⟨rfl,⟨nd,rfl⟩⟩;refine⟨_,rfl,?_⟩;(try(rw[drewN_self aA];generalize qt:World.drewN aA _=aA;replace I:pK aA ae #[.int .i64 0,.string (⟨#[]⟩:ByteArray)] 47:=⟨by rw[←qt];exact(kS I)⟩;replace HB:kn (Below w.heap.size w aA):=⟨by rw[←qt];exact(wZ HB)⟩;clear qt)))|(refine pN 7 #[.int .i64 0,.string (⟨#[]⟩:ByteArray)] 47 ?_;intro aj hg dB J hb;have aa:=bm (J);have ak:=bG HB hg;replace HB:=bW HB hb;have ab:=bL I hg;have ad:=bM I hg;replace I:=bU I hb;clear hb J hg;obtain⟨_,_⟩:=nC ad ab;obtain⟨bu,bw,bx,bz⟩:=b2 aa)|(refine gB (some 28) Tryz.func43 #[.agg #[.int .i64 1,.string t192]] rfl ?_;(with_reducible refine(ng.calls k 1 t192 t196 _ bs.out).mono ?_);rintro e dC ⟨rfl,hb⟩;refine⟨_,rfl,?_⟩;replace I:=bU I hb;replace aa:=bP #[.int .i64 1,.string t192] aa hb;replace HB:=bW HB hb;clear hb;obtain⟨bA,bB,bD,bF⟩:=b2 aa;obtain⟨bH,bJ,bO,bT⟩:=b2 I));refine bodyPost_ret (results_ct rfl _ _ ae 47 #[.int .i64 1,.string t192] (0,0) _ rfl (kP I) Tryz.underlying47 rfl (by kernel_rfl)) rfl ?_;exact rz HB
   ·obtain⟨aQ,aR⟩:=nK au;obtain⟨rfl,rfl,rfl⟩:=s3 H;go_enter Tryz.func40,Tryz.ntmps40;go_wp2_with (first|(refine pN 2 #[.int .i64 0,.string (⟨#[]⟩:ByteArray)] 47 ?_;intro ae hg aB J hb;have I:=bm (J);have ai:=bG HB hg;replace HB:=bW HB hb;clear hb J hg)|(refine gB (some 10) Tryz.func39 #[.string a0,.string (⟨#[32]⟩:ByteArray)] rfl ?_;(with_reducible refine(strings_Cut.calls a0 (⟨#[32]⟩:ByteArray) t191 t192 t193 _ A2.out).mono ?_);rintro e w' ⟨rfl,⟨nd,rfl⟩⟩;refine⟨_,rfl,?_⟩;(try(rw[drewN_self aB];generalize qt:World.drewN aB _=aB;replace I:pK aB ae #[.int .i64 0,.string (⟨#[]⟩:ByteArray)] 47:=⟨by rw[←qt];exact(kS I)⟩;replace HB:kn (Below w.heap.size w aB):=⟨by rw[←qt];exact(wZ HB)⟩;clear qt)))|(refine pN 7 #[.int .i64 0,.string (⟨#[]⟩:ByteArray)] 47 ?_;intro aj hg dD J hb;have aa:=bm (J);have ak:=bG HB hg;replace HB:=bW HB hb;have ab:=bL I hg;have ad:=bM I hg;replace I:=bU I hb;clear hb J hg;obtain⟨_,_⟩:=nC ad ab;obtain⟨bV,bZ,b0,b1⟩:=b2 aa)|(refine gB (some 28) Tryz.func43 #[.agg #[.int .i64 1,.string t192]] rfl ?_;(with_reducible refine(ng.calls k 1 t192 t196 _ bs.out).mono ?_);rintro e dE ⟨rfl,hb⟩;refine⟨_,rfl,?_⟩;replace I:=bU I hb;replace aa:=bP #[.int .i64 1,.string t192] aa hb;replace HB:=bW HB hb;clear hb;obtain⟨b4,b5,b6,b7⟩:=b2 I));refine bodyPost_ret (results_ct rfl _ _ ae 47 #[.int .i64 0,.string (⟨#[]⟩:ByteArray)] (0,0) _ rfl (kP I) Tryz.underlying47 rfl (by kernel_rfl)) rfl ?_;exact rz HB
  ·obtain⟨aO,aP⟩:=nK ar;rcases iT H with⟨av,H⟩|⟨av,H⟩
   ·obtain⟨aS,aT⟩:=nL av;clear av;obtain⟨t197,b8,H⟩:=bE H;try dsimp only at H
    rcases iT H with⟨aw,H⟩|⟨aw,H⟩
    ·obtain⟨aU,aV⟩:=nL aw;clear aw;obtain⟨rfl,rfl,rfl⟩:=s3 H;go_enter Tryz.func40,Tryz.ntmps40;go_wp2_with (first|(refine pN 2 #[.int .i64 0,.string (⟨#[]⟩:ByteArray)] 47 ?_;intro ae hg aC J hb;have I:=bm (J);have ai:=bG HB hg;replace HB:=bW HB hb;clear hb J hg)|(refine gB (some 10) Tryz.func39 #[.string a0,.string (⟨#[32]⟩:ByteArray)] rfl ?_;(with_reducible refine(strings_Cut.calls a0 (⟨#[32]⟩:ByteArray) t191 t192 t193 _ A2.out).mono ?_);rintro e w' ⟨rfl,⟨nd,rfl⟩⟩;refine⟨_,rfl,?_⟩;(try(rw[drewN_self aC];generalize qt:World.drewN aC _=aC;replace I:pK aC ae #[.int .i64 0,.string (⟨#[]⟩:ByteArray)] 47:=⟨by rw[←qt];exact(kS I)⟩;replace HB:kn (Below w.heap.size w aC):=⟨by rw[←qt];exact(wZ HB)⟩;clear qt)))|(refine pN 7 #[.int .i64 0,.string (⟨#[]⟩:ByteArray)] 47 ?_;intro aj hg dF J hb;have aa:=bm (J);have ak:=bG HB hg;replace HB:=bW HB hb;have ab:=bL I hg;have ad:=bM I hg;replace I:=bU I hb;clear hb J hg;obtain⟨_,_⟩:=nC ad ab;obtain⟨b9,ca,cb,cc⟩:=b2 aa)|(refine gB (some 28) Tryz.func43 #[.agg #[.int .i64 2,.string t192]] rfl ?_;(with_reducible refine(ng.calls k 2 t192 t197 _ b8.out).mono ?_);rintro e dG ⟨rfl,hb⟩;refine⟨_,rfl,?_⟩;replace I:=bU I hb;replace aa:=bP #[.int .i64 2,.string t192] aa hb;replace HB:=bW HB hb;clear hb;obtain⟨cd,cf,cg,ch⟩:=b2 aa;obtain⟨cj,ck,cl,cm⟩:=b2 I));refine bodyPost_ret (results_ct rfl _ _ ae 47 #[.int .i64 2,.string t192] (0,0) _ rfl (kP I) Tryz.underlying47 rfl (by kernel_rfl)) rfl ?_;exact rz HB
    ·obtain⟨aU,aV⟩:=nK aw;obtain⟨rfl,rfl,rfl⟩:=s3 H;go_enter Tryz.func40,Tryz.ntmps40;go_wp2_with (first|(refine pN 2 #[.int .i64 0,.string (⟨#[]⟩:ByteArray)] 47 ?_;intro ae hg aD J hb;have I:=bm (J);have ai:=bG HB hg;replace HB:=bW HB hb;clear hb J hg)|(refine gB (some 10) Tryz.func39 #[.string a0,.string (⟨#[32]⟩:ByteArray)] rfl ?_;(with_reducible refine(strings_Cut.calls a0 (⟨#[32]⟩:ByteArray) t191 t192 t193 _ A2.out).mono ?_);rintro e w' ⟨rfl,⟨nd,rfl⟩⟩;refine⟨_,rfl,?_⟩;(try(rw[drewN_self aD];generalize qt:World.drewN aD _=aD;replace I:pK aD ae #[.int .i64 0,.string (⟨#[]⟩:ByteArray)] 47:=⟨by rw[←qt];exact(kS I)⟩;replace HB:kn (Below w.heap.size w aD):=⟨by rw[←qt];exact(wZ HB)⟩;clear qt)))|(refine pN 7 #[.int .i64 0,.string (⟨#[]⟩:ByteArray)] 47 ?_;intro aj hg dH J hb;have aa:=bm (J);have ak:=bG HB hg;replace HB:=bW HB hb;have ab:=bL I hg;have ad:=bM I hg;replace I:=bU I hb;clear hb J hg;obtain⟨_,_⟩:=nC ad ab;obtain⟨cn,cp,cq,cr⟩:=b2 aa)|(refine gB (some 28) Tryz.func43 #[.agg #[.int .i64 2,.string t192]] rfl ?_;(with_reducible refine(ng.calls k 2 t192 t197 _ b8.out).mono ?_);rintro e dI ⟨rfl,hb⟩;refine⟨_,rfl,?_⟩;replace I:=bU I hb;replace aa:=bP #[.int .i64 2,.string t192] aa hb;replace HB:=bW HB hb;clear hb;obtain⟨ct,cu,cv,cw⟩:=b2 I));refine bodyPost_ret (results_ct rfl _ _ ae 47 #[.int .i64 0,.string (⟨#[]⟩:ByteArray)] (0,0) _ rfl (kP I) Tryz.underlying47 rfl (by kernel_rfl)) rfl ?_;exact rz HB
   ·obtain⟨aS,aT⟩:=nK av;obtain⟨rfl,rfl,rfl⟩:=s3 H;go_enter Tryz.func40,Tryz.ntmps40;go_wp2_with (first|(refine pN 2 #[.int .i64 0,.string (⟨#[]⟩:ByteArray)] 47 ?_;intro ae hg aE J hb;have I:=bm (J);have ai:=bG HB hg;replace HB:=bW HB hb;clear hb J hg)|(refine gB (some 10) Tryz.func39 #[.string a0,.string (⟨#[32]⟩:ByteArray)] rfl ?_;(with_reducible refine(strings_Cut.calls a0 (⟨#[32]⟩:ByteArray) t191 t192 t193 _ A2.out).mono ?_);rintro e w' ⟨rfl,⟨nd,rfl⟩⟩;refine⟨_,rfl,?_⟩;(try(rw[drewN_self aE];generalize qt:World.drewN aE _=aE;replace I:pK aE ae #[.int .i64 0,.string (⟨#[]⟩:ByteArray)] 47:=⟨by rw[←qt];exact(kS I)⟩;replace HB:kn (Below w.heap.size w aE):=⟨by rw[←qt];exact(wZ HB)⟩;clear qt)))|(refine pN 7 #[.int .i64 0,.string (⟨#[]⟩:ByteArray)] 47 ?_;intro aj hg dJ J hb;have aa:=bm (J);have ak:=bG HB hg;replace HB:=bW HB hb;have ab:=bL I hg;have ad:=bM I hg;replace I:=bU I hb;clear hb J hg;obtain⟨_,_⟩:=nC ad ab;obtain⟨cx,cy,cz,cA⟩:=b2 aa;obtain⟨cB,cC,cD,cE⟩:=b2 I));refine bodyPost_ret (results_ct rfl _ _ ae 47 #[.int .i64 0,.string (⟨#[]⟩:ByteArray)] (0,0) _ rfl (kP I) Tryz.underlying47 rfl (by kernel_rfl)) rfl ?_;exact rz HB
def nQ.l (p:Int→Option Bool):Nat→Int→Int→Option Int
 |0,_,s=>some s
 |n+1,x,s=>(p x).bind fun b=>nQ.l p n (x+1) (if b=true then Go.bits .or .i64 s (shl .i64 1 x)else s)
def nQ.f (p:Int→Option Bool) (things:Int):Option Int:=if 0≤things then(if things≤3 then nQ.l p (2^things.toNat) 0 0 else none)else none
theorem nQ.calls (g:Nat) (lb:Array Value) (eg:∀args w,(callFunc g args).run Tryz.prog w= .ok (.enter g args) w) (p:Int→Option Bool)
  (things:Int) (r:Int) (w:World) (hp:Hof.tI g lb p w) (h:nQ.f p things=some r):
  Calls Tryz.prog 114 #[.int .i64 things,.func (.func g) #[] lb] w fun e w'=>e= .returned (.int .i64 r)∧Below w.heap.size w w':=by
 have HP:=bm hp;clear hp
 have h2:0≤things∧things≤3∧nQ.l p (2^things.toNat) 0 0=some r:=by
  unfold nQ.f at h;by_cases a:0≤things
  ·rw[if_pos a]at h;by_cases b:things≤3
   ·rw[if_pos b]at h;exact⟨a,b,h⟩
   ·rw[if_neg b]at h;cases h
  ·rw[if_neg a]at h;cases h
 obtain⟨h0,h3,h⟩:=h2;obtain⟨t,rfl⟩:=Int.eq_ofNat_of_zero_le h0;rw[Int.toNat_natCast]at h
 have hN:((2^t:Nat):Int)≤8∧IntKind.i64.wrap (2^min t 64)=((2^t:Nat):Int):=by
  rcases(by omega:t=0∨t=1∨t=2∨t=3)with rfl|rfl|rfl|rfl<;>exact⟨by decide,by decide+kernel⟩
 obtain⟨N,eN⟩:∃N:Nat,N=2^t:=⟨_,rfl⟩;rw[←eN]at hN h;obtain⟨dK,aW⟩:=hN;have DM:wrap64 (2^min t 64)=(N:Int):=(i64_w _).symm.trans aW;have H':kn (nQ.l p N 0 0=some r):=⟨h⟩;have dp:=mX h0;clear h h0 h3 eN;go_enter Tryz.func114,Tryz.ntmps114;go_wp2;go_loopg [5,9] N (fun gg s5 s9 wr=>∃(n:Nat) (x s:Int),0≤x∧x+n=(N:Int)∧n≤gg∧s5= .int .i64 s∧s9= .int .i64 x∧kn (Below w.heap.size w wr)∧kn (nQ.l p n x s=some r))
 case atStart=>exact⟨N,0,0,by omega,by omega,Nat.le_refl _,rfl,rfl,⟨Below.refl _ _⟩,H'⟩
 case round=>
  clear H';obtain⟨n,x,s,dq,dL,hg,rfl,rfl,HB,HA⟩:=hrel;cases n with
  |zero=>
   have dM:¬x<(N:Int):=by omega
   obtain rfl:s=r:=by have:=HA.out;simpa [nQ.l] using this
   clear HA aW DM;go_wp2;go_ret;exact⟨rfl,HB.out⟩
  |succ n=>
   have dN:x<(N:Int):=by omega
   have dO:x≤7:=by omega
   obtain⟨b,hb,aF⟩:=Option.bind_eq_some_iff.mp (show((p x).bind fun b=>nQ.l p n (x+1) (if b=true then Go.bits .or .i64 s (shl .i64 1 x)else s))=some r from HA.out);have aG:=HP.out wr x b HB.out hb;have uH:=bm aF;clear aF hb HA HP aW DM;have px:=mX dq;cases b with
   |true=>
    obtain⟨j,hj⟩:∃j:Int,shl .i64 1 x=j:=⟨_,rfl⟩;have aY:kn (nQ.l p n (x+1) (Go.bits .or .i64 s j)=some r):=⟨by have:=uH.out;rw[if_pos rfl,hj]at this;exact this⟩;have cF:IntKind.i64.wrap (2^min x.toNat 64)=j:=by have h_:IntKind.i64.wrap (1*2^min x.toNat 64)=j:=hj;rw[Int.one_mul]at h_;exact h_
    have dr:IntKind.i64.wrap (2^x.toNat)=j:=by rw[←cF,show min x.toNat 64=x.toNat from by omega]
    have dP:wrap64 (2^x.toNat)=j:=(i64_w _).symm.trans dr;have dQ:wrap64 (2^min x.toNat 64)=j:=(i64_w _).symm.trans cF;clear hj uH;go_wp2_with fail;refine aG.mono ?_;rintro e w' ⟨rfl,hb'⟩;go_wp2_with fail;go_roundg n
    case measure=>omega
    case rel=>exact⟨n,x+1,_,by omega,by omega,Nat.le_refl _,(by first|rfl|(simp;done)|(simp[*];done)),by go_num,⟨below_then HB.out HB.out.size hb'⟩,aY⟩
   |false=>
    have aY:kn (nQ.l p n (x+1) s=some r):=⟨by have:=uH.out;simpa using this⟩;clear uH;go_wp2_with fail;refine aG.mono ?_;rintro e w' ⟨rfl,hb'⟩;go_wp2_with fail;go_roundg n
    case measure=>omega
    case rel=>exact⟨n,x+1,_,by omega,by omega,Nat.le_refl _,(by first|rfl|(simp;done)|(simp[*];done)),by go_num,⟨below_then HB.out HB.out.size hb'⟩,aY⟩
theorem pI.xf (x y:Int):0≤shl .u64 x y:=by
 unfold shl;rw[show IntKind.u64.wrap (x*2^min y.toNat IntKind.u64.bits)=(x*2^min y.toNat IntKind.u64.bits)%18446744073709551616 from by simp[IntKind.wrap,IntKind.bits,IntKind.signed]];exact Int.emod_nonneg _ (by decide)
def pI.f (a0:Int):Option (Int):=if 0≤a0 then(some (wrap64 ((shl .i64 1 (shl .u64 1 a0)) - 1)))else(none)
theorem pI.calls (a0:Int) (r:Int) (w:World) (h:pI.f a0=some r):
  Calls Tryz.prog 116 #[.int .i64 a0] w fun e w'=>e= .returned (.int .i64 r)∧Drawn0 w w':=by
 have H:=h;clear h;unfold pI.f at H;obtain⟨aM,aN,H⟩:=mZ H;obtain rfl:=oJ H;clear H;have p:=pI.xf 1 a0;obtain⟨ax,aH⟩:∃j_:Int,(shl .u64 1 a0)=j_:=⟨_,rfl⟩;rw[aH]at p⊢;have aZ:(IntKind.u64.wrap (1*2^min a0.toNat 64))=ax:=aH;have ds:(IntKind.u64.wrap (2^min a0.toNat 64))=ax:=by have h_:=aZ;rw[Int.one_mul]at h_;exact h_
 have dp:=mX p;have dR:decide (0≤ax)=true:=mV p;have dS:decide (ax<0)=false:=mP (by omega)
 have e5:wrap64 (2^min ax.toNat 64)=shl .i64 1 ax:=by
  unfold shl;rw[i64_w,Int.one_mul];rfl
 have E5:=bm e5;clear aH p e5;go_enter Tryz.func116,Tryz.ntmps116;go_wp2;go_ret;rw[←E5.out];exact⟨rfl,Drawn0.refl _⟩
def nn (w0 W:World) (g:Nat) (f0:Int) (f1:ByteArray) (f2:Int):Prop:=W.heap[g]?=some (.cells #[.int .i64 f0,.string f1,.int .i64 f2] 130 (0,0))∧w0.heap.size≤g
theorem nn.grown {w0 W:World} {g:Nat} {f0:Int} {f1:ByteArray} {f2:Int} {W1:World} {row:Option Nat} (h:nn w0 W g f0 f1 f2) (hw:W.grownBy W1 row) (aI:some g≠row):nn w0 W1 g f0 f1 f2:=by
 obtain⟨hb,hg⟩:=h;exact⟨blk_grown hb hw aI,hg⟩
theorem nn.Al {w0 W:World} {g:Nat} {f0:Int} {f1:ByteArray} {f2:Int} {α:Type} {d:Kd α} {e:Nat} {base:Nat} {ok:Nat→Prop} {v:Value} {xs:List α} (h:nn w0 W g f0 f1 f2) (ho:Kd.N d e W base ok v xs) (ht:e≠130):some g≠v.ownBlock:=by
 obtain⟨hb,hg⟩:=h;exact Kd.N_ne ho hb ht
theorem nn.fresh {w0 W:World} {g:Nat} {f0:Int} {f1:ByteArray} {f2:Int} (h:nn w0 W g f0 f1 f2):∀k,W.heap.size≤k→k≠g:=by
 obtain⟨hb,hg⟩:=h;exact Kd.freshB hb
theorem nn.kept {w0 W:World} {g:Nat} {f0:Int} {f1:ByteArray} {f2:Int} {W1:World} {S:Nat→Prop} (h:nn w0 W g f0 f1 f2) (hk:Kept W W1 S) (aI:¬S g):nn w0 W1 g f0 f1 f2:=by
 obtain⟨hb,hg⟩:=h;exact⟨blk_kept hb hk aI,hg⟩
theorem nn.below {w0 W:World} {g:Nat} {f0:Int} {f1:ByteArray} {f2:Int} {W1:World} (h:nn w0 W g f0 f1 f2) (hw:Below W.heap.size W W1):nn w0 W1 g f0 f1 f2:=h.grown (grown_of_below hw none) (by simp)
theorem nn.bX {w0 W:World} {g:Nat} {f0:Int} {f1:ByteArray} {f2:Int} {W1:World} [s:zc W W1] (h:nn w0 W g f0 f1 f2):nn w0 W1 g f0 f1 f2:=h.below s.b
theorem nn.alloc {w0 W:World} {g:Nat} {f0:Int} {f1:ByteArray} {f2:Int} (h:nn w0 W g f0 f1 f2) (o:Obj):nn w0 (W.alloc o) g f0 f1 f2:=h.below (xB (Below.refl _ _) o)
theorem nn.drewN {w0 W:World} {g:Nat} {f0:Int} {f1:ByteArray} {f2:Int} (h:nn w0 W g f0 f1 f2) (m:Nat):nn w0 (W.drewN m) g f0 f1 f2:=h
theorem nn.drew {w0 W:World} {g:Nat} {f0:Int} {f1:ByteArray} {f2:Int} (h:nn w0 W g f0 f1 f2):nn w0 W.drew g f0 f1 f2:=h
theorem nn.at_ {w0 W:World} {g:Nat} {f0:Int} {f1:ByteArray} {f2:Int} {w':World} {m:Nat} (hq:W.drewN m=w') (h:nn w0 W g f0 f1 f2):nn w0 w' g f0 f1 f2:=by subst hq;exact nn.drewN h m
theorem nn.apart {w0 W:World} {g:Nat} {f0:Int} {f1:ByteArray} {f2:Int} {α:Type} {d:Kd α} {e:Nat} {base:Nat} {ok:Nat→Prop} {v:Value} {xs:List α} (h:nn w0 W g f0 f1 f2) (ho:d.R e W base ok v xs) (ht:∀q,q∈e::d.E→q≠130):d.R e W base (fun k=>ok k∧k≠g) v xs:=by
 obtain⟨hb,hg⟩:=h;exact Kd.R_types ho hb ht
theorem nn.own_ne {w0 W:World} {g:Nat} {f0:Int} {f1:ByteArray} {f2:Int} {α:Type} {d:Kd α} {e:Nat} {base:Nat} {ok:Nat→Prop} {v:Value} {xs:List α} (h:nn w0 W g f0 f1 f2) (ho:d.R e W base ok v xs) (ht:e≠130):some g≠v.ownBlock:=by
 obtain⟨hb,hg⟩:=h;exact Kd.R_ne ho hb ht
theorem nn.qh {w0 W:World} {g:Nat} {f0:Int} {f1:ByteArray} {f2:Int} {α:Type} {d:Kd α} {e:Nat} {base:Nat} {ok:Nat→Prop} {v:Value} {xs:List α} (h:nn w0 W g f0 f1 f2) (ho:d.Q e W base ok v xs) (ht:∀q,q∈e::d.E→q≠130):d.Q e W base (fun k=>ok k∧k≠g) v xs:=by
 obtain⟨hb,hg⟩:=h;exact Kd.Q_types ho hb ht
theorem nn.xS {w0 W:World} {g:Nat} {f0:Int} {f1:ByteArray} {f2:Int} {α:Type} {d:Kd α} {e:Nat} {base:Nat} {ok:Nat→Prop} {v:Value} {xs:List α} (h:nn w0 W g f0 f1 f2) (ho:d.Q e W base ok v xs) (ht:e≠130):some g≠v.ownBlock:=by
 obtain⟨hb,hg⟩:=h;exact Kd.Q_ne ho hb ht
theorem nn.zp {w0 W:World} {g:Nat} {f0:Int} {f1:ByteArray} {f2:Int} {α:Type} {d:Kd α} {e:Nat} {base:Nat} {ok:Nat→Prop} {v:Value} {xs:List α} (h:nn w0 W g f0 f1 f2) (ho:d.S e W base ok v xs) (ht:∀q,q∈e::d.E→q≠130):d.S e W base (fun k=>ok k∧k≠g) v xs:=by
 obtain⟨hb,hg⟩:=h;exact Kd.S_types ho hb ht
theorem nn.Am {w0 W:World} {g:Nat} {f0:Int} {f1:ByteArray} {f2:Int} {α:Type} {d:Kd α} {e:Nat} {base:Nat} {ok:Nat→Prop} {v:Value} {xs:List α} (h:nn w0 W g f0 f1 f2) (ho:d.S e W base ok v xs) (ht:e≠130):some g≠v.ownBlock:=by
 obtain⟨hb,hg⟩:=h;exact Kd.S_ne ho hb ht
theorem nn.lt {w0 W:World} {g:Nat} {f0:Int} {f1:ByteArray} {f2:Int} (h:nn w0 W g f0 f1 f2):g<W.heap.size:=by
 obtain⟨hb,hg⟩:=h;exact yJ hb
theorem nn.ge {w0 W:World} {g:Nat} {f0:Int} {f1:ByteArray} {f2:Int} (h:nn w0 W g f0 f1 f2):w0.heap.size≤g:=by
 obtain⟨hb,hg⟩:=h;exact hg
theorem nn.uI {w0 W:World} {g:Nat} {f0:Int} {f1:ByteArray} {f2:Int} {a:Nat} {cs:Array Value} {t:TypeId} {fr:Nat×Nat} (h:nn w0 W g f0 f1 f2) (aJ:W.heap[a]?=some (.cells cs t fr)) (ht:t≠130):g≠a:=by
 obtain⟨hb,hg⟩:=h;rintro rfl;rw[hb]at aJ;injection aJ with aJ
 injection aJ with _ ht2
 exact ht ht2.symm
theorem nn.far {w0 W:World} {g:Nat} {f0:Int} {f1:ByteArray} {f2:Int} {p:Addr} (h:nn w0 W g f0 f1 f2) (aI:g≠p.block) (u:Value):nn w0 (W.setCell p u) g f0 f1 f2:=by
 obtain⟨hb,hg⟩:=h;exact⟨Ae hb aI u,hg⟩
theorem rM {W:World} {g:Nat} {f0:Int} {f1:ByteArray} {f2:Int} (h:W.heap[g]?=some (.cells #[.int .i64 f0,.string f1,.int .i64 f2] 130 (0,0))):W.cell? ⟨g,0,none⟩=some (.int .i64 f0):=(nD h 0).trans rfl
theorem nn.Cr {w0 W:World} {g:Nat} {f0:Int} {f1:ByteArray} {f2:Int} (h:nn w0 W g f0 f1 f2) (x:Int):nn w0 (W.setCell ⟨g,0,none⟩ (.int .i64 x)) g x f1 f2:=by
 obtain⟨hb,hg⟩:=h;exact⟨by simpa using blk_set hb 0 (.int .i64 x),hg⟩
theorem uJ {W:World} {g:Nat} {f0:Int} {f1:ByteArray} {f2:Int} (h:W.heap[g]?=some (.cells #[.int .i64 f0,.string f1,.int .i64 f2] 130 (0,0))):W.cell? ⟨g,1,none⟩=some (.string f1):=(nD h 1).trans rfl
theorem nn.qe {w0 W:World} {g:Nat} {f0:Int} {f1:ByteArray} {f2:Int} (h:nn w0 W g f0 f1 f2) (x:ByteArray):nn w0 (W.setCell ⟨g,1,none⟩ (.string x)) g f0 x f2:=by
 obtain⟨hb,hg⟩:=h;exact⟨by simpa using blk_set hb 1 (.string x),hg⟩
theorem tl {W:World} {g:Nat} {f0:Int} {f1:ByteArray} {f2:Int} (h:W.heap[g]?=some (.cells #[.int .i64 f0,.string f1,.int .i64 f2] 130 (0,0))):W.cell? ⟨g,2,none⟩=some (.int .i64 f2):=(nD h 2).trans rfl
theorem nn.Cs {w0 W:World} {g:Nat} {f0:Int} {f1:ByteArray} {f2:Int} (h:nn w0 W g f0 f1 f2) (x:Int):nn w0 (W.setCell ⟨g,2,none⟩ (.int .i64 x)) g f0 f1 x:=by
 obtain⟨hb,hg⟩:=h;exact⟨by simpa using blk_set hb 2 (.int .i64 x),hg⟩
theorem nn.new (w0 W:World) (f0:Int) (f1:ByteArray) (f2:Int) (hB:Below w0.heap.size w0 W):nn w0 (W.alloc (.cells #[.int .i64 f0,.string f1,.int .i64 f2] 130)) W.heap.size f0 f1 f2:=⟨by simpa using heap_alloc_new W _,hB.size⟩
theorem nn.z {w0 W W':World} {g:Nat} {f0 cG:Int} {f1 cH:ByteArray} {f2 cI:Int} (h:kn (nn w0 W g f0 f1 f2)) (s:nn w0 W g f0 f1 f2→nn w0 W' g cG cH cI:=by intro h;repeat(with_reducible first|exact h|apply nn.bX|apply nn.Cr|apply nn.qe|apply nn.Cs|refine nn.far ?_ aX _)):nn w0 W' g cG cH cI:=s h.out
theorem nn.y {w0 W W':World} {g:Nat} {f0:Int} {f1:ByteArray} {f2:Int} (h:kn (nn w0 W g f0 f1 f2)) (s:nn w0 W g f0 f1 f2→nn w0 W' g f0 f1 f2:=by intro h;repeat(with_reducible first|exact h|apply nn.bX|refine nn.far ?_ aX _)):nn w0 W' g f0 f1 f2:=s h.out
def nj.f (al:Int) (ah:ByteArray) (ag:Int):Option (Int×Int×ByteArray×Int):=if ag=(ah.size:Int)then(some (0,al,ah,ag))else(if 0≤(wrap64 ((wrap64 (ag+1)) - 1))then(if(wrap64 ((wrap64 (ag+1)) - 1))<(ah.size:Int)then(some (bt ah (wrap64 ((wrap64 (ag+1)) - 1)),al,ah,wrap64 (ag+1)))else(none))else(none))
theorem nj.calls (g:Nat) (al:Int) (ah:ByteArray) (ag:Int) (r1:Int) (r2:Int) (r3:ByteArray) (r4:Int) (w0 w:World) (hI:nn w0 w g al ah ag) (hB:Below w0.heap.size w0 w) (h:nj.f al ah ag=some (r1,r2,r3,r4)):
  Calls Tryz.prog 141 #[.pointer (some ⟨g,0,none⟩)] w fun e w'=>e= .returned (.int .u8 r1)∧nn w0 w' g r2 r3 r4∧Below w0.heap.size w0 w'∧oe w w' g none:=by
 have ay:=bm hI;have HK:=bm (oe.refl w g none);have HL:=bm hB.size;clear hI;have dT:=bm hB.size;have HB:=bm hB;clear hB;have H:=h;clear h;unfold nj.f at H;rcases iT H with⟨c2,H⟩|⟨c2,H⟩
 ·obtain⟨aM,aN⟩:=nL c2;clear c2;obtain⟨rfl,rfl,rfl,rfl⟩:=s4 H;obtain⟨an,cJ⟩:=ay.out;have cP:=rM an;have cQ:=uJ an;have cR:=tl an;have cS:=rl an 0;have cT:=rl an 1;have cU:=rl an 2;clear an cJ;go_enter Tryz.func141,Tryz.ntmps141;go_wp2;repeat(go_quiet (fail);try go_wp2)
  go_ret;exact⟨by first|rfl|(simp[*,jY,jZ]<;>rfl),nn.z ay,wI HB (nn.ge ay.out),kZ HK⟩
 ·obtain⟨aM,aN⟩:=nK c2;obtain⟨aK,aq⟩:∃j_:Int,(wrap64 ((wrap64 (ag+1)) - 1))=j_:=⟨_,rfl⟩;first|rw[aq]at H|simp only[aq]at H
  have dt:(IntKind.i64.wrap ((wrap64 (ag+1)) - 1))=aK:=(i64_w _).trans aq;obtain⟨aL,H⟩:=mY H;obtain⟨dx,H⟩:=mY H;obtain⟨rfl,rfl,rfl,rfl⟩:=s4 H;obtain⟨ao,cK⟩:=ay.out;have cV:=rM ao;have cW:=uJ ao;have cX:=tl ao;have c0:=rl ao 0;have c1:=rl ao 1;have da:=rl ao 2;clear ao cK;have p7:0≤((aK):Int):=nY;have q7:(aK)<(ah.size:Int):=nY;have dU:=bt_at ah (aK);replace p7:=mX p7;replace q7:=mX q7;go_enter Tryz.func141,Tryz.ntmps141;go_wp2;repeat(go_quiet (fail);try go_wp2)
  go_ret;exact⟨by first|rfl|(simp[jY,jZ]<;>rfl)|(simp only[←aq];first|rfl|(simp[jY,jZ]<;>rfl))|(simp[*,jY,jZ]<;>rfl),nn.z ay,wI HB (nn.ge ay.out),kZ HK⟩
end Go.Proofs.YtigeaokfhnlkcaaGreatDoor.P
