import Derived.Test.YtigeaokfhnlkcaaGreatDoorPx0
import Derived.Test.YtigeaokfhnlkcaaGreatDoorPx1
import Derived.Test.YtigeaokfhnlkcaaGreatDoorPx14
namespace Go.Proofs.YtigeaokfhnlkcaaGreatDoor.P
open Go.RowKit YtigeaokfhnlkcaaGreatDoorW PrintWords PrintLast PrintMore
attribute [local go_sem] max2_int min2_int max_two min_two max_three min_three max_four min_four
set_option linter.unusedVariables false
set_option linter.unusedSimpArgs false
attribute [local go_sem high] yX
set_option maxHeartbeats 8000000
set_option maxRecDepth 100000
def stringslite_Index.f (s sub:BA):Option Int:=if sub.size=1 then(if s.size<9223372036854775807 then(if(sub.toList==s.toList)=true then some 0 else stringslite_IndexByte.f s (bt sub 0))else none)else none
theorem stringslite_Index.calls (s sub:BA) (r:Int) (w:World) (h:stringslite_Index.f s sub=some r):
  Calls Tryz.prog 105 #[.string s,.string sub] w fun e w'=>e= .returned (.int .i64 r)∧Drawn0 w w':=by
 unfold stringslite_Index.f at h;by_cases h1:sub.size=1
 ·rw[if_pos h1]at h;by_cases h2:s.size<9223372036854775807
  ·rw[if_pos h2]at h;have eP:((sub.size:Int)==0)=false:=by rw[h1];rfl
   have eQ:((sub.size:Int)==1)=true:=by rw[h1];rfl
   have eR:decide (0<sub.size)=true:=pK (by omega);have ee:(0:Int)<(sub.size:Int):=by omega
   have eS:decide ((0:Int)<(sub.size:Int))=true:=pK ee;by_cases h3:(sub.toList==s.toList)=true
   ·rw[if_pos h3]at h;obtain rfl:=pd h;clear h h1 h2;go_enter Tryz.func105,Tryz.ntmps105;go_wp2;go_ret;exact⟨rfl,Drawn0.refl _⟩
   ·rw[if_neg h3]at h;have HI:=bm (fun(hh:0<sub.size) W=>stringslite_IndexByte.calls s ((sub[0]'hh).toNat:Int) r W (by rw[show((sub[0]'hh).toNat:Int)=bt sub 0 from bt_at sub 0 hh];exact h));have h4:(sub.toList==s.toList)=false:=pD h3;clear h h1 h2 h3;go_enter Tryz.func105,Tryz.ntmps105;go_wp2_with fail;refine(HI.out _ _).mono ?_;rintro e w1 ⟨rfl,⟨n,rfl⟩⟩;go_wp2;go_ret;exact⟨rfl,⟨⟨n,rfl⟩⟩⟩
  ·rw[if_neg h2]at h;cases h
 ·rw[if_neg h1]at h;cases h
def stringslite_Cut.f (s sep:BA):Option (BA×BA×Bool):=(stringslite_Index.f s sep).bind fun i=>if i<0 then some (s,(⟨#[]⟩:BA),false)else if i.toNat+sep.size≤s.size then some (s.extract 0 i.toNat,s.extract (i.toNat+sep.size) s.size,true)else none
theorem stringslite_Cut.calls (s sep:BA) (r1 r2:BA) (r3:Bool) (w:World) (h:stringslite_Cut.f s sep=some (r1,r2,r3)):
  Calls Tryz.prog 71 #[.string s,.string sep] w fun e w'=>e= .returned (.tuple #[.string r1,.string r2,.bool r3])∧Drawn0 w w':=by
 unfold stringslite_Cut.f at h;obtain⟨i,hi,h⟩:=Option.bind_eq_some_iff.mp h;by_cases h0:i<0
 ·rw[if_pos h0]at h;obtain⟨rfl,rfl,rfl⟩:s=r1∧(⟨#[]⟩:BA)=r2∧false=r3:=by simpa using h
  have HI:=bm (fun W=>stringslite_Index.calls s sep i W hi);have c1:decide (0≤i)=false:=pF (by omega);have c2:decide (i<0)=true:=pK h0;clear h hi h0;go_enter Tryz.func71,Tryz.ntmps71;go_wp2_with fail;refine(HI.out _).mono ?_;rintro e w1 ⟨rfl,⟨n,rfl⟩⟩;go_wp2;go_ret3;exact⟨rfl,⟨⟨n,rfl⟩⟩⟩
 ·rw[if_neg h0]at h;by_cases h1:i.toNat+sep.size≤s.size
  ·rw[if_pos h1]at h
   have eT:s.size<9223372036854775807:=by
    unfold stringslite_Index.f at hi;split at hi
    ·split at hi
     ·assumption
     ·cases hi
    ·cases hi
   obtain⟨rfl,rfl,rfl⟩:s.extract 0 i.toNat=r1∧s.extract (i.toNat+sep.size) s.size=r2∧true=r3:=by simpa using h
   clear h;obtain⟨n,rfl⟩:=Int.eq_ofNat_of_zero_le (by omega:0≤i);rw[Int.toNat_natCast]at h1⊢;have HI:=bm (fun W=>stringslite_Index.calls s sep n W hi);have c0:(0:Int)≤(n:Int):=by omega
   have c2:(n:Int)≤(s.size:Int):=by omega
   have c3:(0:Int)≤(n:Int)+(sep.size:Int):=by omega
   have c4:(n:Int)+(sep.size:Int)≤(s.size:Int):=by omega
   have c5:(n:Int)+(sep.size:Int)<9223372036854775807:=by omega
   clear hi h0 h1;go_enter Tryz.func71,Tryz.ntmps71;go_wp2_with fail;refine(HI.out _).mono ?_;rintro e w1 ⟨rfl,⟨m,rfl⟩⟩;go_wp2;go_quiet (fail);go_wp2;go_ret3;exact⟨rfl,Drawn0.step ⟨⟨m,rfl⟩⟩ _⟩
  ·rw[if_neg h1]at h;cases h
def strings_Cut.f (s sep:BA):Option (BA×BA×Bool):=stringslite_Cut.f s sep
theorem strings_Cut.calls (s sep:BA) (r1 r2:BA) (r3:Bool) (w:World) (h:strings_Cut.f s sep=some (r1,r2,r3)):
  Calls Tryz.prog 39 #[.string s,.string sep] w fun e w'=>e= .returned (.tuple #[.string r1,.string r2,.bool r3])∧Drawn0 w w':=by
 have HI:=bm (fun W=>stringslite_Cut.calls s sep r1 r2 r3 W h);clear h;go_enter Tryz.func39,Tryz.ntmps39;go_wp2_with fail;refine(HI.out _).mono ?_;rintro e w1 ⟨rfl,⟨n,rfl⟩⟩;go_wp2;go_ret3;exact⟨rfl,⟨⟨n,rfl⟩⟩⟩
def jM.l0:Nat→BA→Int→Int→Option (Bool)
 |0,_,_,_=>none
 |k+1,x0,x5,x6=>if x6<x5 then(if 0≤x6 then(if x6<(x0.size:Int)then(if(bt x0 x6)<32 then(some false)else(if(bt x0 x6)>126 then(some false)else(jM.l0 k x0 x5 (wrap64 (x6+1)))))else(none))else(none))else(some true)
def jM.f (k:Nat) (a0:BA):Option (Bool):=jM.l0 k a0 (a0.size:Int) 0
theorem jM.hZ:∀k,(∀y0 y1 y2,lS (jM.l0 k y0 y1 y2) (jM.l0 (k+1) y0 y1 y2))
 |0=>fun _ _ _=> .z (by simp only[jM.l0])
 |k+1=>by
  have i0:=jM.hZ k;exact fun _ _ _=>by unfold jM.l0;infer_instance
instance jM.mo {k a0}:lS (jM.f k a0) (jM.f (k+1) a0):=by have i0:=jM.hZ k;unfold jM.f;infer_instance
theorem jM.calls (k:Nat) (a0:BA) (r:Bool) (w:World) (h:jM.f k a0=some r):
  Calls Tryz.prog 72 #[.string a0] w fun e w'=>e= .returned (.bool r)∧Drawn0 w w':=by
 have H:=h;clear h;unfold jM.f at H;have H':=bm H;clear H;go_enter Tryz.func72,Tryz.ntmps72;go_wp2;go_loopg [6] k (fun kq v6 w'=>∃(aj:Int),v6= .int .i64 aj∧hJ (jM.l0 kq a0 (a0.size:Int) aj=some r)∧hJ (kq≤k)∧Drawn0 w w')
 case atStart=>exact⟨(0),eA,H',⟨Nat.le_refl _⟩,by repeat(first|exact Drawn0.refl _|apply Drawn0.step)⟩
 case round=>
  clear H';obtain⟨aj,rfl,HA,b9,⟨m1,rfl⟩⟩:=hrel;cases gk with
  |zero=>exact absurd HA.out (by simp[jM.l0])
  |succ k1=>
   have H:=HA.out;clear HA;simp only[jM.l0]at H;rcases pP H with⟨ay,H⟩|⟨ay,H⟩
   ·obtain⟨br,H⟩:=pN H;obtain⟨eK,H⟩:=pN H;rcases pP H with⟨bs,H⟩|⟨bs,H⟩
    ·obtain rfl:=pd H;have p5:0≤(aj:Int):=ko;have q5:aj<(a0.size:Int):=ko;have ca:=bt_at a0 aj;replace p5:=pM p5;replace q5:=pM q5;go_wp2;go_ret;exact rq
    ·rcases pP H with⟨az,H⟩|⟨az,H⟩
     ·obtain rfl:=pd H;have p5:0≤(aj:Int):=ko;have q5:aj<(a0.size:Int):=ko;have ca:=bt_at a0 aj;replace p5:=pM p5;replace q5:=pM q5;have p7:0≤(aj:Int):=ko;have q7:aj<(a0.size:Int):=ko;have cb:=bt_at a0 aj;replace p7:=pM p7;replace q7:=pM q7;go_wp2;go_ret;exact rq
     ·have H':=bm H;clear H;have p5:0≤(aj:Int):=ko;have q5:aj<(a0.size:Int):=ko;have ca:=bt_at a0 aj;replace p5:=pM p5;replace q5:=pM q5;have p7:0≤(aj:Int):=ko;have q7:aj<(a0.size:Int):=ko;have cb:=bt_at a0 aj;replace p7:=pM p7;replace q7:=pM q7;go_wp2;go_roundg k1
      case measure=>have:=b9.out;omega
      case rel=>exact⟨(wrap64 (aj+1)),eA,H',⟨by have:=b9.out;omega⟩,by repeat(first|exact Drawn0.refl _|apply Drawn0.step)⟩
   ·obtain rfl:=pd H;go_wp2;go_ret;exact rq
def jW.j0:Nat→Bool→Int→BA→Option (BA)
 |0,_,_,_=>none
 |k+1,x7,zd,uZ=>if x7=true then(some (⟨#[]⟩:BA))else(if zd=0 then(if 6+uZ.size≤9223372036854775807 then(some ((⟨#[102,105,114,115,116,32]⟩:BA)++uZ))else(none))else(if zd=1 then(if 4+uZ.size≤9223372036854775807 then(some ((⟨#[97,108,108,32]⟩:BA)++uZ))else(none))else(some (⟨#[]⟩:BA))))
def jW.f (k:Nat) (af:Int) (ae:BA):Option (BA):=if(af==2&&(ae.toList==([]:List UInt8)))=true then(some (⟨#[98,97,99,107]⟩:BA))else(if ae.toList=([]:List UInt8)then(jW.j0 k true af ae)else((jM.f k ae).bind fun aE=>(jW.j0 k (!aE) af ae)))
theorem jW.hZ:∀k,(∀y0 y1 y2,lS (jW.j0 k y0 y1 y2) (jW.j0 (k+1) y0 y1 y2))
 |0=>fun _ _ _=> .z (by simp only[jW.j0])
 |k+1=>by
  have i0:=jW.hZ k;exact fun _ _ _=>by unfold jW.j0;infer_instance
instance jW.mo {k a0 a1}:lS (jW.f k a0 a1) (jW.f (k+1) a0 a1):=by have i0:=jW.hZ k;unfold jW.f;infer_instance
theorem jW.calls (k:Nat) (af:Int) (ae:BA) (r:BA) (w:World) (h:jW.f k af ae=some r):
  Calls Tryz.prog 43 #[.agg #[.int .i64 af,.string ae]] w fun e w'=>e= .returned (.string r)∧Below w.heap.size w w':=by
 have cc:=Tryz.underlying47;have HB:=bm (Below.refl w.heap.size w);have H:=h;clear h;unfold jW.f at H;rcases iT H with⟨c2,H⟩|⟨c2,H⟩
 ·have ay:(af==2&&(ae.toList==([]:List UInt8)))=true:=c2;try have cd:(af==2&&ae.toList.isEmpty)=true:=by have h_:=ay;(repeat rw[Hof.qW]);exact h_
  (try(have aF:decide (af=2&&(ae.toList==([]:List UInt8)))=true:=by simpa using c2));(try(have cf:(af==2&&(ae.toList==([]:List UInt8)))=true:=by simpa using c2));clear c2;obtain rfl:=pd H;go_enter Tryz.func43,Tryz.ntmps43;go_wp2_with (first|(refine re 1 #[.int .i64 af,.string ae] 47 ?_;intro aQ hg _ J hb;have ao:=bm (J);have bw:=bG HB hg;replace HB:=bW HB hb;clear hb J hg;obtain⟨_,_,_,_⟩:=b2 ao));go_ret;exact⟨eF,wZ HB⟩
 ·have ay:(af==2&&(ae.toList==([]:List UInt8)))=false:=by simpa using c2
  (try have cd:(af==2&&ae.toList.isEmpty)=false:=by have h_:=ay;(repeat rw[Hof.qW]);exact h_);(try(have aF:decide (af=2&&(ae.toList==([]:List UInt8)))=false:=by simpa using c2));(try(have cf:(af==2&&(ae.toList==([]:List UInt8)))=false:=by simpa using c2));(try(have eL:¬(af=2&&(ae.toList==([]:List UInt8))):=by simpa using c2));clear c2;have bx:=bm H;clear H;go_enter Tryz.func43,Tryz.ntmps43;go_upto_region 3 with(first|(refine re 1 #[.int .i64 af,.string ae] 47 ?_;intro aQ hg _ J hb;have ao:=bm (J);have bw:=bG HB hg;replace HB:=bW HB hb;clear hb J hg;obtain⟨_,_,_,_⟩:=b2 ao))
  (try simp only[Act.put,qA,qB,qC]);go_cut [7] (fun v7 wc=>∃(kq:Nat) (aG:Bool),v7= .bool aG∧hJ (jW.j0 kq aG af ae=some r)∧hJ (kq≤k)∧oI wc aQ #[.int .i64 af,.string ae] 47∧hJ (Below w.heap.size w wc))
  case first=>
   have H:=bx.out;clear bx;rcases iT H with⟨c8,H⟩|⟨c8,H⟩
   ·obtain⟨az,cg⟩:=pf c8;clear c8;(first|rw[az]|(simp only[i64_w,i32_w];rw[az])|skip);have H':=bm H;clear H;obtain⟨_,_,_,_⟩:=b2 ao;go_wp2;go_meet
    case rel=>exact⟨_,(true),eA,H',⟨by first|omega|exact Nat.le_refl _⟩,⟨kS ao⟩,⟨wZ HB⟩⟩
   ·obtain⟨az,cg⟩:=pe c8;(first|rw[az]|(simp only[i64_w,i32_w];rw[az])|skip);obtain⟨aE,ef,H⟩:=bE H;try dsimp only at H
    have H':=bm H;clear H;obtain⟨_,_,_,_⟩:=b2 ao;go_wp2_with (first|(go_at_call 72;(with_reducible refine(jM.calls k ae aE _ ef.out).mono ?_);rintro e w' ⟨rfl,⟨nd,rfl⟩⟩));go_meet
    case rel=>exact⟨_,(!aE),eA,H',⟨by first|omega|exact Nat.le_refl _⟩,⟨kS ao⟩,⟨wZ HB⟩⟩
  case rest=>
   clear bx;obtain⟨kq,aG,rfl,HA,eU,ao,HB⟩:=hcut;cases kq with
   |zero=>exact absurd HA.out (by simp[jW.j0])
   |succ uR=>
    have H:=HA.out;clear HA;simp only[jW.j0]at H;by_cases bo:aG=true
    ·subst bo;rw[if_pos rfl]at H;obtain rfl:=pd H;go_wp2;go_ret;exact⟨eF,wZ HB⟩
    ·replace bo:=pD bo;subst bo;rw[if_neg pV]at H;rcases iT H with⟨aI,H⟩|⟨aI,H⟩
     ·obtain⟨bA,bB⟩:=pf aI;clear aI;obtain⟨bD,H⟩:=iN H;have eh:=pM bD;have ei:=pK bD;try have ej:(9223372036854775807<6+ae.size)=False:=eq_false (Nat.not_lt.2 bD)
      obtain rfl:=pd H;obtain⟨_,_,_,_⟩:=b2 ao;go_wp2;go_ret;exact⟨eF,wZ HB⟩
     ·obtain⟨bA,bB⟩:=pe aI;rcases iT H with⟨aJ,H⟩|⟨aJ,H⟩
      ·obtain⟨bF,bH⟩:=pf aJ;clear aJ;obtain⟨bJ,H⟩:=iN H;have ek:=pM bJ;have el:=pK bJ;try have en:(9223372036854775807<4+ae.size)=False:=eq_false (Nat.not_lt.2 bJ)
       obtain rfl:=pd H;obtain⟨_,_,_,_⟩:=b2 ao;go_wp2;go_ret;exact⟨eF,wZ HB⟩
      ·obtain⟨bF,bH⟩:=pe aJ;obtain rfl:=pd H;obtain⟨_,_,_,_⟩:=b2 ao;go_wp2;go_ret;exact⟨eF,wZ HB⟩
def pk.f (k:Nat) (a0:BA):Option (Int×BA×Bool):=(strings_Cut.f a0 (⟨#[32]⟩:BA)).bind fun ah=>(if ah.1.toList=([102,105,114,115,116]:List UInt8)then((jW.f k 0 ah.2.1).bind fun aq=>(if aq.toList=a0.toList then(some (0,ah.2.1,true))else(some (0,(⟨#[]⟩:BA),false))))else(if ah.1.toList=([97,108,108]:List UInt8)then((jW.f k 1 ah.2.1).bind fun ar=>(if ar.toList=a0.toList then(some (1,ah.2.1,true))else(some (0,(⟨#[]⟩:BA),false))))else(if ah.1.toList=([98,97,99,107]:List UInt8)then((jW.f k 2 ah.2.1).bind fun au=>(if au.toList=a0.toList then(some (2,ah.2.1,true))else(some (0,(⟨#[]⟩:BA),false))))else(some (0,(⟨#[]⟩:BA),false)))))
instance pk.mo {k a0}:lS (pk.f k a0) (pk.f (k+1) a0):=by unfold pk.f;infer_instance
theorem pk.calls (k:Nat) (a0:BA) (r1:Int) (r2:BA) (r3:Bool) (w:World) (h:pk.f k a0=some (r1,r2,r3)):
  Calls Tryz.prog 40 #[.string a0] w fun e w'=>e= .returned (.tuple #[.agg #[.int .i64 r1,.string r2],.bool r3])∧Below w.heap.size w w':=by
 have cc:=Tryz.underlying47;have HB:=bm (Below.refl w.heap.size w);have H:=h;clear h;unfold pk.f at H;obtain⟨⟨ak,ag,aA⟩,A2,H⟩:=bE H;try dsimp only at H
 rcases iT H with⟨c3,H⟩|⟨c3,H⟩
 obtain⟨br,cr⟩:=pf c3;clear c3;obtain⟨aq,A4,H⟩:=bE H;try dsimp only at H
 rcases iT H with⟨c5,H⟩|⟨c5,H⟩
 obtain⟨bu,ct⟩:=pf c5;clear c5;obtain⟨rfl,rfl,rfl⟩:=s3 H
 rotate_left
 obtain⟨bu,ct⟩:=pe c5;obtain⟨rfl,rfl,rfl⟩:=s3 H
 rotate_left
 obtain⟨br,cr⟩:=pe c3;rcases iT H with⟨aK,H⟩|⟨aK,H⟩
 obtain⟨bO,bT⟩:=pf aK;clear aK;obtain⟨ar,cC,H⟩:=bE H;try dsimp only at H
 rcases iT H with⟨aL,H⟩|⟨aL,H⟩
 obtain⟨bV,bZ⟩:=pf aL;clear aL;obtain⟨rfl,rfl,rfl⟩:=s3 H
 rotate_left
 obtain⟨bV,bZ⟩:=pe aL;obtain⟨rfl,rfl,rfl⟩:=s3 H
 rotate_left
 obtain⟨bO,bT⟩:=pe aK;rcases iT H with⟨aM,H⟩|⟨aM,H⟩
 obtain⟨b0,b1⟩:=pf aM;clear aM;obtain⟨au,cX,H⟩:=bE H;try dsimp only at H
 rcases iT H with⟨aN,H⟩|⟨aN,H⟩
 obtain⟨b4,b5⟩:=pf aN;clear aN;obtain⟨rfl,rfl,rfl⟩:=s3 H
 rotate_left
 obtain⟨b4,b5⟩:=pe aN;obtain⟨rfl,rfl,rfl⟩:=s3 H
 rotate_left
 obtain⟨b0,b1⟩:=pe aM;obtain⟨rfl,rfl,rfl⟩:=s3 H
 rotate_left
 all_goals(go_enter Tryz.func40,Tryz.ntmps40;go_wp2_with (first|(refine re 2 #[.int .i64 0,.string (⟨#[]⟩:BA)] 47 ?_;intro an hg w6 J hb;have I:=bm (J);have av:=bG HB hg;replace HB:=bW HB hb;clear hb J hg)|(refine gB (some 10) Tryz.func39 #[.string a0,.string (⟨#[32]⟩:BA)] rfl ?_;(refine(strings_Cut.calls a0 (⟨#[32]⟩:BA) ak ag aA _ A2.out).mono ?_);rintro e w' ⟨rfl,⟨nd,rfl⟩⟩;refine⟨_,rfl,?_⟩;(try(rw[drewN_self w6];generalize rk:World.drewN w6 _=w6;replace I:oI w6 an #[.int .i64 0,.string (⟨#[]⟩:BA)] 47:=⟨by rw[←rk];exact(kS I)⟩;replace HB:hJ (Below w.heap.size w w6):=⟨by rw[←rk];exact(wZ HB)⟩;clear rk)))|(refine re 7 #[.int .i64 0,.string (⟨#[]⟩:BA)] 47 ?_;intro _ hg _ J hb;have aa:=bm (J);have ax:=bG HB hg;replace HB:=bW HB hb;have ab:=bL I hg;have ad:=bM I hg;replace I:=bU I hb;clear hb J hg;obtain⟨_,_⟩:=pW ad ab;obtain⟨_,_,_,_⟩:=b2 aa;obtain⟨_,_,_,_⟩:=b2 I)|(refine gB (some 28) Tryz.func43 #[.agg #[.int .i64 0,.string ag]] rfl ?_;(refine(jW.calls k 0 ag aq _ A4.out).mono ?_);rintro e _ ⟨rfl,hb⟩;refine⟨_,rfl,?_⟩;replace I:=bU I hb;replace aa:=bP #[.int .i64 0,.string ag] aa hb;replace HB:=bW HB hb;clear hb;obtain⟨_,_,_,_⟩:=b2 aa;obtain⟨_,_,_,_⟩:=b2 I)|(refine gB (some 28) Tryz.func43 #[.agg #[.int .i64 1,.string ag]] rfl ?_;(refine(jW.calls k 1 ag ar _ cC.out).mono ?_);rintro e _ ⟨rfl,hb⟩;refine⟨_,rfl,?_⟩;replace I:=bU I hb;replace aa:=bP #[.int .i64 1,.string ag] aa hb;replace HB:=bW HB hb;clear hb;obtain⟨_,_,_,_⟩:=b2 aa;obtain⟨_,_,_,_⟩:=b2 I)|(refine gB (some 28) Tryz.func43 #[.agg #[.int .i64 2,.string ag]] rfl ?_;(refine(jW.calls k 2 ag au _ cX.out).mono ?_);rintro e _ ⟨rfl,hb⟩;refine⟨_,rfl,?_⟩;replace I:=bU I hb;replace aa:=bP #[.int .i64 2,.string ag] aa hb;replace HB:=bW HB hb;clear hb;obtain⟨_,_,_,_⟩:=b2 aa;obtain⟨_,_,_,_⟩:=b2 I)))
 ·refine rE #[.int .i64 0,.string ag] (kP I) Tryz.underlying47 ?_;exact⟨eF,wZ HB⟩
 ·refine rE #[.int .i64 0,.string (⟨#[]⟩:BA)] (kP I) Tryz.underlying47 ?_;exact⟨eF,wZ HB⟩
 ·refine rE #[.int .i64 1,.string ag] (kP I) Tryz.underlying47 ?_;exact⟨eF,wZ HB⟩
 ·refine rE #[.int .i64 0,.string (⟨#[]⟩:BA)] (kP I) Tryz.underlying47 ?_;exact⟨eF,wZ HB⟩
 ·refine rE #[.int .i64 2,.string ag] (kP I) Tryz.underlying47 ?_;exact⟨eF,wZ HB⟩
 iterate 2(refine rE #[.int .i64 0,.string (⟨#[]⟩:BA)] (kP I) Tryz.underlying47 ?_;exact⟨eF,wZ HB⟩)
def jJ.l (p:Int→Option Bool):Nat→Int→Int→Option Int
 |0,_,s=>some s
 |n+1,x,s=>(p x).bind fun b=>jJ.l p n (x+1) (if b=true then Go.bits .or .i64 s (shl .i64 1 x)else s)
def jJ.f (p:Int→Option Bool) (things:Int):Option Int:=if 0≤things then(if things≤3 then jJ.l p (2^things.toNat) 0 0 else none)else none
theorem jJ.calls (g:Nat) (lb:Array Value) (eg:∀args w,(callFunc g args).run Tryz.prog w= .ok (.enter g args) w) (p:Int→Option Bool)
  (things:Int) (r:Int) (w:World) (hp:Hof.tQ g lb p w) (h:jJ.f p things=some r):
  Calls Tryz.prog 114 #[.int .i64 things,.func (.func g) #[] lb] w fun e w'=>e= .returned (.int .i64 r)∧Below w.heap.size w w':=by
 have HP:=bm hp;clear hp
 have h2:0≤things∧things≤3∧jJ.l p (2^things.toNat) 0 0=some r:=by
  unfold jJ.f at h;by_cases a:0≤things
  ·rw[if_pos a]at h;by_cases b:things≤3
   ·rw[if_pos b]at h;exact⟨a,b,h⟩
   ·rw[if_neg b]at h;cases h
  ·rw[if_neg a]at h;cases h
 obtain⟨h0,h3,h⟩:=h2;obtain⟨t,rfl⟩:=Int.eq_ofNat_of_zero_le h0;rw[Int.toNat_natCast]at h
 have hN:((2^t:Nat):Int)≤8∧IntKind.i64.wrap (2^min t 64)=((2^t:Nat):Int):=by
  rcases(by omega:t=0∨t=1∨t=2∨t=3)with rfl|rfl|rfl|rfl<;>exact⟨by decide,by decide+kernel⟩
 obtain⟨N,eN⟩:∃N:Nat,N=2^t:=⟨_,rfl⟩;rw[←eN]at hN h;obtain⟨e8,b6⟩:=hN;have HF:wrap64 (2^min t 64)=(N:Int):=(i64_w _).symm.trans b6;have H':hJ (jJ.l p N 0 0=some r):=⟨h⟩;have eE:=pM h0;clear h h0 h3 eN;go_enter Tryz.func114,Tryz.ntmps114;go_wp2;go_loopg [5,9] N (fun gg s5 s9 wr=>∃(n:Nat) (x s:Int),0≤x∧x+n=(N:Int)∧n≤gg∧s5= .int .i64 s∧s9= .int .i64 x∧hJ (Below w.heap.size w wr)∧hJ (jJ.l p n x s=some r))
 case atStart=>exact⟨N,0,0,by omega,by omega,Nat.le_refl _,rfl,rfl,⟨Below.refl _ _⟩,H'⟩
 case round=>
  clear H';obtain⟨n,x,s,eG,e9,hg,rfl,rfl,HB,HA⟩:=hrel;cases n with
  |zero=>
   have fa:¬x<(N:Int):=by omega
   obtain rfl:s=r:=by have:=HA.out;simpa [jJ.l] using this
   clear HA b6 HF;go_wp2;go_ret;exact⟨rfl,HB.out⟩
  |succ n=>
   have fb:x<(N:Int):=by omega
   have fc:x≤7:=by omega
   obtain⟨b,hb,bd⟩:=Option.bind_eq_some_iff.mp (show((p x).bind fun b=>jJ.l p n (x+1) (if b=true then Go.bits .or .i64 s (shl .i64 1 x)else s))=some r from HA.out);have bf:=HP.out wr x b HB.out hb;have vE:=bm bd;clear bd hb HA HP b6 HF;have px:=pM eG;cases b with
   |true=>
    obtain⟨j,hj⟩:∃j:Int,shl .i64 1 x=j:=⟨_,rfl⟩;have b7:hJ (jJ.l p n (x+1) (Go.bits .or .i64 s j)=some r):=⟨by have:=vE.out;rw[if_pos rfl,hj]at this;exact this⟩;have dE:IntKind.i64.wrap (2^min x.toNat 64)=j:=by have h_:IntKind.i64.wrap (1*2^min x.toNat 64)=j:=hj;rw[Int.one_mul]at h_;exact h_
    have eH:IntKind.i64.wrap (2^x.toNat)=j:=by rw[←dE,show min x.toNat 64=x.toNat from by omega]
    have fe:wrap64 (2^x.toNat)=j:=(i64_w _).symm.trans eH;have ff:wrap64 (2^min x.toNat 64)=j:=(i64_w _).symm.trans dE;clear hj vE;go_wp2_with fail;refine bf.mono ?_;rintro e w' ⟨rfl,hb'⟩;go_wp2_with fail;go_roundg n
    case measure=>omega
    case rel=>exact⟨n,x+1,_,by omega,by omega,Nat.le_refl _,eA,by go_num,⟨below_then HB.out HB.out.size hb'⟩,b7⟩
   |false=>
    have b7:hJ (jJ.l p n (x+1) s=some r):=⟨by have:=vE.out;simpa using this⟩;clear vE;go_wp2_with fail;refine bf.mono ?_;rintro e w' ⟨rfl,hb'⟩;go_wp2_with fail;go_roundg n
    case measure=>omega
    case rel=>exact⟨n,x+1,_,by omega,by omega,Nat.le_refl _,eA,by go_num,⟨below_then HB.out HB.out.size hb'⟩,b7⟩
theorem kt.yh (x y:Int):0≤shl .u64 x y:=by
 unfold shl;rw[show IntKind.u64.wrap (x*2^min y.toNat IntKind.u64.bits)=(x*2^min y.toNat IntKind.u64.bits)%18446744073709551616 from by simp[IntKind.wrap,IntKind.bits,IntKind.signed]];exact Int.emod_nonneg _ (by decide)
def kt.f (a0:Int):Option (Int):=if 0≤a0 then(some (wrap64 ((shl .i64 1 (shl .u64 1 a0)) - 1)))else(none)
theorem kt.calls (a0:Int) (r:Int) (w:World) (h:kt.f a0=some r):
  Calls Tryz.prog 116 #[.int .i64 a0] w fun e w'=>e= .returned (.int .i64 r)∧Drawn0 w w':=by
 have H:=h;clear h;unfold kt.f at H;obtain⟨ay,aF,H⟩:=pO H;obtain rfl:=pd H;clear H;have p:=kt.yh 1 a0;obtain⟨aO,bg⟩:∃j_:Int,(shl .u64 1 a0)=j_:=⟨_,rfl⟩;rw[bg]at p⊢;have b8:(IntKind.u64.wrap (1*2^min a0.toNat 64))=aO:=bg;have eI:(IntKind.u64.wrap (2^min a0.toNat 64))=aO:=by have h_:=b8;rw[Int.one_mul]at h_;exact h_
 have eE:=pM p;have fg:decide (0≤aO)=true:=pK p;have fh:decide (aO<0)=false:=pF (by omega)
 have e5:wrap64 (2^min aO.toNat 64)=shl .i64 1 aO:=by
  unfold shl;rw[i64_w,Int.one_mul];rfl
 have E5:=bm e5;clear bg p e5;go_enter Tryz.func116,Tryz.ntmps116;go_wp2;go_ret;rw[←E5.out];exact⟨rfl,Drawn0.refl _⟩
def jA (w0 W:World) (g:Nat) (f0:Int) (f1:BA) (f2:Int):Prop:=W.heap[g]?=some (.cells #[.int .i64 f0,.string f1,.int .i64 f2] 130 (0,0))∧w0.heap.size≤g
theorem jA.grown {w0 W:World} {g:Nat} {f0:Int} {f1:BA} {f2:Int} {W1:World} {row:Option Nat} (h:jA w0 W g f0 f1 f2) (hw:W.grownBy W1 row) (bh:some g≠row):jA w0 W1 g f0 f1 f2:=by
 obtain⟨hb,hg⟩:=h;exact⟨blk_grown hb hw bh,hg⟩
theorem jA.Cl {w0 W:World} {g:Nat} {f0:Int} {f1:BA} {f2:Int} {α:Type} {d:Kd α} {e:Nat} {base:Nat} {ok:Nat→Prop} {v:Value} {xs:List α} (h:jA w0 W g f0 f1 f2) (ho:Kd.N d e W base ok v xs) (ht:e≠130):some g≠v.ownBlock:=by
 obtain⟨hb,hg⟩:=h;exact Kd.N_ne ho hb ht
theorem jA.fresh {w0 W:World} {g:Nat} {f0:Int} {f1:BA} {f2:Int} (h:jA w0 W g f0 f1 f2):∀k,W.heap.size≤k→k≠g:=by
 obtain⟨hb,hg⟩:=h;exact Kd.freshB hb
theorem jA.kept {w0 W:World} {g:Nat} {f0:Int} {f1:BA} {f2:Int} {W1:World} {S:Nat→Prop} (h:jA w0 W g f0 f1 f2) (hk:Kept W W1 S) (bh:¬S g):jA w0 W1 g f0 f1 f2:=by
 obtain⟨hb,hg⟩:=h;exact⟨blk_kept hb hk bh,hg⟩
theorem jA.below {w0 W:World} {g:Nat} {f0:Int} {f1:BA} {f2:Int} {W1:World} (h:jA w0 W g f0 f1 f2) (hw:Below W.heap.size W W1):jA w0 W1 g f0 f1 f2:=h.grown (grown_of_below hw none) (by simp)
theorem jA.bX {w0 W:World} {g:Nat} {f0:Int} {f1:BA} {f2:Int} {W1:World} [s:zL W W1] (h:jA w0 W g f0 f1 f2):jA w0 W1 g f0 f1 f2:=h.below s.b
theorem jA.alloc {w0 W:World} {g:Nat} {f0:Int} {f1:BA} {f2:Int} (h:jA w0 W g f0 f1 f2) (o:Obj):jA w0 (W.alloc o) g f0 f1 f2:=h.below (zK (Below.refl _ _) o)
theorem jA.drewN {w0 W:World} {g:Nat} {f0:Int} {f1:BA} {f2:Int} (h:jA w0 W g f0 f1 f2) (m:Nat):jA w0 (W.drewN m) g f0 f1 f2:=h
theorem jA.drew {w0 W:World} {g:Nat} {f0:Int} {f1:BA} {f2:Int} (h:jA w0 W g f0 f1 f2):jA w0 W.drew g f0 f1 f2:=h
theorem jA.at_ {w0 W:World} {g:Nat} {f0:Int} {f1:BA} {f2:Int} {w':World} {m:Nat} (hq:W.drewN m=w') (h:jA w0 W g f0 f1 f2):jA w0 w' g f0 f1 f2:=by subst hq;exact jA.drewN h m
theorem jA.apart {w0 W:World} {g:Nat} {f0:Int} {f1:BA} {f2:Int} {α:Type} {d:Kd α} {e:Nat} {base:Nat} {ok:Nat→Prop} {v:Value} {xs:List α} (h:jA w0 W g f0 f1 f2) (ho:d.R e W base ok v xs) (ht:∀q,q∈e::d.E→q≠130):d.R e W base (fun k=>ok k∧k≠g) v xs:=by
 obtain⟨hb,hg⟩:=h;exact Kd.R_types ho hb ht
theorem jA.own_ne {w0 W:World} {g:Nat} {f0:Int} {f1:BA} {f2:Int} {α:Type} {d:Kd α} {e:Nat} {base:Nat} {ok:Nat→Prop} {v:Value} {xs:List α} (h:jA w0 W g f0 f1 f2) (ho:d.R e W base ok v xs) (ht:e≠130):some g≠v.ownBlock:=by
 obtain⟨hb,hg⟩:=h;exact Kd.R_ne ho hb ht
theorem jA.rf {w0 W:World} {g:Nat} {f0:Int} {f1:BA} {f2:Int} {α:Type} {d:Kd α} {e:Nat} {base:Nat} {ok:Nat→Prop} {v:Value} {xs:List α} (h:jA w0 W g f0 f1 f2) (ho:d.Q e W base ok v xs) (ht:∀q,q∈e::d.E→q≠130):d.Q e W base (fun k=>ok k∧k≠g) v xs:=by
 obtain⟨hb,hg⟩:=h;exact Kd.Q_types ho hb ht
theorem jA.yS {w0 W:World} {g:Nat} {f0:Int} {f1:BA} {f2:Int} {α:Type} {d:Kd α} {e:Nat} {base:Nat} {ok:Nat→Prop} {v:Value} {xs:List α} (h:jA w0 W g f0 f1 f2) (ho:d.Q e W base ok v xs) (ht:e≠130):some g≠v.ownBlock:=by
 obtain⟨hb,hg⟩:=h;exact Kd.Q_ne ho hb ht
theorem jA.Av {w0 W:World} {g:Nat} {f0:Int} {f1:BA} {f2:Int} {α:Type} {d:Kd α} {e:Nat} {base:Nat} {ok:Nat→Prop} {v:Value} {xs:List α} (h:jA w0 W g f0 f1 f2) (ho:d.S e W base ok v xs) (ht:∀q,q∈e::d.E→q≠130):d.S e W base (fun k=>ok k∧k≠g) v xs:=by
 obtain⟨hb,hg⟩:=h;exact Kd.S_types ho hb ht
theorem jA.Cm {w0 W:World} {g:Nat} {f0:Int} {f1:BA} {f2:Int} {α:Type} {d:Kd α} {e:Nat} {base:Nat} {ok:Nat→Prop} {v:Value} {xs:List α} (h:jA w0 W g f0 f1 f2) (ho:d.S e W base ok v xs) (ht:e≠130):some g≠v.ownBlock:=by
 obtain⟨hb,hg⟩:=h;exact Kd.S_ne ho hb ht
theorem jA.lt {w0 W:World} {g:Nat} {f0:Int} {f1:BA} {f2:Int} (h:jA w0 W g f0 f1 f2):g<W.heap.size:=by
 obtain⟨hb,hg⟩:=h;exact Ao hb
theorem jA.ge {w0 W:World} {g:Nat} {f0:Int} {f1:BA} {f2:Int} (h:jA w0 W g f0 f1 f2):w0.heap.size≤g:=by
 obtain⟨hb,hg⟩:=h;exact hg
theorem jA.yf {w0 W:World} {g:Nat} {f0:Int} {f1:BA} {f2:Int} {a:Nat} {cs:Array Value} {t:TypeId} {fr:Nat×Nat} (h:jA w0 W g f0 f1 f2) (bp:W.heap[a]?=some (.cells cs t fr)) (ht:t≠130):g≠a:=by
 obtain⟨hb,hg⟩:=h;rintro rfl;rw[hb]at bp;injection bp with bp
 injection bp with _ ht2
 exact ht ht2.symm
theorem jA.far {w0 W:World} {g:Nat} {f0:Int} {f1:BA} {f2:Int} {p:Addr} (h:jA w0 W g f0 f1 f2) (bh:g≠p.block) (u:Value):jA w0 (W.setCell p u) g f0 f1 f2:=by
 obtain⟨hb,hg⟩:=h;exact⟨Ch hb bh u,hg⟩
theorem tf {W:World} {g:Nat} {f0:Int} {f1:BA} {f2:Int} (h:W.heap[g]?=some (.cells #[.int .i64 f0,.string f1,.int .i64 f2] 130 (0,0))):W.cell? ⟨g,0,none⟩=some (.int .i64 f0):=(yc h 0).trans rfl
theorem jA.Fj {w0 W:World} {g:Nat} {f0:Int} {f1:BA} {f2:Int} (h:jA w0 W g f0 f1 f2) (x:Int):jA w0 (W.setCell ⟨g,0,none⟩ (.int .i64 x)) g x f1 f2:=by
 obtain⟨hb,hg⟩:=h;exact⟨by simpa using blk_set hb 0 (.int .i64 x),hg⟩
theorem vF {W:World} {g:Nat} {f0:Int} {f1:BA} {f2:Int} (h:W.heap[g]?=some (.cells #[.int .i64 f0,.string f1,.int .i64 f2] 130 (0,0))):W.cell? ⟨g,1,none⟩=some (.string f1):=(yc h 1).trans rfl
theorem jA.qw {w0 W:World} {g:Nat} {f0:Int} {f1:BA} {f2:Int} (h:jA w0 W g f0 f1 f2) (x:BA):jA w0 (W.setCell ⟨g,1,none⟩ (.string x)) g f0 x f2:=by
 obtain⟨hb,hg⟩:=h;exact⟨by simpa using blk_set hb 1 (.string x),hg⟩
theorem tR {W:World} {g:Nat} {f0:Int} {f1:BA} {f2:Int} (h:W.heap[g]?=some (.cells #[.int .i64 f0,.string f1,.int .i64 f2] 130 (0,0))):W.cell? ⟨g,2,none⟩=some (.int .i64 f2):=(yc h 2).trans rfl
theorem jA.Fk {w0 W:World} {g:Nat} {f0:Int} {f1:BA} {f2:Int} (h:jA w0 W g f0 f1 f2) (x:Int):jA w0 (W.setCell ⟨g,2,none⟩ (.int .i64 x)) g f0 f1 x:=by
 obtain⟨hb,hg⟩:=h;exact⟨by simpa using blk_set hb 2 (.int .i64 x),hg⟩
theorem jA.new (w0 W:World) (f0:Int) (f1:BA) (f2:Int) (hB:Below w0.heap.size w0 W):jA w0 (W.alloc (.cells #[.int .i64 f0,.string f1,.int .i64 f2] 130)) W.heap.size f0 f1 f2:=⟨by simpa using heap_alloc_new W _,hB.size⟩
theorem jA.z {w0 W W':World} {g:Nat} {f0 dF:Int} {f1 dG:BA} {f2 dH:Int} (h:hJ (jA w0 W g f0 f1 f2)) (s:jA w0 W g f0 f1 f2→jA w0 W' g dF dG dH:=by intro h;repeat(with_reducible first|exact h|apply jA.bX|apply jA.Fj|apply jA.qw|apply jA.Fk|refine jA.far ?_ aX _)):jA w0 W' g dF dG dH:=s h.out
theorem jA.y {w0 W W':World} {g:Nat} {f0:Int} {f1:BA} {f2:Int} (h:hJ (jA w0 W g f0 f1 f2)) (s:jA w0 W g f0 f1 f2→jA w0 W' g f0 f1 f2:=by intro h;repeat(with_reducible first|exact h|apply jA.bX|refine jA.far ?_ aX _)):jA w0 W' g f0 f1 f2:=s h.out
def jx.f (aB:Int) (al:BA) (ai:Int):Option (Int×Int×BA×Int):=if ai=(al.size:Int)then(some (0,aB,al,ai))else(if 0≤(wrap64 ((wrap64 (ai+1)) - 1))then(if(wrap64 ((wrap64 (ai+1)) - 1))<(al.size:Int)then(some (bt al (wrap64 ((wrap64 (ai+1)) - 1)),aB,al,wrap64 (ai+1)))else(none))else(none))
theorem jx.calls (g:Nat) (aB:Int) (al:BA) (ai:Int) (r1:Int) (r2:Int) (r3:BA) (r4:Int) (w0 w:World) (hI:jA w0 w g aB al ai) (hB:Below w0.heap.size w0 w) (h:jx.f aB al ai=some (r1,r2,r3,r4)):
  Calls Tryz.prog 141 #[.pointer (some ⟨g,0,none⟩)] w fun e w'=>e= .returned (.int .u8 r1)∧jA w0 w' g r2 r3 r4∧Below w0.heap.size w0 w'∧kN w w' g none:=by
 have aP:=bm hI;have HK:=bm (kN.refl w g none);have HL:=bm hB.size;clear hI;have fi:=bm hB.size;have HB:=bm hB;clear hB;have H:=h;clear h;unfold jx.f at H;rcases iT H with⟨c2,H⟩|⟨c2,H⟩
 ·obtain⟨ay,aF⟩:=pf c2;clear c2;obtain⟨rfl,rfl,rfl,rfl⟩:=s4 H;obtain⟨aC,dI⟩:=aP.out;have dS:=tf aC;have dT:=vF aC;have dU:=tR aC;have dV:=qZ aC 0;have dW:=qZ aC 1;have dX:=qZ aC 2;clear aC dI;go_enter Tryz.func141,Tryz.ntmps141;go_wp2;repeat(go_quiet (fail);try go_wp2)
  go_ret;exact⟨eF,jA.z aP,wI HB (jA.ge aP.out),kZ HK⟩
 ·obtain⟨ay,aF⟩:=pe c2;obtain⟨bq,aH⟩:∃j_:Int,(wrap64 ((wrap64 (ai+1)) - 1))=j_:=⟨_,rfl⟩;first|rw[aH]at H|simp only[aH]at H
  have eJ:(IntKind.i64.wrap ((wrap64 (ai+1)) - 1))=bq:=(i64_w _).trans aH;obtain⟨bu,H⟩:=pN H;obtain⟨bs,H⟩:=pN H;obtain⟨rfl,rfl,rfl,rfl⟩:=s4 H;obtain⟨aD,dJ⟩:=aP.out;have dY:=tf aD;have dZ:=vF aD;have ea:=tR aD;have eb:=qZ aD 0;have ec:=qZ aD 1;have ed:=qZ aD 2;clear aD dJ;have p7:0≤((bq):Int):=ko;have q7:(bq)<(al.size:Int):=ko;have cb:=bt_at al (bq);replace p7:=pM p7;replace q7:=pM q7;go_enter Tryz.func141,Tryz.ntmps141;go_wp2;repeat(go_quiet (fail);try go_wp2)
  go_ret;exact⟨by first|rfl|(simp[iJ,iK]<;>rfl)|(simp only[←aH];first|rfl|(simp[iJ,iK]<;>rfl))|(simp[*,iJ,iK]<;>rfl),jA.z aP,wI HB (jA.ge aP.out),kZ HK⟩
end Go.Proofs.YtigeaokfhnlkcaaGreatDoor.P
