import Derived.Test.YtihgpkohglcijaaGreatDoorPx0
import Derived.Test.YtihgpkohglcijaaGreatDoorPx2
import Derived.Test.YtihgpkohglcijaaGreatDoorPx4
import Derived.Test.YtihgpkohglcijaaGreatDoorPx6
import Derived.Test.YtihgpkohglcijaaGreatDoorPx8
namespace Go.Proofs.YtihgpkohglcijaaGreatDoor.P
open Go.RowKit Go.Proofs.YtihgpkohglcijaaGreatDoorW.PrintWords Go.Proofs.YtihgpkohglcijaaGreatDoorW.PrintLast Go.Proofs.YtihgpkohglcijaaGreatDoorW.PrintMore
attribute [local go_sem] max2_int min2_int max_two min_two max_three min_three max_four min_four   -- for this text's walks alone
set_option linter.unusedVariables false
set_option linter.unusedSimpArgs false
set_option maxHeartbeats 8000000
set_option maxRecDepth 100000
def strconv_Itoa.f (n:Int):Option ByteArray:=if 0≤n then(if n<100 then some (⟨(Lib.decDigits n.toNat).toArray⟩:ByteArray)else none)else none
theorem strconv_Itoa.calls (n:Int) (r:ByteArray) (w:World) (h:strconv_Itoa.f n=some r):
  Calls Tryz.prog 129 #[.int .i64 n] w fun e w'=>e= .returned (.string r)∧Drawn0 w w':=by
 unfold strconv_Itoa.f at h;by_cases h0:0≤n
 ·rw[if_pos h0]at h;by_cases h1:n<100
  ·rw[if_pos h1]at h;obtain rfl:=vU h;obtain⟨i,rfl⟩:=Int.eq_ofNat_of_zero_le h0;refine(Tryz.strconv_Itoa_small i (by omega) w).mono ?_;rintro e w' ⟨rfl,rfl⟩;exact⟨rfl,Drawn0.refl _⟩
  ·rw[if_neg h1]at h;cases h
 ·rw[if_neg h0]at h;cases h
def strings_Join.f (l0:List ByteArray) (a1:ByteArray):Option ByteArray:=if l0.length≤140737488355328 then(if(Lib.join (l0.map (·.data.toList)) a1.data.toList).length≤140737488355328 then some (⟨(Lib.join (l0.map (·.data.toList)) a1.data.toList).toArray⟩:ByteArray)else none)else none
theorem strings_Join.own {d:Kd ByteArray} {e n c base:Nat} {w:World} {ok:Nat→Prop} {A:Option Addr} {xs:List ByteArray} (h:d.R e w base ok (.slice A n c) xs):∀a,A=some a→a.spot=none:=by
 obtain⟨_,inner,⟨_,hh⟩,_⟩:=h;intro a ha;rcases hh with⟨e1,_⟩|⟨g,cap,cur,e1,_⟩
 ·cases e1;cases ha
 ·cases e1;cases ha;rfl
theorem strings_Join.calls (A0:Option Addr) (c0:Nat) (l0:List ByteArray) (a1:ByteArray) (r:ByteArray) (w:World) (dj:Kd.C Kd.string w A0 l0.length l0) (dk:l0.length≤c0) (ha:∀a,A0=some a→a.spot=none) (h:strings_Join.f l0 a1=some r):
  Calls Tryz.prog 130 #[.slice A0 l0.length c0,.string a1] w fun e w'=>e= .returned (.string r)∧Below w.heap.size w w':=by
 unfold strings_Join.f at h;by_cases h1:l0.length≤140737488355328
 ·rw[if_pos h1]at h;by_cases h2:(Lib.join (l0.map (·.data.toList)) a1.data.toList).length≤140737488355328
  ·rw[if_pos h2]at h;obtain rfl:=vU h;by_cases hp:l0.length=0
   ·obtain rfl:=List.eq_nil_of_length_eq_zero hp;refine(Tryz.strings_Join_none A0 c0 a1 w).mono ?_;rintro e w' ⟨rfl,rfl⟩;exact⟨rfl,Below.refl _ _⟩
   ·obtain⟨ad,rfl,hc⟩:=dj.2.2 (by omega);obtain⟨bk,o,sp⟩:=ad;obtain rfl:sp=none:=ha _ rfl
    have bb:∀(j:Nat) x,l0[j]?=some x→w.cell? ⟨bk,o+j,none⟩=some (.string x):=by
     intro j x hx;obtain⟨c,hl,hk,dm⟩:=hc j x hx;obtain rfl:c= [.string x]:=hk;have:=dm 0 _ rfl;rw[show j*Kd.string.sz+0=j from Nat.mul_one j]at this;exact(congrArg w.cell? (show(⟨bk,o,none⟩:Addr).add j=⟨bk,o+j,none⟩ from by unfold Addr.add;split<;>simp_all)).symm.trans this
    have dn:bk<w.heap.size:=by
     exact World.block_lt_of_cell? _ _ (bb 0 _ (List.getElem?_eq_getElem (Nat.pos_of_ne_zero hp)))
    exact Tryz.strings_Join bk o c0 l0 a1 w bb dn h1 dk h2
  ·rw[if_neg h2]at h;cases h
 ·rw[if_neg h1]at h;cases h
def yM.f (s:ByteArray):Option (ByteArray×ByteArray×Bool):=if s.size<4294967281 then some (⟨(Lib.cut s.data.toList [45,62]).1.toArray⟩,⟨(Lib.cut s.data.toList [45,62]).2.1.toArray⟩,(Lib.cut s.data.toList [45,62]).2.2)else none
theorem yM.calls (s:ByteArray) (r1 r2:ByteArray) (r3:Bool) (m:Int) (w:World) (hm:w.cell? ⟨0,0,none⟩=some (.int .i64 m)) (h:yM.f s=some (r1,r2,r3)):
  Calls Tryz.prog 85 #[.string s,.string (⟨#[45,62]⟩:ByteArray)] w fun e w'=>e= .returned (.tuple #[.string r1,.string r2,.bool r3])∧Drawn0 w w':=by
 unfold yM.f at h;by_cases hs:s.size<4294967281
 ·rw[if_pos hs]at h;simp only[Option.some.injEq,Prod.mk.injEq]at h;obtain⟨rfl,rfl,rfl⟩:=h;refine(Tryz.strings_Cut s ⟨#[45,62]⟩ m w hs hm).mono ?_;rintro e w' ⟨rfl,hd⟩;exact⟨rfl,⟨hd⟩⟩
 ·rw[if_neg hs]at h;cases h
def qD.f (k:Nat) (a0:Int) (a1:ByteArray):Option (Int×Int×Bool):=(yM.f a1).bind fun ai=>((oF.f k a0 ai.1).bind fun aj=>((oF.f k a0 ai.2.1).bind fun an=>(if ai.2.2=true then(if aj.2=true then(if an.2=true then(if aj.1=0 then(some (0,0,false))else(some (aj.1,an.1,true)))else(some (0,0,false)))else(some (0,0,false)))else(some (0,0,false)))))
instance qD.mo {k a0 a1}:qg (qD.f k a0 a1) (qD.f (k+1) a0 a1):=by unfold qD.f;infer_instance
theorem qD.calls (k:Nat) (a0:Int) (a1:ByteArray) (r1:Int) (r2:Int) (r3:Bool) (w:World) (m:Int) (hm:w.cell? ⟨0,0,none⟩=some (.int .i64 m)) (h:qD.f k a0 a1=some (r1,r2,r3)):
  Calls Tryz.prog 131 #[.int .i64 a0,.string a1] w fun e w'=>e= .returned (.tuple #[.agg #[.int .i64 r1,.int .i64 r2],.bool r3])∧Below w.heap.size w w':=by
 have cm:=Tryz.underlying76;have HB:=bm (Below.refl w.heap.size w);have HM:=bm (fun W (hb:Below w.heap.size w W)=>(hb.cell (World.block_lt_of_cell? _ _ hm)).trans hm);clear hm;have H:=h;clear h;unfold qD.f at H;obtain⟨⟨t235,t236,t237⟩,A3,H⟩:=bE H;try dsimp only at H
 obtain⟨⟨t238,t239⟩,A4,H⟩:=bE H;try dsimp only at H
 obtain⟨⟨t240,t241⟩,A5,H⟩:=bE H;try dsimp only at H
 by_cases c6:t237=true
 ·subst c6;rw[if_pos rfl]at H;by_cases c7:t239=true
  ·subst c7;rw[if_pos rfl]at H;by_cases c8:t241=true
   ·subst c8;rw[if_pos rfl]at H;rcases iT H with⟨c9,H⟩|⟨c9,H⟩
    ·obtain⟨bO,bT⟩:=vW c9;clear c9;obtain⟨rfl,rfl,rfl⟩:=s3 H;go_enter Tryz.func131,Tryz.ntmps131;go_wp2_with (first|(refine rz 4 #[.int .i64 0,.int .i64 0] 76 ?_;intro aa hg br ab hb;have I:=bm (ab);have aH:=bG HB hg;replace HB:=bW HB hb;clear hb ab hg)|(refine gB (some 15) Tryz.func85 #[.string a1,.string (⟨#[45,62]⟩:ByteArray)] rfl ?_;(with_reducible refine(yM.calls a1 t235 t236 true m _ (HM.out _ (wZ HB)) A3.out).mono ?_);rintro e w' ⟨rfl,⟨nd,rfl⟩⟩;refine⟨_,rfl,?_⟩;(try(rw[drewN_self br];generalize rp:World.drewN br _=br;replace I:rG br aa #[.int .i64 0,.int .i64 0] 76:=⟨by rw[←rp];exact(kS I)⟩;replace HB:jX (Below w.heap.size w br):=⟨by rw[←rp];exact(wZ HB)⟩;clear rp)))|(refine gB (some 22) Tryz.func15 #[.int .i64 a0,.string t235] rfl ?_;(with_reducible refine(oF.calls k a0 t235 t238 true _ A4.out).mono ?_);rintro e dL ⟨rfl,hb⟩;refine⟨_,rfl,?_⟩;replace I:=bU I hb;replace HB:=bW HB hb;clear hb)|(refine gB (some 28) Tryz.func15 #[.int .i64 a0,.string t236] rfl ?_;(with_reducible refine(oF.calls k a0 t236 t240 true _ A5.out).mono ?_);rintro e dM ⟨rfl,hb⟩;refine⟨_,rfl,?_⟩;replace I:=bU I hb;replace HB:=bW HB hb;clear hb;obtain⟨cn,cp,cq,cr⟩:=b2 I));refine bodyPost_ret (results_ct rfl _ _ aa 76 #[.int .i64 0,.int .i64 0] (0,0) _ rfl (kP I) Tryz.underlying76 rfl (by kernel_rfl)) rfl ?_;exact vZ HB
    ·obtain⟨bO,bT⟩:=vV c9;obtain⟨rfl,rfl,rfl⟩:=s3 H;go_enter Tryz.func131,Tryz.ntmps131;go_wp2_with (first|(refine rz 4 #[.int .i64 0,.int .i64 0] 76 ?_;intro aa hg bs ab hb;have I:=bm (ab);have aH:=bG HB hg;replace HB:=bW HB hb;clear hb ab hg)|(refine gB (some 15) Tryz.func85 #[.string a1,.string (⟨#[45,62]⟩:ByteArray)] rfl ?_;(with_reducible refine(yM.calls a1 t235 t236 true m _ (HM.out _ (wZ HB)) A3.out).mono ?_);rintro e w' ⟨rfl,⟨nd,rfl⟩⟩;refine⟨_,rfl,?_⟩;(try(rw[drewN_self bs];generalize rp:World.drewN bs _=bs;replace I:rG bs aa #[.int .i64 0,.int .i64 0] 76:=⟨by rw[←rp];exact(kS I)⟩;replace HB:jX (Below w.heap.size w bs):=⟨by rw[←rp];exact(wZ HB)⟩;clear rp)))|(refine gB (some 22) Tryz.func15 #[.int .i64 a0,.string t235] rfl ?_;(with_reducible refine(oF.calls k a0 t235 t238 true _ A4.out).mono ?_);rintro e dN ⟨rfl,hb⟩;refine⟨_,rfl,?_⟩;replace I:=bU I hb;replace HB:=bW HB hb;clear hb)|(refine gB (some 28) Tryz.func15 #[.int .i64 a0,.string t236] rfl ?_;(with_reducible refine(oF.calls k a0 t236 t240 true _ A5.out).mono ?_);rintro e dO ⟨rfl,hb⟩;refine⟨_,rfl,?_⟩;replace I:=bU I hb;replace HB:=bW HB hb;clear hb;obtain⟨ct,cu,cv,cw⟩:=b2 I));refine bodyPost_ret (results_ct rfl _ _ aa 76 #[.int .i64 t238,.int .i64 t240] (0,0) _ rfl (kP I) Tryz.underlying76 rfl (by kernel_rfl)) rfl ?_;exact vZ HB
   ·replace c8:=uZ c8;subst c8;rw[if_neg vM]at H;obtain⟨rfl,rfl,rfl⟩:=s3 H;go_enter Tryz.func131,Tryz.ntmps131;go_wp2_with (first|(refine rz 4 #[.int .i64 0,.int .i64 0] 76 ?_;intro aa hg bu ab hb;have I:=bm (ab);have aH:=bG HB hg;replace HB:=bW HB hb;clear hb ab hg)|(refine gB (some 15) Tryz.func85 #[.string a1,.string (⟨#[45,62]⟩:ByteArray)] rfl ?_;(with_reducible refine(yM.calls a1 t235 t236 true m _ (HM.out _ (wZ HB)) A3.out).mono ?_);rintro e w' ⟨rfl,⟨nd,rfl⟩⟩;refine⟨_,rfl,?_⟩;(try(rw[drewN_self bu];generalize rp:World.drewN bu _=bu;replace I:rG bu aa #[.int .i64 0,.int .i64 0] 76:=⟨by rw[←rp];exact(kS I)⟩;replace HB:jX (Below w.heap.size w bu):=⟨by rw[←rp];exact(wZ HB)⟩;clear rp)))|(refine gB (some 22) Tryz.func15 #[.int .i64 a0,.string t235] rfl ?_;(with_reducible refine(oF.calls k a0 t235 t238 true _ A4.out).mono ?_);rintro e dp ⟨rfl,hb⟩;refine⟨_,rfl,?_⟩;replace I:=bU I hb;replace HB:=bW HB hb;clear hb)|(refine gB (some 28) Tryz.func15 #[.int .i64 a0,.string t236] rfl ?_;(with_reducible refine(oF.calls k a0 t236 t240 false _ A5.out).mono ?_);rintro e dP ⟨rfl,hb⟩;refine⟨_,rfl,?_⟩;replace I:=bU I hb;replace HB:=bW HB hb;clear hb;obtain⟨cx,cy,cz,cA⟩:=b2 I));refine bodyPost_ret (results_ct rfl _ _ aa 76 #[.int .i64 0,.int .i64 0] (0,0) _ rfl (kP I) Tryz.underlying76 rfl (by kernel_rfl)) rfl ?_;exact vZ HB
  ·replace c7:=uZ c7;subst c7;rw[if_neg vM]at H;obtain⟨rfl,rfl,rfl⟩:=s3 H;go_enter Tryz.func131,Tryz.ntmps131;go_wp2_with (first|(refine rz 4 #[.int .i64 0,.int .i64 0] 76 ?_;intro aa hg bw ab hb;have I:=bm (ab);have aH:=bG HB hg;replace HB:=bW HB hb;clear hb ab hg)|(refine gB (some 15) Tryz.func85 #[.string a1,.string (⟨#[45,62]⟩:ByteArray)] rfl ?_;(with_reducible refine(yM.calls a1 t235 t236 true m _ (HM.out _ (wZ HB)) A3.out).mono ?_);rintro e w' ⟨rfl,⟨nd,rfl⟩⟩;refine⟨_,rfl,?_⟩;(try(rw[drewN_self bw];generalize rp:World.drewN bw _=bw;replace I:rG bw aa #[.int .i64 0,.int .i64 0] 76:=⟨by rw[←rp];exact(kS I)⟩;replace HB:jX (Below w.heap.size w bw):=⟨by rw[←rp];exact(wZ HB)⟩;clear rp)))|(refine gB (some 22) Tryz.func15 #[.int .i64 a0,.string t235] rfl ?_;(with_reducible refine(oF.calls k a0 t235 t238 false _ A4.out).mono ?_);rintro e dQ ⟨rfl,hb⟩;refine⟨_,rfl,?_⟩;replace I:=bU I hb;replace HB:=bW HB hb;clear hb)|(refine gB (some 28) Tryz.func15 #[.int .i64 a0,.string t236] rfl ?_;(with_reducible refine(oF.calls k a0 t236 t240 t241 _ A5.out).mono ?_);rintro e dR ⟨rfl,hb⟩;refine⟨_,rfl,?_⟩;replace I:=bU I hb;replace HB:=bW HB hb;clear hb;obtain⟨cB,cC,cD,cE⟩:=b2 I));refine bodyPost_ret (results_ct rfl _ _ aa 76 #[.int .i64 0,.int .i64 0] (0,0) _ rfl (kP I) Tryz.underlying76 rfl (by kernel_rfl)) rfl ?_;exact vZ HB
 ·replace c6:=uZ c6;subst c6;rw[if_neg vM]at H;obtain⟨rfl,rfl,rfl⟩:=s3 H;go_enter Tryz.func131,Tryz.ntmps131;go_wp2_with (first|(refine rz 4 #[.int .i64 0,.int .i64 0] 76 ?_;intro aa hg bx ab hb;have I:=bm (ab);have aH:=bG HB hg;replace HB:=bW HB hb;clear hb ab hg)|(refine gB (some 15) Tryz.func85 #[.string a1,.string (⟨#[45,62]⟩:ByteArray)] rfl ?_;(with_reducible refine(yM.calls a1 t235 t236 false m _ (HM.out _ (wZ HB)) A3.out).mono ?_);rintro e w' ⟨rfl,⟨nd,rfl⟩⟩;refine⟨_,rfl,?_⟩;(try(rw[drewN_self bx];generalize rp:World.drewN bx _=bx;replace I:rG bx aa #[.int .i64 0,.int .i64 0] 76:=⟨by rw[←rp];exact(kS I)⟩;replace HB:jX (Below w.heap.size w bx):=⟨by rw[←rp];exact(wZ HB)⟩;clear rp)))|(refine gB (some 22) Tryz.func15 #[.int .i64 a0,.string t235] rfl ?_;(with_reducible refine(oF.calls k a0 t235 t238 t239 _ A4.out).mono ?_);rintro e dS ⟨rfl,hb⟩;refine⟨_,rfl,?_⟩;replace I:=bU I hb;replace HB:=bW HB hb;clear hb)|(refine gB (some 28) Tryz.func15 #[.int .i64 a0,.string t236] rfl ?_;(with_reducible refine(oF.calls k a0 t236 t240 t241 _ A5.out).mono ?_);rintro e dT ⟨rfl,hb⟩;refine⟨_,rfl,?_⟩;replace I:=bU I hb;replace HB:=bW HB hb;clear hb;obtain⟨cF,cG,cH,cI⟩:=b2 I));refine bodyPost_ret (results_ct rfl _ _ aa 76 #[.int .i64 0,.int .i64 0] (0,0) _ rfl (kP I) Tryz.underlying76 rfl (by kernel_rfl)) rfl ?_;exact vZ HB
def sA.f (a0:Bool):Option (ByteArray):=if a0=true then(some (⟨#[121,101,115]⟩:ByteArray))else(some (⟨#[110,111]⟩:ByteArray))
theorem sA.calls (a0:Bool) (r:ByteArray) (w:World) (h:sA.f a0=some r):
  Calls Tryz.prog 132 #[.bool a0] w fun e w'=>e= .returned (.string r)∧Drawn0 w w':=by
 have H:=h;clear h;unfold sA.f at H;by_cases c2:a0=true
 ·subst c2;rw[if_pos rfl]at H;obtain rfl:=vU H;go_enter Tryz.func132,Tryz.ntmps132;go_wp2;go_ret;exact vY
 ·replace c2:=uZ c2;subst c2;rw[if_neg vM]at H;obtain rfl:=vU H;go_enter Tryz.func132,Tryz.ntmps132;go_wp2;go_ret;exact vY
def qk.f (k:Nat) (a0:Int) (l1:List Int) (ak:Int) (ao:Int):Option (Bool):=(kO.f k a0 l1 ak).bind fun t243=>(some ((Go.bits .andNot .i64 t243 ao)==0))
instance qk.mo {k a0 a1 a2 a3}:qg (qk.f k a0 a1 a2 a3) (qk.f (k+1) a0 a1 a2 a3):=by unfold qk.f;infer_instance
def qk.T1:Bool×List (List Nat×List Nat):=(true,[([],[]),([],[]),([],[]),([2],[2]),([0,1,3],[0,1,3]),([],[]),([5],[5]),([4,6],[4,6]),([7],[7]),([8,4,0,1,2,3,4,5,6,7,8],[8])])
def qk.B1:List Nat:=[0,0,0,4,15,0,32,127,255,511]
theorem qk.Dw:rtab .any (opsOf Tryz.f133 1)=qk.T1:=by kernel_rfl
theorem qk.AM:waitsOk qk.T1.2 qk.B1=true:=by kernel_rfl
theorem qk.calls (k:Nat) (a0:Int) (A1:Option Addr) (c1:Nat) (l1:List Int) (ak:Int) (ao:Int) (r:Bool) (w:World) (aQ:Kd.C (Kd.int .i64) w A1 l1.length l1) (aR:l1.length≤c1) (h:qk.f k a0 l1 ak ao=some r):
  Calls Tryz.prog 133 #[.int .i64 a0,.slice A1 l1.length c1,.agg #[.int .i64 ak,.int .i64 ao]] w fun e w'=>e= .returned (.bool r)∧Below w.heap.size w w':=by
 have cm:=Tryz.underlying76;have bl:=bm aQ;have bn:=bm aR;clear aQ aR;have HB:=bm (Below.refl w.heap.size w);have H:=h;clear h;unfold qk.f at H;obtain⟨t243,A4,H⟩:=bE H;try dsimp only at H
 obtain rfl:=vU H;go_enter Tryz.func133,Tryz.ntmps133;try go_wp2_with (first|(refine rz 5 #[.int .i64 ak,.int .i64 ao] 76 ?_;intro bz hg w5 ab hb;have ag:=bm (ab);have dq:=bG HB hg;replace HB:=bW HB hb;clear hb ab hg))
 replace ag:=bm (sI ag.out);replace HB:=bm (xO HB.out);refine start_ (n:=10) (S:=fun w'=>w'.cell? ⟨bz,0,none⟩=some (.int .i64 ak)∧w'.cell? ⟨bz,1,none⟩=some (.int .i64 ao)) (ds:=[]) #[false,false,false,false,false,false,false,false,false,false] (by kernel_rfl) rfl rfl ⟨(oB ag.out 0).trans rfl,(oB ag.out 1).trans rfl⟩ (fun hHeld=>?_);refine with_tabW qk.Dw qk.AM (fun aq cJ=>?_);generalize w5.drew=w6 at ag HB hHeld⊢;refine pA 0 7 aq ?_ ?_ ?_ ?_ (pA 1 8 aq ?_ ?_ ?_ ?_ (pA 2 9 aq ?_ ?_ ?_ ?_ (pA 5 12 aq ?_ ?_ ?_ ?_ (tA 3 10 aq cJ hHeld ?_ ?_ ?_ ?_ (tA 6 13 aq cJ hHeld ?_ ?_ ?_ ?_ ?_)))))
 all_goals first|(rintro w' ⟨s0,s1⟩;go_simp;with_reducible rfl)|(intro w';go_simp;with_reducible rfl)|(simp only[Act.put,qA,qB,qC,i64_w,i32_w];rfl)|skip
 refine oA 4 (some 11) aq (fun K hK=>?_);refine goes_ Tryz.func144 (by kernel_rfl) rfl #[.int .i64 a0,.slice A1 l1.length c1,.int .i64 ak] (by rfl) rfl rfl (by(try simp only[List.map_toArray,List.map_cons,List.map_nil]);first|done|rfl|(simp only[List.length_drop,List.length_take];rfl)) ?_;with_reducible refine(kO.calls k a0 _ _ l1 ak t243 _ ?sn ?sq A4.out).mono ?_
 (case sn=>exact cY bl HB);(case sq=>exact bn.out);rintro e w7 ⟨rfl,hb⟩;refine⟨_,rfl,?_⟩;replace ag:=bU ag hb;replace HB:=bW HB hb;(try clear hb);(try clear hb2);(try clear hk);(try clear hi);refine hK.out _ _ ⟨(oB ag.out 0).trans rfl,(oB ag.out 1).trans rfl⟩ (fun hHeld=>?_);clear hK K;refine vL 11 ?_
 refine pA 7 14 aq ?_ ?_ ?_ ?_ (pA 8 15 aq ?_ ?_ ?_ ?_ (pA 9 6 aq ?_ ?_ ?_ ?_ ?_))
 all_goals first|(intro w';go_simp;with_reducible rfl)|(simp only[Act.put,qA,qB,qC,i64_w,i32_w];rfl)|skip
 refine done_ (done_of aq.out (by kernel_rfl)) ?_;try go_wp2
 go_ret;exact vZ HB
def rF.f (k:Nat) (a0:Int) (l1:List Int) (a2:Int):Option (Int):=(qh.f a0).bind fun t244=>((kL.f k l1 (Go.bits .xor .i64 t244 a2)).bind fun t245=>(some t245))
instance rF.mo {k a0 a1 a2}:qg (rF.f k a0 a1 a2) (rF.f (k+1) a0 a1 a2):=by unfold rF.f;infer_instance
theorem rF.calls (k:Nat) (a0:Int) (A1:Option Addr) (c1:Nat) (l1:List Int) (a2:Int) (r:Int) (w:World) (aQ:Kd.C (Kd.int .i64) w A1 l1.length l1) (aR:l1.length≤c1) (h:rF.f k a0 l1 a2=some r):
  Calls Tryz.prog 134 #[.int .i64 a0,.slice A1 l1.length c1,.int .i64 a2] w fun e w'=>e= .returned (.int .i64 r)∧Below w.heap.size w w':=by
 have bl:=bm aQ;have bn:=bm aR;clear aQ aR;have HB:=bm (Below.refl w.heap.size w);have H:=h;clear h;unfold rF.f at H;obtain⟨t244,A4,H⟩:=bE H;try dsimp only at H
 obtain⟨t245,A5,H⟩:=bE H;try dsimp only at H
 obtain rfl:=vU H;go_enter Tryz.func134,Tryz.ntmps134;go_wp2_with (first|(refine gB (some 9) Tryz.func140 #[.int .i64 a0] rfl ?_;(with_reducible refine(qh.calls a0 t244 _ A4.out).mono ?_);rintro e w' ⟨rfl,⟨nd,rfl⟩⟩;refine⟨_,rfl,?_⟩)|(refine gB (some 12) Tryz.func153 #[.slice A1 l1.length c1,.int .i64 (Go.bits .xor .i64 t244 a2)] rfl ?_;(with_reducible refine(kL.calls k _ _ l1 (Go.bits .xor .i64 t244 a2) t245 _ ?_ ?_ A5.out).mono ?_);exact cZ bl.out;exact bn.out;rintro e w6 ⟨rfl,hb⟩;refine⟨_,rfl,?_⟩;replace HB:=bW HB hb;clear hb));go_ret;exact vZ HB
def rQ.f (k:Nat) (a0:Int) (l1:List Int) (a2:Int):Option (Int):=(pz.f a0 l1).bind fun t246=>((qh.f a0).bind fun t247=>((kO.f k a0 l1 (Go.bits .xor .i64 t247 a2)).bind fun t248=>(some (Go.bits .or .i64 t246 t248))))
instance rQ.mo {k a0 a1 a2}:qg (rQ.f k a0 a1 a2) (rQ.f (k+1) a0 a1 a2):=by unfold rQ.f;infer_instance
theorem rQ.calls (k:Nat) (a0:Int) (A1:Option Addr) (c1:Nat) (l1:List Int) (a2:Int) (r:Int) (w:World) (aQ:Kd.C (Kd.int .i64) w A1 l1.length l1) (aR:l1.length≤c1) (h:rQ.f k a0 l1 a2=some r):
  Calls Tryz.prog 135 #[.int .i64 a0,.slice A1 l1.length c1,.int .i64 a2] w fun e w'=>e= .returned (.int .i64 r)∧Below w.heap.size w w':=by
 have bl:=bm aQ;have bn:=bm aR;clear aQ aR;have HB:=bm (Below.refl w.heap.size w);have H:=h;clear h;unfold rQ.f at H;obtain⟨t246,A4,H⟩:=bE H;try dsimp only at H
 obtain⟨t247,A5,H⟩:=bE H;try dsimp only at H
 obtain⟨t248,A6,H⟩:=bE H;try dsimp only at H
 obtain rfl:=vU H;go_enter Tryz.func135,Tryz.ntmps135;go_wp2_with (first|(refine gB (some 9) Tryz.func67 #[.int .i64 a0,.slice A1 l1.length c1] rfl ?_;(with_reducible refine(pz.calls a0 _ _ l1 t246 _ ?_ ?_ A4.out).mono ?_);exact cZ bl.out;exact bn.out;rintro e w7 ⟨rfl,hb⟩;refine⟨_,rfl,?_⟩;replace HB:=bW HB hb;clear hb)|(refine gB (some 13) Tryz.func140 #[.int .i64 a0] rfl ?_;(with_reducible refine(qh.calls a0 t247 _ A5.out).mono ?_);rintro e w' ⟨rfl,⟨nd,rfl⟩⟩;refine⟨_,rfl,?_⟩)|(refine gB (some 16) Tryz.func144 #[.int .i64 a0,.slice A1 l1.length c1,.int .i64 (Go.bits .xor .i64 t247 a2)] rfl ?_;(with_reducible refine(kO.calls k a0 _ _ l1 (Go.bits .xor .i64 t247 a2) t248 _ ?_ ?_ A6.out).mono ?_);exact cZ (Kd.C_below bl.out (wZ HB));exact bn.out;rintro e w8 ⟨rfl,hb⟩;refine⟨_,rfl,?_⟩;replace HB:=bW HB hb;clear hb));go_ret;exact vZ HB
def rH.f (a0:Int) (a1:Int):Option (Bool):=(qp.f a0).bind fun t249=>(if t249=true then(if a1≥0 then((qh.f a0).bind fun aT=>(some (decide (a1≤aT))))else(some false))else(some false))
theorem rH.calls (a0:Int) (a1:Int) (r:Bool) (w:World) (h:rH.f a0 a1=some r):
  Calls Tryz.prog 154 #[.int .i64 a0,.int .i64 a1] w fun e w'=>e= .returned (.bool r)∧Drawn0 w w':=by
 have H:=h;clear h;unfold rH.f at H;obtain⟨t249,A3,H⟩:=bE H;try dsimp only at H
 by_cases c4:t249=true
 ·subst c4;rw[if_pos rfl]at H;rcases vG H with⟨cK,H⟩|⟨cK,H⟩
  ·obtain⟨aT,A6,H⟩:=bE H;try dsimp only at H
   obtain rfl:=vU H;go_enter Tryz.func154,Tryz.ntmps154;go_wp2_with (first|(refine gB (some 6) Tryz.func64 #[.int .i64 a0] rfl ?_;(with_reducible refine(qp.calls a0 true _ A3.out).mono ?_);rintro e w' ⟨rfl,⟨nd,rfl⟩⟩;refine⟨_,rfl,?_⟩)|(go_at_call 140;(with_reducible refine(qh.calls a0 aT _ A6.out).mono ?_);rintro e w' ⟨rfl,⟨nd,rfl⟩⟩));go_ret;exact vY
  ·obtain rfl:=vU H;go_enter Tryz.func154,Tryz.ntmps154;go_wp2_with (first|(refine gB (some 6) Tryz.func64 #[.int .i64 a0] rfl ?_;(with_reducible refine(qp.calls a0 true _ A3.out).mono ?_);rintro e w' ⟨rfl,⟨nd,rfl⟩⟩;refine⟨_,rfl,?_⟩));go_ret;exact vY
 ·replace c4:=uZ c4;subst c4;rw[if_neg vM]at H;obtain rfl:=vU H;go_enter Tryz.func154,Tryz.ntmps154;go_wp2_with (first|(refine gB (some 6) Tryz.func64 #[.int .i64 a0] rfl ?_;(with_reducible refine(qp.calls a0 false _ A3.out).mono ?_);rintro e w' ⟨rfl,⟨nd,rfl⟩⟩;refine⟨_,rfl,?_⟩));go_ret;exact vY
def JW (x d m:Int):Int:=IntKind.u64.wrap ((Go.bits .and .u64 (x/d) m)+(Go.bits .and .u64 x m))
def Jj (x d:Int):Int:=IntKind.u64.wrap (x+(x/d))
def Ku (y:Int):Int:=IntKind.u64.wrap ((y/16)+y)
def vp.f (a0:Int):Option (Int):=some (Go.bits .and .i64 (wrap64 (Jj (Jj (Jj (Go.bits .and .u64 (Ku (JW (JW a0 2 6148914691236517205) 4 3689348814741910323)) 1085102592571150095) 256) 65536) 4294967296)) 127)
theorem vp.calls (a0:Int) (r:Int) (w:World) (h:vp.f a0=some r):
  Calls Tryz.prog 199 #[.int .u64 a0] w fun e w'=>e= .returned (.int .i64 r)∧Drawn0 w w':=by
 obtain rfl:=vU h;go_enter Tryz.func199,Tryz.ntmps199;go_wp2;go_ret;exact vY
def wi.f (a0:Int):Option (Int):=(vp.f a0).bind fun t=>some t
theorem wi.calls (a0:Int) (r:Int) (w:World) (h:wi.f a0=some r):
  Calls Tryz.prog 187 #[.int .u64 a0] w fun e w'=>e= .returned (.int .i64 r)∧Drawn0 w w':=by
 obtain⟨t,ht,h⟩:=Option.bind_eq_some_iff.mp h;obtain rfl:=vU h;have HT:=bm (vp.calls a0 t w ht);clear h ht;go_enter Tryz.func187,Tryz.ntmps187;go_wp2_with fail;refine HT.out.mono ?_;rintro e w1 ⟨rfl,⟨n,rfl⟩⟩;go_wp2;go_ret;exact⟨rfl,⟨⟨n,rfl⟩⟩⟩
def wV.f (a0:Int) (a1:Int):Option (Int):=(wi.f (IntKind.u64.wrap (Go.bits .xor .i64 a0 a1))).bind fun aU=>(some aU)
theorem wV.calls (a0:Int) (a1:Int) (r:Int) (w:World) (h:wV.f a0 a1=some r):
  Calls Tryz.prog 167 #[.int .i64 a0,.int .i64 a1] w fun e w'=>e= .returned (.int .i64 r)∧Drawn0 w w':=by
 have H:=h;clear h;unfold wV.f at H;obtain⟨aU,A3,H⟩:=bE H;try dsimp only at H
 obtain rfl:=vU H;go_enter Tryz.func167,Tryz.ntmps167;go_wp2_with (first|(refine gB (some 9) Tryz.func187 #[.int .u64 (IntKind.u64.wrap (Go.bits .xor .i64 a0 a1))] rfl ?_;(with_reducible refine(wi.calls (IntKind.u64.wrap (Go.bits .xor .i64 a0 a1)) aU _ A3.out).mono ?_);rintro e w' ⟨rfl,⟨nd,rfl⟩⟩;refine⟨_,rfl,?_⟩));go_ret;exact vY
mutual
def kA.l0:Nat→Int→Int→List Int→Int→Int→Option (List Int)
 |0,_,_,_,_,_=>none
 |k+1,x0,x1,x5,x11,x12=>if x12<x11 then(if 0≤x0 then(kA.l1 k x0 x1 x5 x12 x0 x11 x12 (shl .i64 1 x0) 0)else(none))else(some x5)
def kA.l1:Nat→Int→Int→List Int→Int→Int→Int→Int→Int→Int→Option (List Int)
 |0,_,_,_,_,_,_,_,_,_=>none
 |k+1,x0,x1,x5,x6,x7,x11,x12,x17,x18=>if x18<x17 then(if 0≤x18 then(if(Go.bits .and .i64 (shr .i64 x1 x18) 1)=1 then((wV.f x6 x18).bind fun aC=>(kA.l1 k x0 x1 x5 x6 (mn x7 aC) x11 x12 x17 (wrap64 (x18+1))))else(kA.l1 k x0 x1 x5 x6 x7 x11 x12 x17 (wrap64 (x18+1))))else(none))else(if x5.length<17592186044416 then(kA.l0 k x0 x1 (x5++ [x7]) x11 (wrap64 (x12+1)))else(none))
end
def kA.f (k:Nat) (a0:Int) (a1:Int):Option (List Int):=if 0≤a0 then(kA.l0 k a0 a1 (([]:List Int)) (shl .i64 1 a0) 0)else(none)
theorem kA.jQ:∀k,(∀y0 y1 y2 y3 y4,qg (kA.l0 k y0 y1 y2 y3 y4) (kA.l0 (k+1) y0 y1 y2 y3 y4))∧(∀y0 y1 y2 y3 y4 y5 y6 y7 y8,qg (kA.l1 k y0 y1 y2 y3 y4 y5 y6 y7 y8) (kA.l1 (k+1) y0 y1 y2 y3 y4 y5 y6 y7 y8))
 |0=>⟨fun _ _ _ _ _=> .z (by simp only[kA.l0]),fun _ _ _ _ _ _ _ _ _=> .z (by simp only[kA.l1])⟩
 |k+1=>by
  have⟨i0,i1⟩:=kA.jQ k;exact⟨fun _ _ _ _ _=>by unfold kA.l0;infer_instance,fun _ _ _ _ _ _ _ _ _=>by unfold kA.l1;infer_instance⟩
instance kA.mo {k a0 a1}:qg (kA.f k a0 a1) (kA.f (k+1) a0 a1):=by have⟨i0,i1⟩:=kA.jQ k;unfold kA.f;infer_instance
theorem kA.mono:∀a0 a1 k,LeO (kA.f k a0 a1) (kA.f (k+1) a0 a1):=fun _ _ _=>kA.mo.h
theorem kA.calls (k:Nat) (a0:Int) (a1:Int) (r:List Int) (w:World) (h:kA.f k a0 a1=some r):
  Calls Tryz.prog 155 #[.int .i64 a0,.int .i64 a1] w fun e w'=>∃cL:Value,e= .returned (cL)∧Kd.R (Kd.int .i64) 3 w' w.heap.size (fun _=>True) cL r∧Below w.heap.size w w':=by
 have HB:=bm (Below.refl w.heap.size w);have H:=h;clear h;unfold kA.f at H;obtain⟨bV,aZ⟩:∃y_:List Int,y_=(([]:List Int)):=⟨_,rfl⟩;replace H:(if 0≤a0 then(kA.l0 k a0 a1 bV (shl .i64 1 a0) 0)else(none))=some r:=by first|(rw[aZ];exact H)|exact H
 have bA:=bm aZ;clear aZ;obtain⟨dE,dF,H⟩:=vF H;obtain⟨aI,aV⟩:∃j_:Int,(shl .i64 1 a0)=j_:=⟨_,rfl⟩;first|rw[aV]at H|simp only[aV]at H
 have a6:(IntKind.i64.wrap (1*2^min a0.toNat 64))=aI:=aV;have a7:a0≤64→(IntKind.i64.wrap (1*2^a0.toNat))=aI:=shl_small aV;have b1:(IntKind.i64.wrap (2^min a0.toNat 64))=aI:=by have h_:=a6;rw[Int.one_mul]at h_;exact h_
 have b4:a0≤64→(IntKind.i64.wrap (2^a0.toNat))=aI:=fun ar=>by have h_:=a7 ar;rw[Int.one_mul]at h_;exact h_
 have b5:(wrap64 (1*2^min a0.toNat 64))=aI:=(i64_w _).symm.trans a6;have b6:a0≤64→(wrap64 (1*2^a0.toNat))=aI:=fun h_=>(i64_w _).symm.trans (a7 h_)
 have H':=bm H;clear H;go_enter Tryz.func155,Tryz.ntmps155;go_wp2_with (first|((with_reducible refine gate_dst (N:=9) rfl ?_);refine Kd.R_lit (Kd.int .i64) _ 3 ?hg (N:=9) ?hd (xs:=([]:List Int)) (inner:=[]) (ok:=fun _=>True) (okp:=fun _=>True) ?hr ?hp (fun _ hk=>hk) trivial (Below.refl _ _) (Nat.le_refl _) (by simp) ?_;(case hd=>rfl);(case hg=>rfl);(case hr=>first|(go_simp;done)|(go_simp;rfl));(case hp=>exact(Reps.none _ _));intro dG w5 bB hb dr b7;clear dr b7;(first|rw[←bA.out]at bB|(simp only[Int.reduceToNat]at bB;rw[←bA.out]at bB));have b8:=vX bB HB;replace HB:=bW HB hb;clear hb bB));go_loopg [5,12] k (fun kq v5 v12 w'=>∃(au:List Int) (ah:Int),v12= .int .i64 ah∧jX (kA.l0 kq a0 a1 au aI ah=some r)∧jX (kq≤k)∧jX (Kd.R (Kd.int .i64) 3 w' w.heap.size (fun _=>True) v5 au)∧jX (Below w.heap.size w w'))
 case atStart=>exact⟨(bV),(0),(by first|rfl|(simp;done)|(simp[*];done)),H',⟨Nat.le_refl _⟩,⟨by(repeat apply Kd.RS);exact b8.out⟩,⟨wZ HB⟩⟩
 case round=>
  clear H';obtain⟨au,ah,rfl,HA,bo,qL,HB⟩:=hrel;cases gk with
  |zero=>exact absurd HA.out (by simp[kA.l0])
  |succ k1=>
   have H:=HA.out;clear HA;simp only[kA.l0]at H;rcases vG H with⟨cM,H⟩|⟨cM,H⟩
   ·obtain⟨dH,dI,H⟩:=vF H;obtain⟨a8,bc⟩:∃j_:Int,(shl .i64 1 a0)=j_:=⟨_,rfl⟩;(try clear a6);(try clear b1);(try clear b4);(try clear b6);(try clear b5);(try clear a7);first|rw[bc]at H|simp only[bc]at H
    have bD:(IntKind.i64.wrap (1*2^min a0.toNat 64))=a8:=bc;have bF:a0≤64→(IntKind.i64.wrap (1*2^a0.toNat))=a8:=shl_small bc;have dt:(IntKind.i64.wrap (2^min a0.toNat 64))=a8:=by have h_:=bD;rw[Int.one_mul]at h_;exact h_
    have du:a0≤64→(IntKind.i64.wrap (2^a0.toNat))=a8:=fun ar=>by have h_:=bF ar;rw[Int.one_mul]at h_;exact h_
    have dv:(wrap64 (1*2^min a0.toNat 64))=a8:=(i64_w _).symm.trans bD;have dw:a0≤64→(wrap64 (1*2^a0.toNat))=a8:=fun h_=>(i64_w _).symm.trans (bF h_)
    have H':=bm H;clear H;go_wp2;go_loopg [7,18] k1 (fun kq v7 b9 w'=>∃(ae:Int) (af:Int),v7= .int .i64 ae∧b9= .int .i64 af∧jX (kA.l1 kq a0 a1 au ah ae aI ah a8 af=some r)∧jX (kq≤k1)∧jX (Kd.R (Kd.int .i64) 3 w' w.heap.size (fun _=>True) u5 au)∧jX (Below w.heap.size w w'))
    case atStart=>exact⟨(a0),(0),(by first|rfl|(simp;done)|(simp[*];done)),(by first|rfl|(simp;done)|(simp[*];done)),H',⟨Nat.le_refl _⟩,⟨by(repeat apply Kd.RS);exact qL.out⟩,⟨wZ HB⟩⟩
    case round=>
     clear H';obtain⟨ae,af,rfl,rfl,HA,av,qL,HB⟩:=hrel;cases gk with
     |zero=>exact absurd HA.out (by simp[kA.l1])
     |succ k2=>
      have H:=HA.out;clear HA;simp only[kA.l1]at H;rcases vG H with⟨ca,H⟩|⟨ca,H⟩
      ·obtain⟨bH,dx,H⟩:=vF H;obtain⟨aD,aK⟩:∃j_:Int,(shr .i64 a1 af)=j_:=⟨_,rfl⟩;first|rw[aK]at H|simp only[aK]at H
       have cT:(a1/2^min af.toNat 64)=aD:=aK;have cU:af≤64→(a1/2^af.toNat)=aD:=shr_small aK;rcases iT H with⟨bp,H⟩|⟨bp,H⟩
       ·obtain⟨cb,cc⟩:=vW bp;clear bp;obtain⟨aC,cN,H⟩:=bE H;try dsimp only at H
        obtain⟨bZ,aw⟩:∃j_:Int,(mn ae aC)=j_:=⟨_,rfl⟩;first|rw[aw]at H|simp only[aw]at H
        (try rw[aw]at cN);have cV:(if aC<ae then aC else ae)=bZ:=aw;have H':=bm H;clear H;go_wp2_with (first|(refine gB (some 29) Tryz.func167 #[.int .i64 ah,.int .i64 af] rfl ?_;(with_reducible refine(wV.calls ah af aC _ cN.out).mono ?_);rintro e w' ⟨rfl,⟨nd,rfl⟩⟩;refine⟨_,rfl,?_⟩));go_roundg k2
        case measure=>have:=bo.out;have:=av.out;omega
        case rel=>exact⟨(bZ),(wrap64 (af+1)),(by first|rfl|(simp;done)|(simp only[←aw]<;>(first|rfl|simp))|(simp[*];done)),(by first|rfl|(simp;done)|(simp[*];done)),H',⟨by have:=bo.out;have:=av.out;omega⟩,⟨by(repeat apply Kd.RS);exact qL.out⟩,⟨wZ HB⟩⟩
       ·obtain⟨cb,cc⟩:=vV bp;have H':=bm H;clear H;go_wp2;go_roundg k2
        case measure=>have:=bo.out;have:=av.out;omega
        case rel=>exact⟨(ae),(wrap64 (af+1)),(by first|rfl|(simp;done)|(simp[*];done)),(by first|rfl|(simp;done)|(simp[*];done)),H',⟨by have:=bo.out;have:=av.out;omega⟩,⟨by(repeat apply Kd.RS);exact qL.out⟩,⟨wZ HB⟩⟩
      ·obtain⟨cO,H⟩:=iN H;have cd:=bm cO;clear cO;obtain⟨b0,ba⟩:∃y_:List Int,y_=(au++ [ae]):=⟨_,rfl⟩;rw[←ba]at H
       have cf:=bm ba;clear ba;have H':=bm H;clear H;go_wp2_with (first|((with_reducible refine gate_builtin (b:=.append) (xs:= #[.tmp 32,.tmp 34]) rfl ?_);at_builtin;refine Kd.R_append (Kd.int .i64) (w0:=w) w.heap.size rfl (.tmp 32) (.tmp 34) 23 3 (.int .i64 0) 8 rfl Tryz.underlying23 info3 rfl (by decide) (by omega) u5 au ae [.int .i64 ae] (fun _=>True) (fun _=>False) rfl rfl ?aP (fun _ hk=>hk.elim) ?aF ?aO ?aB ?aS ?aL ?_;(case aP=>exact rfl);(case aB=>exact(wZ HB));(case aF=>exact(fun _ _=>trivial));(case aO=>exact(rS qL));(case aS=>exact(below_size (wZ HB)));(case aL=>have:=cd.out;omega);intro dJ dU ho hb hg dy;rw[←cf.out]at ho;replace HB:=bm (hb);have cg:=bm (ho);clear qL;clear ho hb hg dy));go_roundg k2
       case measure=>have:=bo.out;have:=av.out;omega
       case rel=>exact⟨(b0),(wrap64 (ah+1)),(by first|rfl|(simp;done)|(simp[*];done)),H',⟨by have:=bo.out;have:=av.out;omega⟩,⟨by(repeat apply Kd.RS);exact cg.out⟩,⟨wZ HB⟩⟩
   ·obtain rfl:=vU H;go_wp2;go_ret;exact⟨_,by first|rfl|(simp[jS,jT]<;>rfl)|(simp only[←aV];first|rfl|(simp[jS,jT]<;>rfl))|(simp[*,jS,jT]<;>rfl),by(repeat apply Kd.RS);exact qL.out,wZ HB⟩
mutual
def kI.j0:Nat→Int→Int→Int→Bool→Option (Int)
 |0,_,_,_,_=>none
 |k+1,x0,x1,x2,x18=>if x18=true then(some (-1))else(if 0≤x0 then(kI.l0 k x0 x1 x2 0 (shl .i64 1 x0) 0)else(none))
def kI.l0:Nat→Int→Int→Int→Int→Int→Int→Option (Int)
 |0,_,_,_,_,_,_=>none
 |k+1,x0,x1,x2,x7,x20,Dk=>if Dk<x20 then(if 0≤Dk then(if(Go.bits .and .i64 (shr .i64 x1 Dk) 1)=1 then((kA.f k x0 (shl .i64 1 Dk)).bind fun aW=>((kO.f k x0 aW x2).bind fun bd=>(kI.l0 k x0 x1 x2 (Go.bits .or .i64 x7 bd) x20 (wrap64 (Dk+1)))))else(kI.l0 k x0 x1 x2 x7 x20 (wrap64 (Dk+1))))else(none))else(some x7)
end
def kI.f (k:Nat) (a0:Int) (a1:Int) (a2:Int):Option (Int):=(rH.f a0 a1).bind fun aY=>(if aY=true then((rH.f a0 a2).bind fun aE=>(kI.j0 k a0 a1 a2 (!aE)))else(kI.j0 k a0 a1 a2 true))
theorem kI.jQ:∀k,(∀y0 y1 y2 y3,qg (kI.j0 k y0 y1 y2 y3) (kI.j0 (k+1) y0 y1 y2 y3))∧(∀y0 y1 y2 y3 y4 y5,qg (kI.l0 k y0 y1 y2 y3 y4 y5) (kI.l0 (k+1) y0 y1 y2 y3 y4 y5))
 |0=>⟨fun _ _ _ _=> .z (by simp only[kI.j0]),fun _ _ _ _ _ _=> .z (by simp only[kI.l0])⟩
 |k+1=>by
  have⟨i0,i1⟩:=kI.jQ k;exact⟨fun _ _ _ _=>by unfold kI.j0;infer_instance,fun _ _ _ _ _ _=>by unfold kI.l0;infer_instance⟩
instance kI.mo {k a0 a1 a2}:qg (kI.f k a0 a1 a2) (kI.f (k+1) a0 a1 a2):=by have⟨i0,i1⟩:=kI.jQ k;unfold kI.f;infer_instance
theorem kI.calls (k:Nat) (a0:Int) (a1:Int) (a2:Int) (r:Int) (w:World) (h:kI.f k a0 a1 a2=some r):
  Calls Tryz.prog 136 #[.int .i64 a0,.int .i64 a1,.int .i64 a2] w fun e w'=>e= .returned (.int .i64 r)∧Below w.heap.size w w':=by
 have HB:=bm (Below.refl w.heap.size w);have H:=h;clear h;unfold kI.f at H;have ch:=bm H;clear H;go_enter Tryz.func136,Tryz.ntmps136;go_upto_region 1 with(fail)
 go_cut [18] (fun b9 wc=>∃(kq:Nat) (aM:Bool),b9= .bool aM∧jX (kI.j0 kq a0 a1 a2 aM=some r)∧jX (kq≤k)∧jX (Below w.heap.size w wc))
 case first=>
  have H:=ch.out;clear ch;obtain⟨aY,A5,H⟩:=bE H;try dsimp only at H
  by_cases c6:aY=true
  ·subst c6;rw[if_pos rfl]at H;obtain⟨aE,A7,H⟩:=bE H;try dsimp only at H
   have H':=bm H;clear H;go_wp2_with (first|(refine gB (some 11) Tryz.func154 #[.int .i64 a0,.int .i64 a1] rfl ?_;(with_reducible refine(rH.calls a0 a1 true _ A5.out).mono ?_);rintro e w' ⟨rfl,⟨nd,rfl⟩⟩;refine⟨_,rfl,?_⟩)|(go_at_call 154;(with_reducible refine(rH.calls a0 a2 aE _ A7.out).mono ?_);rintro e w' ⟨rfl,⟨nd,rfl⟩⟩));go_meet
   case rel=>exact⟨_,(!aE),(by first|rfl|(simp;done)|(simp[*];done)),H',⟨by first|omega|exact Nat.le_refl _⟩,⟨wZ HB⟩⟩
  ·replace c6:=uZ c6;subst c6;rw[if_neg vM]at H;have H':=bm H;clear H;go_wp2_with (first|(refine gB (some 11) Tryz.func154 #[.int .i64 a0,.int .i64 a1] rfl ?_;(with_reducible refine(rH.calls a0 a1 false _ A5.out).mono ?_);rintro e w' ⟨rfl,⟨nd,rfl⟩⟩;refine⟨_,rfl,?_⟩));go_meet
   case rel=>exact⟨_,(true),(by first|rfl|(simp;done)|(simp[*];done)),H',⟨by first|omega|exact Nat.le_refl _⟩,⟨wZ HB⟩⟩
 case rest=>
  clear ch;obtain⟨kq,aM,rfl,HA,bJ,HB⟩:=hcut;cases kq with
  |zero=>exact absurd HA.out (by simp[kI.j0])
  |succ xQ=>
   have H:=HA.out;clear HA;simp only[kI.j0]at H;by_cases c8:aM=true
   ·subst c8;rw[if_pos rfl]at H;obtain rfl:=vU H;go_wp2;go_ret;exact vZ HB
   ·replace c8:=uZ c8;subst c8;rw[if_neg vM]at H;obtain⟨bO,bT,H⟩:=vF H;obtain⟨ax,ay⟩:∃j_:Int,(shl .i64 1 a0)=j_:=⟨_,rfl⟩;first|rw[ay]at H|simp only[ay]at H
    have bf:(IntKind.i64.wrap (1*2^min a0.toNat 64))=ax:=ay;have bg:a0≤64→(IntKind.i64.wrap (1*2^a0.toNat))=ax:=shl_small ay;have cW:(IntKind.i64.wrap (2^min a0.toNat 64))=ax:=by have h_:=bf;rw[Int.one_mul]at h_;exact h_
    have cX:a0≤64→(IntKind.i64.wrap (2^a0.toNat))=ax:=fun ar=>by have h_:=bg ar;rw[Int.one_mul]at h_;exact h_
    have da:(wrap64 (1*2^min a0.toNat 64))=ax:=(i64_w _).symm.trans bf;have db:a0≤64→(wrap64 (1*2^a0.toNat))=ax:=fun h_=>(i64_w _).symm.trans (bg h_)
    have H':=bm H;clear H;go_wp2;go_loopg [7,21] xQ (fun kq v7 v21 w'=>∃(ae:Int) (J:Int),v7= .int .i64 ae∧v21= .int .i64 J∧jX (kI.l0 kq a0 a1 a2 ae ax J=some r)∧jX (kq≤xQ)∧jX (Below w.heap.size w w'))
    case atStart=>exact⟨(0),(0),(by first|rfl|(simp;done)|(simp[*];done)),(by first|rfl|(simp;done)|(simp[*];done)),H',⟨Nat.le_refl _⟩,⟨wZ HB⟩⟩
    case round=>
     clear H';obtain⟨ae,J,rfl,rfl,HA,av,HB⟩:=hrel;cases gk with
     |zero=>exact absurd HA.out (by simp[kI.l0])
     |succ k2=>
      have H:=HA.out;clear HA;simp only[kI.l0]at H;rcases vG H with⟨bH,H⟩|⟨bH,H⟩
      ·obtain⟨dz,dA,H⟩:=vF H;obtain⟨aG,aN⟩:∃j_:Int,(shr .i64 a1 J)=j_:=⟨_,rfl⟩;first|rw[aN]at H|simp only[aN]at H
       have dc:(a1/2^min J.toNat 64)=aG:=aN;have dd:J≤64→(a1/2^J.toNat)=aG:=shr_small aN;rcases iT H with⟨bq,H⟩|⟨bq,H⟩
       ·obtain⟨ck,cl⟩:=vW bq;clear bq;have dB:=vD (pG:0≤J);obtain⟨al,az⟩:∃j_:Int,(shl .i64 1 J)=j_:=⟨_,rfl⟩;first|rw[az]at H|simp only[az]at H
        have bh:(IntKind.i64.wrap (1*2^min J.toNat 64))=al:=az;have bj:J≤64→(IntKind.i64.wrap (1*2^J.toNat))=al:=shl_small az;have de:(IntKind.i64.wrap (2^min J.toNat 64))=al:=by have h_:=bh;rw[Int.one_mul]at h_;exact h_
        have df:J≤64→(IntKind.i64.wrap (2^J.toNat))=al:=fun ar=>by have h_:=bj ar;rw[Int.one_mul]at h_;exact h_
        have dh:(wrap64 (1*2^min J.toNat 64))=al:=(i64_w _).symm.trans bh;have di:J≤64→(wrap64 (1*2^J.toNat))=al:=fun h_=>(i64_w _).symm.trans (bj h_)
        obtain⟨aW,dC,H⟩:=bE H;try dsimp only at H
        obtain⟨bd,dD,H⟩:=bE H;try dsimp only at H
        have H':=bm H;clear H;go_wp2_with (first|((with_reducible refine gate_callee (f:=155) rfl ?_);refine Dq (some 34) rfl rfl Tryz.func155 (by kernel_rfl) rfl #[.int .i64 a0,.int .i64 al] rfl (by(try simp only[List.map_toArray,List.map_cons,List.map_nil]);first|done|(simp only[az];rfl)|rfl|(simp only[List.length_drop,List.length_take];rfl)) ?_;(with_reducible refine(kA.calls k2 a0 al aW _ dC.out).mono ?_);rintro e dp ⟨dK,rfl,cP,hb⟩;refine⟨_,rfl,?_⟩;have aA:=vX cP HB;replace HB:=bW HB hb;clear hb;(try clear cP);obtain⟨cQ,cR,cS⟩:=Kd.R_slice aA.out;subst cS)|(refine gB (some 36) Tryz.func144 #[.int .i64 a0,.slice cQ aW.length cR,.int .i64 a2] rfl ?_;(with_reducible refine(kO.calls k2 a0 _ _ aW a2 bd _ ?_ ?_ dD.out).mono ?_);exact cZ (Kd.R_reads' aA.out).2.2;exact(Kd.R_reads' aA.out).2.1;rintro e dV ⟨rfl,hb⟩;refine⟨_,rfl,?_⟩;replace aA:=bR aA hb;replace HB:=bW HB hb;clear hb));go_roundg k2
        case measure=>have:=bJ.out;have:=av.out;omega
        case rel=>exact⟨(Go.bits .or .i64 ae bd),(wrap64 (J+1)),(by first|rfl|(simp;done)|(simp[*];done)),(by first|rfl|(simp;done)|(simp[*];done)),H',⟨by have:=bJ.out;have:=av.out;omega⟩,⟨wZ HB⟩⟩
       ·obtain⟨ck,cl⟩:=vV bq;have H':=bm H;clear H;go_wp2;go_roundg k2
        case measure=>have:=bJ.out;have:=av.out;omega
        case rel=>exact⟨(ae),(wrap64 (J+1)),(by first|rfl|(simp;done)|(simp[*];done)),(by first|rfl|(simp;done)|(simp[*];done)),H',⟨by have:=bJ.out;have:=av.out;omega⟩,⟨wZ HB⟩⟩
      ·obtain rfl:=vU H;go_wp2;go_ret;exact⟨by first|rfl|(simp[jS,jT]<;>rfl)|(simp only[←ay];first|rfl|(simp[jS,jT]<;>rfl))|(simp[*,jS,jT]<;>rfl),wZ HB⟩
end Go.Proofs.YtihgpkohglcijaaGreatDoor.P
