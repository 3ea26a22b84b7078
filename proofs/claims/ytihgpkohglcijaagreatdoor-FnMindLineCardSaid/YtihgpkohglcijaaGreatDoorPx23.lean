import Derived.Test.YtihgpkohglcijaaGreatDoorPx0
import Derived.Test.YtihgpkohglcijaaGreatDoorPx14
import Derived.Test.YtihgpkohglcijaaGreatDoorPx16
import Derived.Test.YtihgpkohglcijaaGreatDoorPx18
import Derived.Test.YtihgpkohglcijaaGreatDoorPx20
namespace Go.Proofs.YtihgpkohglcijaaGreatDoor.P
open Go.RowKit YtihgpkohglcijaaGreatDoorW PrintWords PrintLast PrintMore
attribute [local go_sem] max2_int min2_int max_two min_two max_three min_three max_four min_four
set_option linter.unusedVariables false
set_option linter.unusedSimpArgs false
set_option maxHeartbeats 8000000
set_option maxRecDepth 100000
def strconv_Itoa.f (n:Int):Option ByteArray:=if 0≤n then(if n<100 then some (⟨(Lib.decDigits n.toNat).toArray⟩:ByteArray)else none)else none
theorem strconv_Itoa.calls (n:Int) (r:ByteArray) (w:World) (h:strconv_Itoa.f n=some r):
  Calls Tryz.prog 129 #[.int .i64 n] w fun e w'=>e= .returned (.string r)∧Drawn0 w w':=by
 unfold strconv_Itoa.f at h;by_cases h0:0≤n
 ·rw[if_pos h0]at h;by_cases h1:n<100
  ·rw[if_pos h1]at h;obtain rfl:=vZ h;obtain⟨i,rfl⟩:=Int.eq_ofNat_of_zero_le h0;refine(Tryz.strconv_Itoa_small i (by omega) w).mono ?_;rintro e w' ⟨rfl,rfl⟩;exact⟨rfl,Drawn0.refl _⟩
  ·rw[if_neg h1]at h;cases h
 ·rw[if_neg h0]at h;cases h
def strings_Join.f (l0:List ByteArray) (a1:ByteArray):Option ByteArray:=if l0.length≤140737488355328 then(if(Lib.join (l0.map (·.data.toList)) a1.data.toList).length≤140737488355328 then some (⟨(Lib.join (l0.map (·.data.toList)) a1.data.toList).toArray⟩:ByteArray)else none)else none
theorem strings_Join.own {d:Kd ByteArray} {e n c base:Nat} {w:World} {ok:Nat→Prop} {A:Option Addr} {xs:List ByteArray} (h:d.R e w base ok (.slice A n c) xs):∀a,A=some a→a.spot=none:=by
 obtain⟨_,inner,⟨_,hh⟩,_⟩:=h;intro a ha;rcases hh with⟨e1,_⟩|⟨g,cap,cur,e1,_⟩
 ·cases e1;cases ha
 ·cases e1;cases ha;rfl
theorem strings_Join.calls (A0:Option Addr) (c0:Nat) (l0:List ByteArray) (a1:ByteArray) (r:ByteArray) (w:World) (dA:Kd.C Kd.string w A0 l0.length l0) (dB:l0.length≤c0) (ha:∀a,A0=some a→a.spot=none) (h:strings_Join.f l0 a1=some r):
  Calls Tryz.prog 130 #[.slice A0 l0.length c0,.string a1] w fun e w'=>e= .returned (.string r)∧Below w.heap.size w w':=by
 unfold strings_Join.f at h;by_cases h1:l0.length≤140737488355328
 ·rw[if_pos h1]at h;by_cases h2:(Lib.join (l0.map (·.data.toList)) a1.data.toList).length≤140737488355328
  ·rw[if_pos h2]at h;obtain rfl:=vZ h;by_cases hp:l0.length=0
   ·obtain rfl:=List.eq_nil_of_length_eq_zero hp;refine(Tryz.strings_Join_none A0 c0 a1 w).mono ?_;rintro e w' ⟨rfl,rfl⟩;exact⟨rfl,Below.refl _ _⟩
   ·obtain⟨ad,rfl,hc⟩:=dA.2.2 (by omega);obtain⟨bk,o,sp⟩:=ad;obtain rfl:sp=none:=ha _ rfl
    have bq:∀(j:Nat) x,l0[j]?=some x→w.cell? ⟨bk,o+j,none⟩=some (.string x):=by
     intro j x hx;obtain⟨c,hl,hk,dC⟩:=hc j x hx;obtain rfl:c= [.string x]:=hk;have:=dC 0 _ rfl;rw[show j*Kd.string.sz+0=j from Nat.mul_one j]at this;exact(congrArg w.cell? (show(⟨bk,o,none⟩:Addr).add j=⟨bk,o+j,none⟩ from by unfold Addr.add;split<;>simp_all)).symm.trans this
    have dD:bk<w.heap.size:=by
     exact World.block_lt_of_cell? _ _ (bq 0 _ (List.getElem?_eq_getElem (Nat.pos_of_ne_zero hp)))
    exact Tryz.strings_Join bk o c0 l0 a1 w bq dD h1 dB h2
  ·rw[if_neg h2]at h;cases h
 ·rw[if_neg h1]at h;cases h
def uK.f (s:ByteArray):Option (ByteArray×ByteArray×Bool):=if s.size<4294967281 then some (⟨(Lib.cut s.data.toList [45,62]).1.toArray⟩,⟨(Lib.cut s.data.toList [45,62]).2.1.toArray⟩,(Lib.cut s.data.toList [45,62]).2.2)else none
theorem uK.calls (s:ByteArray) (r1 r2:ByteArray) (r3:Bool) (m:Int) (w:World) (hm:w.cell? ⟨0,0,none⟩=some (.int .i64 m)) (h:uK.f s=some (r1,r2,r3)):
  Calls Tryz.prog 85 #[.string s,.string (⟨#[45,62]⟩:ByteArray)] w fun e w'=>e= .returned (.tuple #[.string r1,.string r2,.bool r3])∧Drawn0 w w':=by
 unfold uK.f at h;by_cases hs:s.size<4294967281
 ·rw[if_pos hs]at h;simp only[Option.some.injEq,Prod.mk.injEq]at h;obtain⟨rfl,rfl,rfl⟩:=h;refine(Tryz.strings_Cut s ⟨#[45,62]⟩ m w hs hm).mono ?_;rintro e w' ⟨rfl,hd⟩;exact⟨rfl,⟨hd⟩⟩
 ·rw[if_neg hs]at h;cases h
def kN.f (k:Nat) (a0:Int) (a1:ByteArray):Option (Int×Int×Bool):=(uK.f a1).bind fun al=>((jH.f k a0 al.1).bind fun an=>((jH.f k a0 al.2.1).bind fun ar=>(if al.2.2=true then(if an.2=true then(if ar.2=true then(if an.1=0 then(some (0,0,false))else(some (an.1,ar.1,true)))else(some (0,0,false)))else(some (0,0,false)))else(some (0,0,false)))))
instance kN.mo {k a0 a1}:ku (kN.f k a0 a1) (kN.f (k+1) a0 a1):=by unfold kN.f;infer_instance
theorem kN.calls (k:Nat) (a0:Int) (a1:ByteArray) (r1:Int) (r2:Int) (r3:Bool) (w:World) (m:Int) (hm:w.cell? ⟨0,0,none⟩=some (.int .i64 m)) (h:kN.f k a0 a1=some (r1,r2,r3)):
  Calls Tryz.prog 131 #[.int .i64 a0,.string a1] w fun e w'=>e= .returned (.tuple #[.agg #[.int .i64 r1,.int .i64 r2],.bool r3])∧Below w.heap.size w w':=by
 have cB:=Tryz.underlying76;have HB:=bm (Below.refl w.heap.size w);have HM:=bm (fun W (hb:Below w.heap.size w W)=>(hb.cell (World.block_lt_of_cell? _ _ hm)).trans hm);clear hm;have H:=h;clear h;unfold kN.f at H;obtain⟨⟨af,ag,cC⟩,A3,H⟩:=bE H;try dsimp only at H
 obtain⟨⟨ak,ca⟩,A4,H⟩:=bE H;try dsimp only at H
 obtain⟨⟨aI,bJ⟩,A5,H⟩:=bE H;try dsimp only at H
 by_cases c6:cC=true
 subst c6;rw[if_pos rfl]at H;by_cases c7:ca=true
 subst c7;rw[if_pos rfl]at H;by_cases c8:bJ=true
 subst c8;rw[if_pos rfl]at H;rcases iT H with⟨c9,H⟩|⟨c9,H⟩
 obtain⟨cb,cc⟩:=vl c9;clear c9;obtain⟨rfl,rfl,rfl⟩:=s3 H
 rotate_left
 obtain⟨cb,cc⟩:=vk c9;obtain⟨rfl,rfl,rfl⟩:=s3 H
 rotate_left
 replace c8:=uZ c8;subst c8;rw[if_neg vR]at H;obtain⟨rfl,rfl,rfl⟩:=s3 H
 rotate_left
 replace c7:=uZ c7;subst c7;rw[if_neg vR]at H;obtain⟨rfl,rfl,rfl⟩:=s3 H
 rotate_left
 replace c6:=uZ c6;subst c6;rw[if_neg vR]at H;obtain⟨rfl,rfl,rfl⟩:=s3 H
 rotate_left
 all_goals(go_enter Tryz.func131,Tryz.ntmps131;go_wp2_with (first|(refine mK 4 #[.int .i64 0,.int .i64 0] 76 ?_;intro aa hg bO ab hb;have I:=bm (ab);have aQ:=bG HB hg;replace HB:=bW HB hb;clear hb ab hg)|(refine gB (some 15) Tryz.func85 #[.string a1,.string (⟨#[45,62]⟩:ByteArray)] rfl ?_;(with_reducible refine(uK.calls a1 af ag true m _ (HM.out _ (wZ HB)) A3.out).mono ?_);rintro e w' ⟨rfl,⟨nd,rfl⟩⟩;refine⟨_,rfl,?_⟩;(try(rw[drewN_self bO];generalize nz:World.drewN bO _=bO;replace I:lE bO aa #[.int .i64 0,.int .i64 0] 76:=⟨by rw[←nz];exact(kS I)⟩;replace HB:gm (Below w.heap.size w bO):=⟨by rw[←nz];exact(wZ HB)⟩;clear nz)))|(refine gB (some 22) Tryz.func15 #[.int .i64 a0,.string af] rfl ?_;(with_reducible refine(jH.calls k a0 af ak true _ A4.out).mono ?_);rintro e _ ⟨rfl,hb⟩;refine⟨_,rfl,?_⟩;replace I:=bU I hb;replace HB:=bW HB hb;clear hb)|(refine gB (some 28) Tryz.func15 #[.int .i64 a0,.string ag] rfl ?_;(with_reducible refine(jH.calls k a0 ag aI true _ A5.out).mono ?_);rintro e _ ⟨rfl,hb⟩;refine⟨_,rfl,?_⟩;replace I:=bU I hb;replace HB:=bW HB hb;clear hb;obtain⟨_,_,_,_⟩:=b2 I)|(refine gB (some 28) Tryz.func15 #[.int .i64 a0,.string ag] rfl ?_;(with_reducible refine(jH.calls k a0 ag aI false _ A5.out).mono ?_);rintro e _ ⟨rfl,hb⟩;refine⟨_,rfl,?_⟩;replace I:=bU I hb;replace HB:=bW HB hb;clear hb;obtain⟨_,_,_,_⟩:=b2 I)|(refine gB (some 22) Tryz.func15 #[.int .i64 a0,.string af] rfl ?_;(with_reducible refine(jH.calls k a0 af ak false _ A4.out).mono ?_);rintro e _ ⟨rfl,hb⟩;refine⟨_,rfl,?_⟩;replace I:=bU I hb;replace HB:=bW HB hb;clear hb)|(refine gB (some 28) Tryz.func15 #[.int .i64 a0,.string ag] rfl ?_;(with_reducible refine(jH.calls k a0 ag aI bJ _ A5.out).mono ?_);rintro e _ ⟨rfl,hb⟩;refine⟨_,rfl,?_⟩;replace I:=bU I hb;replace HB:=bW HB hb;clear hb;obtain⟨_,_,_,_⟩:=b2 I)|(refine gB (some 15) Tryz.func85 #[.string a1,.string (⟨#[45,62]⟩:ByteArray)] rfl ?_;(with_reducible refine(uK.calls a1 af ag false m _ (HM.out _ (wZ HB)) A3.out).mono ?_);rintro e w' ⟨rfl,⟨nd,rfl⟩⟩;refine⟨_,rfl,?_⟩;(try(rw[drewN_self bO];generalize nz:World.drewN bO _=bO;replace I:lE bO aa #[.int .i64 0,.int .i64 0] 76:=⟨by rw[←nz];exact(kS I)⟩;replace HB:gm (Below w.heap.size w bO):=⟨by rw[←nz];exact(wZ HB)⟩;clear nz)))|(refine gB (some 22) Tryz.func15 #[.int .i64 a0,.string af] rfl ?_;(with_reducible refine(jH.calls k a0 af ak ca _ A4.out).mono ?_);rintro e _ ⟨rfl,hb⟩;refine⟨_,rfl,?_⟩;replace I:=bU I hb;replace HB:=bW HB hb;clear hb)))
 ·refine bodyPost_ret (results_ct rfl _ _ aa 76 #[.int .i64 0,.int .i64 0] (0,0) _ rfl (kP I) Tryz.underlying76 rfl (by kernel_rfl)) rfl ?_;exact vo HB
 ·refine bodyPost_ret (results_ct rfl _ _ aa 76 #[.int .i64 ak,.int .i64 aI] (0,0) _ rfl (kP I) Tryz.underlying76 rfl (by kernel_rfl)) rfl ?_;exact vo HB
 iterate 3(refine bodyPost_ret (results_ct rfl _ _ aa 76 #[.int .i64 0,.int .i64 0] (0,0) _ rfl (kP I) Tryz.underlying76 rfl (by kernel_rfl)) rfl ?_;exact vo HB)
def mS.f (a0:Bool):Option (ByteArray):=if a0=true then(some (⟨#[121,101,115]⟩:ByteArray))else(some (⟨#[110,111]⟩:ByteArray))
theorem mS.calls (a0:Bool) (r:ByteArray) (w:World) (h:mS.f a0=some r):
  Calls Tryz.prog 132 #[.bool a0] w fun e w'=>e= .returned (.string r)∧Drawn0 w w':=by
 have H:=h;clear h;unfold mS.f at H;by_cases c2:a0=true
 ·subst c2;rw[if_pos rfl]at H;obtain rfl:=vZ H;go_enter Tryz.func132,Tryz.ntmps132;go_wp2;go_ret;exact vn
 ·replace c2:=uZ c2;subst c2;rw[if_neg vR]at H;obtain rfl:=vZ H;go_enter Tryz.func132,Tryz.ntmps132;go_wp2;go_ret;exact vn
def ks.f (k:Nat) (a0:Int) (l1:List Int) (ao:Int) (au:Int):Option (Bool):=(iO.f k a0 l1 ao).bind fun aY=>(some ((Go.bits .andNot .i64 aY au)==0))
instance ks.mo {k a0 a1 a2 a3}:ku (ks.f k a0 a1 a2 a3) (ks.f (k+1) a0 a1 a2 a3):=by unfold ks.f;infer_instance
def ks.T1:Bool×List (List Nat×List Nat):=(true,[([],[]),([],[]),([],[]),([2],[2]),([0,1,3],[0,1,3]),([],[]),([5],[5]),([4,6],[4,6]),([7],[7]),([8,4,0,1,2,3,4,5,6,7,8],[8])])
def ks.B1:List Nat:=[0,0,0,4,15,0,32,127,255,511]
theorem ks.wP:rtab .any (opsOf Tryz.f133 1)=ks.T1:=by kernel_rfl
theorem ks.sE:waitsOk ks.T1.2 ks.B1=true:=by kernel_rfl
theorem ks.calls (k:Nat) (a0:Int) (A1:Option Addr) (c1:Nat) (l1:List Int) (ao:Int) (au:Int) (r:Bool) (w:World) (aZ:Kd.C (Kd.int .i64) w A1 l1.length l1) (a6:l1.length≤c1) (h:ks.f k a0 l1 ao au=some r):
  Calls Tryz.prog 133 #[.int .i64 a0,.slice A1 l1.length c1,.agg #[.int .i64 ao,.int .i64 au]] w fun e w'=>e= .returned (.bool r)∧Below w.heap.size w w':=by
 have cB:=Tryz.underlying76;have bA:=bm aZ;have bB:=bm a6;clear aZ a6;have HB:=bm (Below.refl w.heap.size w);have H:=h;clear h;unfold ks.f at H;obtain⟨aY,A4,H⟩:=bE H;try dsimp only at H
 obtain rfl:=vZ H;go_enter Tryz.func133,Tryz.ntmps133;try go_wp2_with (first|(refine mK 5 #[.int .i64 ao,.int .i64 au] 76 ?_;intro b1 hg w5 ab hb;have ai:=bm (ab);have dF:=bG HB hg;replace HB:=bW HB hb;clear hb ab hg))
 replace ai:=vC ai;replace HB:=vH HB;refine start_ (n:=10) (S:=fun w'=>w'.cell? ⟨b1,0,none⟩=some (.int .i64 ao)∧w'.cell? ⟨b1,1,none⟩=some (.int .i64 au)) (ds:=[]) #[false,false,false,false,false,false,false,false,false,false] (by kernel_rfl) rfl rfl ⟨(ja ai.out 0).trans rfl,(ja ai.out 1).trans rfl⟩ (fun hHeld=>?_);refine with_tabW ks.wP ks.sE (fun av cX=>?_);generalize w5.drew=w6 at ai HB hHeld⊢;refine pA 0 7 av ?_ ?_ ?_ ?_ (pA 1 8 av ?_ ?_ ?_ ?_ (pA 2 9 av ?_ ?_ ?_ ?_ (pA 5 12 av ?_ ?_ ?_ ?_ (tA 3 10 av cX hHeld ?_ ?_ ?_ ?_ (tA 6 13 av cX hHeld ?_ ?_ ?_ ?_ ?_)))))
 all_goals first|(rintro w' ⟨_,_⟩;go_simp;with_reducible rfl)|(intro w';go_simp;with_reducible rfl)|(simp only[Act.put,qA,qB,qC,i64_w,i32_w];rfl)|skip
 refine oA 4 (some 11) av (fun K hK=>?_);refine goes_ Tryz.func144 (by kernel_rfl) rfl #[.int .i64 a0,.slice A1 l1.length c1,.int .i64 ao] (by rfl) rfl rfl (by(try simp only[List.map_toArray,List.map_cons,List.map_nil]);first|done|rfl|(simp only[List.length_drop,List.length_take];rfl)) ?_;with_reducible refine(iO.calls k a0 _ _ l1 ao aY _ ?ig ?ij A4.out).mono ?_
 (case ig=>exact cY bA HB);(case ij=>exact bB.out);rintro e _ ⟨rfl,hb⟩;refine⟨_,rfl,?_⟩;replace ai:=bU ai hb;replace HB:=bW HB hb;(try clear hb);(try clear hb2);(try clear hk);(try clear hi);refine hK.out _ _ ⟨(ja ai.out 0).trans rfl,(ja ai.out 1).trans rfl⟩ (fun hHeld=>?_);clear hK K;refine vQ 11 ?_
 refine pA 7 14 av ?_ ?_ ?_ ?_ (pA 8 15 av ?_ ?_ ?_ ?_ (pA 9 6 av ?_ ?_ ?_ ?_ ?_))
 all_goals first|(intro w';go_simp;with_reducible rfl)|(simp only[Act.put,qA,qB,qC,i64_w,i32_w];rfl)|skip
 refine done_ (done_of av.out (by kernel_rfl)) ?_;try go_wp2
 go_ret;exact vo HB
def lJ.f (k:Nat) (a0:Int) (l1:List Int) (a2:Int):Option (Int):=(kv.f a0).bind fun aw=>((iI.f k l1 (Go.bits .xor .i64 aw a2)).bind fun a7=>(some a7))
instance lJ.mo {k a0 a1 a2}:ku (lJ.f k a0 a1 a2) (lJ.f (k+1) a0 a1 a2):=by unfold lJ.f;infer_instance
theorem lJ.calls (k:Nat) (a0:Int) (A1:Option Addr) (c1:Nat) (l1:List Int) (a2:Int) (r:Int) (w:World) (aZ:Kd.C (Kd.int .i64) w A1 l1.length l1) (a6:l1.length≤c1) (h:lJ.f k a0 l1 a2=some r):
  Calls Tryz.prog 134 #[.int .i64 a0,.slice A1 l1.length c1,.int .i64 a2] w fun e w'=>e= .returned (.int .i64 r)∧Below w.heap.size w w':=by
 have bA:=bm aZ;have bB:=bm a6;clear aZ a6;have HB:=bm (Below.refl w.heap.size w);have H:=h;clear h;unfold lJ.f at H;obtain⟨aw,A4,H⟩:=bE H;try dsimp only at H
 obtain⟨a7,A5,H⟩:=bE H;try dsimp only at H
 obtain rfl:=vZ H;go_enter Tryz.func134,Tryz.ntmps134;go_wp2_with (first|(refine gB (some 9) Tryz.func140 #[.int .i64 a0] rfl ?_;(with_reducible refine(kv.calls a0 aw _ A4.out).mono ?_);rintro e w' ⟨rfl,⟨nd,rfl⟩⟩;refine⟨_,rfl,?_⟩)|(refine gB (some 12) Tryz.func153 #[.slice A1 l1.length c1,.int .i64 (Go.bits .xor .i64 aw a2)] rfl ?_;(with_reducible refine(iI.calls k _ _ l1 (Go.bits .xor .i64 aw a2) a7 _ ?_ ?_ A5.out).mono ?_);exact cZ bA.out;exact bB.out;rintro e _ ⟨rfl,hb⟩;refine⟨_,rfl,?_⟩;replace HB:=bW HB hb;clear hb));go_ret;exact vo HB
def mb.f (k:Nat) (a0:Int) (l1:List Int) (a2:Int):Option (Int):=(ko.f a0 l1).bind fun a8=>((kv.f a0).bind fun ax=>((iO.f k a0 l1 (Go.bits .xor .i64 ax a2)).bind fun ba=>(some (Go.bits .or .i64 a8 ba))))
instance mb.mo {k a0 a1 a2}:ku (mb.f k a0 a1 a2) (mb.f (k+1) a0 a1 a2):=by unfold mb.f;infer_instance
theorem mb.calls (k:Nat) (a0:Int) (A1:Option Addr) (c1:Nat) (l1:List Int) (a2:Int) (r:Int) (w:World) (aZ:Kd.C (Kd.int .i64) w A1 l1.length l1) (a6:l1.length≤c1) (h:mb.f k a0 l1 a2=some r):
  Calls Tryz.prog 135 #[.int .i64 a0,.slice A1 l1.length c1,.int .i64 a2] w fun e w'=>e= .returned (.int .i64 r)∧Below w.heap.size w w':=by
 have bA:=bm aZ;have bB:=bm a6;clear aZ a6;have HB:=bm (Below.refl w.heap.size w);have H:=h;clear h;unfold mb.f at H;obtain⟨a8,A4,H⟩:=bE H;try dsimp only at H
 obtain⟨ax,A5,H⟩:=bE H;try dsimp only at H
 obtain⟨ba,A6,H⟩:=bE H;try dsimp only at H
 obtain rfl:=vZ H;go_enter Tryz.func135,Tryz.ntmps135;go_wp2_with (first|(refine gB (some 9) Tryz.func67 #[.int .i64 a0,.slice A1 l1.length c1] rfl ?_;(with_reducible refine(ko.calls a0 _ _ l1 a8 _ ?_ ?_ A4.out).mono ?_);exact cZ bA.out;exact bB.out;rintro e _ ⟨rfl,hb⟩;refine⟨_,rfl,?_⟩;replace HB:=bW HB hb;clear hb)|(refine gB (some 13) Tryz.func140 #[.int .i64 a0] rfl ?_;(with_reducible refine(kv.calls a0 ax _ A5.out).mono ?_);rintro e w' ⟨rfl,⟨nd,rfl⟩⟩;refine⟨_,rfl,?_⟩)|(refine gB (some 16) Tryz.func144 #[.int .i64 a0,.slice A1 l1.length c1,.int .i64 (Go.bits .xor .i64 ax a2)] rfl ?_;(with_reducible refine(iO.calls k a0 _ _ l1 (Go.bits .xor .i64 ax a2) ba _ ?_ ?_ A6.out).mono ?_);exact cZ (Kd.C_below bA.out (wZ HB));exact bB.out;rintro e _ ⟨rfl,hb⟩;refine⟨_,rfl,?_⟩;replace HB:=bW HB hb;clear hb));go_ret;exact vo HB
def lK.f (a0:Int) (a1:Int):Option (Bool):=(kn.f a0).bind fun bb=>(if bb=true then(if a1≥0 then((kv.f a0).bind fun bc=>(some (decide (a1≤bc))))else(some false))else(some false))
theorem lK.calls (a0:Int) (a1:Int) (r:Bool) (w:World) (h:lK.f a0 a1=some r):
  Calls Tryz.prog 154 #[.int .i64 a0,.int .i64 a1] w fun e w'=>e= .returned (.bool r)∧Drawn0 w w':=by
 have H:=h;clear h;unfold lK.f at H;obtain⟨bb,A3,H⟩:=bE H;try dsimp only at H
 by_cases c4:bb=true
 subst c4;rw[if_pos rfl]at H;rcases vL H with⟨da,H⟩|⟨da,H⟩
 obtain⟨bc,A6,H⟩:=bE H;try dsimp only at H
 obtain rfl:=vZ H
 rotate_left
 obtain rfl:=vZ H
 rotate_left
 replace c4:=uZ c4;subst c4;rw[if_neg vR]at H;obtain rfl:=vZ H
 rotate_left
 all_goals(go_enter Tryz.func154,Tryz.ntmps154;go_wp2_with (first|(refine gB (some 6) Tryz.func64 #[.int .i64 a0] rfl ?_;(with_reducible refine(kn.calls a0 true _ A3.out).mono ?_);rintro e w' ⟨rfl,⟨nd,rfl⟩⟩;refine⟨_,rfl,?_⟩)|(go_at_call 140;(with_reducible refine(kv.calls a0 bc _ A6.out).mono ?_);rintro e w' ⟨rfl,⟨nd,rfl⟩⟩)|(refine gB (some 6) Tryz.func64 #[.int .i64 a0] rfl ?_;(with_reducible refine(kn.calls a0 false _ A3.out).mono ?_);rintro e w' ⟨rfl,⟨nd,rfl⟩⟩;refine⟨_,rfl,?_⟩)))
 iterate 3(go_ret;exact vn)
def Fj (x d m:Int):Int:=IntKind.u64.wrap ((Go.bits .and .u64 (x/d) m)+(Go.bits .and .u64 x m))
def Ex (x d:Int):Int:=IntKind.u64.wrap (x+(x/d))
def FG (y:Int):Int:=IntKind.u64.wrap ((y/16)+y)
def nn.f (a0:Int):Option (Int):=some (Go.bits .and .i64 (wrap64 (Ex (Ex (Ex (Go.bits .and .u64 (FG (Fj (Fj a0 2 6148914691236517205) 4 3689348814741910323)) 1085102592571150095) 256) 65536) 4294967296)) 127)
theorem nn.calls (a0:Int) (r:Int) (w:World) (h:nn.f a0=some r):
  Calls Tryz.prog 199 #[.int .u64 a0] w fun e w'=>e= .returned (.int .i64 r)∧Drawn0 w w':=by
 obtain rfl:=vZ h;go_enter Tryz.func199,Tryz.ntmps199;go_wp2;go_ret;exact vn
def nL.f (a0:Int):Option (Int):=(nn.f a0).bind fun t=>some t
theorem nL.calls (a0:Int) (r:Int) (w:World) (h:nL.f a0=some r):
  Calls Tryz.prog 187 #[.int .u64 a0] w fun e w'=>e= .returned (.int .i64 r)∧Drawn0 w w':=by
 obtain⟨t,ht,h⟩:=Option.bind_eq_some_iff.mp h;obtain rfl:=vZ h;have HT:=bm (nn.calls a0 t w ht);clear h ht;go_enter Tryz.func187,Tryz.ntmps187;go_wp2_with fail;refine HT.out.mono ?_;rintro e w1 ⟨rfl,⟨n,rfl⟩⟩;go_wp2;go_ret;exact⟨rfl,⟨⟨n,rfl⟩⟩⟩
def oK.f (a0:Int) (a1:Int):Option (Int):=(nL.f (IntKind.u64.wrap (Go.bits .xor .i64 a0 a1))).bind fun bd=>(some bd)
theorem oK.calls (a0:Int) (a1:Int) (r:Int) (w:World) (h:oK.f a0 a1=some r):
  Calls Tryz.prog 167 #[.int .i64 a0,.int .i64 a1] w fun e w'=>e= .returned (.int .i64 r)∧Drawn0 w w':=by
 have H:=h;clear h;unfold oK.f at H;obtain⟨bd,A3,H⟩:=bE H;try dsimp only at H
 obtain rfl:=vZ H;go_enter Tryz.func167,Tryz.ntmps167;go_wp2_with (first|(refine gB (some 9) Tryz.func187 #[.int .u64 (IntKind.u64.wrap (Go.bits .xor .i64 a0 a1))] rfl ?_;(with_reducible refine(nL.calls (IntKind.u64.wrap (Go.bits .xor .i64 a0 a1)) bd _ A3.out).mono ?_);rintro e w' ⟨rfl,⟨nd,rfl⟩⟩;refine⟨_,rfl,?_⟩));go_ret;exact vn
mutual
def iC.l0:Nat→Int→Int→List Int→Int→Int→Option (List Int)
 |0,_,_,_,_,_=>none
 |k+1,x0,x1,x5,x11,x12=>if x12<x11 then(if 0≤x0 then(iC.l1 k x0 x1 x5 x12 x0 x11 x12 (shl .i64 1 x0) 0)else(none))else(some x5)
def iC.l1:Nat→Int→Int→List Int→Int→Int→Int→Int→Int→Int→Option (List Int)
 |0,_,_,_,_,_,_,_,_,_=>none
 |k+1,x0,x1,x5,x6,x7,x11,x12,x17,x18=>if x18<x17 then(if 0≤x18 then(if(Go.bits .and .i64 (shr .i64 x1 x18) 1)=1 then((oK.f x6 x18).bind fun aJ=>(iC.l1 k x0 x1 x5 x6 (mn x7 aJ) x11 x12 x17 (wrap64 (x18+1))))else(iC.l1 k x0 x1 x5 x6 x7 x11 x12 x17 (wrap64 (x18+1))))else(none))else(if x5.length<17592186044416 then(iC.l0 k x0 x1 (x5++ [x7]) x11 (wrap64 (x12+1)))else(none))
end
def iC.f (k:Nat) (a0:Int) (a1:Int):Option (List Int):=if 0≤a0 then(iC.l0 k a0 a1 (([]:List Int)) (shl .i64 1 a0) 0)else(none)
theorem iC.gF:∀k,(∀y0 y1 y2 y3 y4,ku (iC.l0 k y0 y1 y2 y3 y4) (iC.l0 (k+1) y0 y1 y2 y3 y4))∧(∀y0 y1 y2 y3 y4 y5 y6 y7 y8,ku (iC.l1 k y0 y1 y2 y3 y4 y5 y6 y7 y8) (iC.l1 (k+1) y0 y1 y2 y3 y4 y5 y6 y7 y8))
 |0=>⟨fun _ _ _ _ _=> .z (by simp only[iC.l0]),fun _ _ _ _ _ _ _ _ _=> .z (by simp only[iC.l1])⟩
 |k+1=>by
  have⟨i0,i1⟩:=iC.gF k;exact⟨fun _ _ _ _ _=>by unfold iC.l0;infer_instance,fun _ _ _ _ _ _ _ _ _=>by unfold iC.l1;infer_instance⟩
instance iC.mo {k a0 a1}:ku (iC.f k a0 a1) (iC.f (k+1) a0 a1):=by have⟨i0,i1⟩:=iC.gF k;unfold iC.f;infer_instance
theorem iC.mono:∀a0 a1 k,LeO (iC.f k a0 a1) (iC.f (k+1) a0 a1):=fun _ _ _=>iC.mo.h
theorem iC.calls (k:Nat) (a0:Int) (a1:Int) (r:List Int) (w:World) (h:iC.f k a0 a1=some r):
  Calls Tryz.prog 155 #[.int .i64 a0,.int .i64 a1] w fun e w'=>∃db:Value,e= .returned (db)∧Kd.R (Kd.int .i64) 3 w' w.heap.size (fun _=>True) db r∧Below w.heap.size w w':=by
 have HB:=bm (Below.refl w.heap.size w);have H:=h;clear h;unfold iC.f at H;obtain⟨cd,bj⟩:∃y_:List Int,y_=(([]:List Int)):=⟨_,rfl⟩;replace H:(if 0≤a0 then(iC.l0 k a0 a1 cd (shl .i64 1 a0) 0)else(none))=some r:=by first|(rw[bj];exact H)|exact H
 have b4:=bm bj;clear bj;obtain⟨dS,dT,H⟩:=vK H;obtain⟨aR,bf⟩:∃j_:Int,(shl .i64 1 a0)=j_:=⟨_,rfl⟩;first|rw[bf]at H|simp only[bf]at H
 have bl:(IntKind.i64.wrap (1*2^min a0.toNat 64))=aR:=bf;have bn:a0≤64→(IntKind.i64.wrap (1*2^a0.toNat))=aR:=shl_small bf;have ch:(IntKind.i64.wrap (2^min a0.toNat 64))=aR:=by have h_:=bl;rw[Int.one_mul]at h_;exact h_
 have cj:a0≤64→(IntKind.i64.wrap (2^a0.toNat))=aR:=fun ay=>by have h_:=bn ay;rw[Int.one_mul]at h_;exact h_
 have ck:(wrap64 (1*2^min a0.toNat 64))=aR:=(i64_w _).symm.trans bl;have cl:a0≤64→(wrap64 (1*2^a0.toNat))=aR:=fun h_=>(i64_w _).symm.trans (bn h_)
 have H':=bm H;clear H;go_enter Tryz.func155,Tryz.ntmps155;go_wp2_with (first|((with_reducible refine gate_dst (N:=9) rfl ?_);refine Kd.R_lit (Kd.int .i64) _ 3 ?hg (N:=9) ?hd (xs:=([]:List Int)) (inner:=[]) (ok:=fun _=>True) (okp:=fun _=>True) ?hr ?hp (fun _ hk=>hk) trivial (Below.refl _ _) (Nat.le_refl _) (by simp) ?_;(case hd=>rfl);(case hg=>rfl);(case hr=>first|(go_simp;done)|(go_simp;rfl));(case hp=>exact(Reps.none _ _));intro _ _ b5 hb dG cm;clear dG cm;(first|rw[←b4.out]at b5|(simp only[Int.reduceToNat]at b5;rw[←b4.out]at b5));have cn:=vm b5 HB;replace HB:=bW HB hb;clear hb b5));go_loopg [5,12] k (fun kq v5 v12 w'=>∃(az:List Int) (aj:Int),v12= .int .i64 aj∧gm (iC.l0 kq a0 a1 az aR aj=some r)∧gm (kq≤k)∧gm (Kd.R (Kd.int .i64) 3 w' w.heap.size (fun _=>True) v5 az)∧gm (Below w.heap.size w w'))
 case atStart=>exact⟨(cd),(0),(by first|rfl|(simp;done)|(simp[*];done)),H',⟨Nat.le_refl _⟩,⟨by(repeat apply Kd.RS);exact cn.out⟩,⟨wZ HB⟩⟩
 case round=>
  clear H';obtain⟨az,aj,rfl,HA,bD,lp,HB⟩:=hrel;cases gk with
  |zero=>exact absurd HA.out (by simp[iC.l0])
  |succ k1=>
   have H:=HA.out;clear HA;simp only[iC.l0]at H;rcases vL H with⟨dc,H⟩|⟨dc,H⟩
   ·obtain⟨dV,dW,H⟩:=vK H;obtain⟨bo,br⟩:∃j_:Int,(shl .i64 1 a0)=j_:=⟨_,rfl⟩;(try clear bl);(try clear ch);(try clear cj);(try clear cl);(try clear ck);(try clear bn);first|rw[br]at H|simp only[br]at H
    have b6:(IntKind.i64.wrap (1*2^min a0.toNat 64))=bo:=br;have b7:a0≤64→(IntKind.i64.wrap (1*2^a0.toNat))=bo:=shl_small br;have dH:(IntKind.i64.wrap (2^min a0.toNat 64))=bo:=by have h_:=b6;rw[Int.one_mul]at h_;exact h_
    have dI:a0≤64→(IntKind.i64.wrap (2^a0.toNat))=bo:=fun ay=>by have h_:=b7 ay;rw[Int.one_mul]at h_;exact h_
    have dJ:(wrap64 (1*2^min a0.toNat 64))=bo:=(i64_w _).symm.trans b6;have dK:a0≤64→(wrap64 (1*2^a0.toNat))=bo:=fun h_=>(i64_w _).symm.trans (b7 h_)
    have H':=bm H;clear H;go_wp2;go_loopg [7,18] k1 (fun kq v7 cp w'=>∃(ae:Int) (ah:Int),v7= .int .i64 ae∧cp= .int .i64 ah∧gm (iC.l1 kq a0 a1 az aj ae aR aj bo ah=some r)∧gm (kq≤k1)∧gm (Kd.R (Kd.int .i64) 3 w' w.heap.size (fun _=>True) u5 az)∧gm (Below w.heap.size w w'))
    case atStart=>exact⟨(a0),(0),(by first|rfl|(simp;done)|(simp[*];done)),(by first|rfl|(simp;done)|(simp[*];done)),H',⟨Nat.le_refl _⟩,⟨by(repeat apply Kd.RS);exact lp.out⟩,⟨wZ HB⟩⟩
    case round=>
     clear H';obtain⟨ae,ah,rfl,rfl,HA,aA,lp,HB⟩:=hrel;cases gk with
     |zero=>exact absurd HA.out (by simp[iC.l1])
     |succ k2=>
      have H:=HA.out;clear HA;simp only[iC.l1]at H;rcases vL H with⟨cq,H⟩|⟨cq,H⟩
      ·obtain⟨b8,dL,H⟩:=vK H;obtain⟨aK,aU⟩:∃j_:Int,(shr .i64 a1 ah)=j_:=⟨_,rfl⟩;first|rw[aU]at H|simp only[aU]at H
       have dk:(a1/2^min ah.toNat 64)=aK:=aU;have dm:ah≤64→(a1/2^ah.toNat)=aK:=shr_small aU;rcases iT H with⟨bF,H⟩|⟨bF,H⟩
       ·obtain⟨cr,ct⟩:=vl bF;clear bF;obtain⟨aJ,dd,H⟩:=bE H;try dsimp only at H
        obtain⟨cf,aC⟩:∃j_:Int,(mn ae aJ)=j_:=⟨_,rfl⟩;first|rw[aC]at H|simp only[aC]at H
        (try rw[aC]at dd);have dn:(if aJ<ae then aJ else ae)=cf:=aC;have H':=bm H;clear H;go_wp2_with (first|(refine gB (some 29) Tryz.func167 #[.int .i64 aj,.int .i64 ah] rfl ?_;(with_reducible refine(oK.calls aj ah aJ _ dd.out).mono ?_);rintro e w' ⟨rfl,⟨nd,rfl⟩⟩;refine⟨_,rfl,?_⟩));go_roundg k2
        case measure=>have:=bD.out;have:=aA.out;omega
        case rel=>exact⟨(cf),(wrap64 (ah+1)),(by first|rfl|(simp;done)|(simp only[←aC]<;>(first|rfl|simp))|(simp[*];done)),(by first|rfl|(simp;done)|(simp[*];done)),H',⟨by have:=bD.out;have:=aA.out;omega⟩,⟨by(repeat apply Kd.RS);exact lp.out⟩,⟨wZ HB⟩⟩
       ·obtain⟨cr,ct⟩:=vk bF;have H':=bm H;clear H;go_wp2;go_roundg k2
        case measure=>have:=bD.out;have:=aA.out;omega
        case rel=>exact⟨(ae),(wrap64 (ah+1)),(by first|rfl|(simp;done)|(simp[*];done)),(by first|rfl|(simp;done)|(simp[*];done)),H',⟨by have:=bD.out;have:=aA.out;omega⟩,⟨by(repeat apply Kd.RS);exact lp.out⟩,⟨wZ HB⟩⟩
      ·obtain⟨de,H⟩:=iN H;have cu:=bm de;clear de;obtain⟨cg,bp⟩:∃y_:List Int,y_=(az++ [ae]):=⟨_,rfl⟩;rw[←bp]at H
       have cv:=bm bp;clear bp;have H':=bm H;clear H;go_wp2_with (first|((with_reducible refine gate_builtin (b:=.append) (xs:= #[.tmp 32,.tmp 34]) rfl ?_);at_builtin;refine Kd.R_append (Kd.int .i64) (w0:=w) w.heap.size rfl (.tmp 32) (.tmp 34) 23 3 (.int .i64 0) 8 rfl Tryz.underlying23 info3 rfl (by decide) (by omega) u5 az ae [.int .i64 ae] (fun _=>True) (fun _=>False) rfl rfl ?aP (fun _ hk=>hk.elim) ?aF ?aO ?aB ?aS ?aL ?_;(case aP=>exact rfl);(case aB=>exact(wZ HB));(case aF=>exact(fun _ _=>trivial));(case aO=>exact(rS lp));(case aS=>exact(below_size (wZ HB)));(case aL=>have:=cu.out;omega);intro _ _ ho hb hg dM;rw[←cv.out]at ho;replace HB:=bm (hb);have cw:=bm (ho);clear lp;clear ho hb hg dM));go_roundg k2
       case measure=>have:=bD.out;have:=aA.out;omega
       case rel=>exact⟨(cg),(wrap64 (aj+1)),(by first|rfl|(simp;done)|(simp[*];done)),H',⟨by have:=bD.out;have:=aA.out;omega⟩,⟨by(repeat apply Kd.RS);exact cw.out⟩,⟨wZ HB⟩⟩
   ·obtain rfl:=vZ H;go_wp2;go_ret;exact⟨_,by first|rfl|(simp[fM,fN]<;>rfl)|(simp only[←bf];first|rfl|(simp[fM,fN]<;>rfl))|(simp[*,fM,fN]<;>rfl),by(repeat apply Kd.RS);exact lp.out,wZ HB⟩
mutual
def iF.j0:Nat→Int→Int→Int→Bool→Option (Int)
 |0,_,_,_,_=>none
 |k+1,x0,x1,x2,x18=>if x18=true then(some (-1))else(if 0≤x0 then(iF.l0 k x0 x1 x2 0 (shl .i64 1 x0) 0)else(none))
def iF.l0:Nat→Int→Int→Int→Int→Int→Int→Option (Int)
 |0,_,_,_,_,_,_=>none
 |k+1,x0,x1,x2,x7,x20,xL=>if xL<x20 then(if 0≤xL then(if(Go.bits .and .i64 (shr .i64 x1 xL) 1)=1 then((iC.f k x0 (shl .i64 1 xL)).bind fun bg=>((iO.f k x0 bg x2).bind fun bs=>(iF.l0 k x0 x1 x2 (Go.bits .or .i64 x7 bs) x20 (wrap64 (xL+1)))))else(iF.l0 k x0 x1 x2 x7 x20 (wrap64 (xL+1))))else(none))else(some x7)
end
def iF.f (k:Nat) (a0:Int) (a1:Int) (a2:Int):Option (Int):=(lK.f a0 a1).bind fun bh=>(if bh=true then((lK.f a0 a2).bind fun aM=>(iF.j0 k a0 a1 a2 (!aM)))else(iF.j0 k a0 a1 a2 true))
theorem iF.gF:∀k,(∀y0 y1 y2 y3,ku (iF.j0 k y0 y1 y2 y3) (iF.j0 (k+1) y0 y1 y2 y3))∧(∀y0 y1 y2 y3 y4 y5,ku (iF.l0 k y0 y1 y2 y3 y4 y5) (iF.l0 (k+1) y0 y1 y2 y3 y4 y5))
 |0=>⟨fun _ _ _ _=> .z (by simp only[iF.j0]),fun _ _ _ _ _ _=> .z (by simp only[iF.l0])⟩
 |k+1=>by
  have⟨i0,i1⟩:=iF.gF k;exact⟨fun _ _ _ _=>by unfold iF.j0;infer_instance,fun _ _ _ _ _ _=>by unfold iF.l0;infer_instance⟩
instance iF.mo {k a0 a1 a2}:ku (iF.f k a0 a1 a2) (iF.f (k+1) a0 a1 a2):=by have⟨i0,i1⟩:=iF.gF k;unfold iF.f;infer_instance
theorem iF.calls (k:Nat) (a0:Int) (a1:Int) (a2:Int) (r:Int) (w:World) (h:iF.f k a0 a1 a2=some r):
  Calls Tryz.prog 136 #[.int .i64 a0,.int .i64 a1,.int .i64 a2] w fun e w'=>e= .returned (.int .i64 r)∧Below w.heap.size w w':=by
 have HB:=bm (Below.refl w.heap.size w);have H:=h;clear h;unfold iF.f at H;have cx:=bm H;clear H;go_enter Tryz.func136,Tryz.ntmps136;go_upto_region 1 with(fail)
 go_cut [18] (fun cp wc=>∃(kq:Nat) (aV:Bool),cp= .bool aV∧gm (iF.j0 kq a0 a1 a2 aV=some r)∧gm (kq≤k)∧gm (Below w.heap.size w wc))
 case first=>
  have H:=cx.out;clear cx;obtain⟨bh,A5,H⟩:=bE H;try dsimp only at H
  by_cases c6:bh=true
  ·subst c6;rw[if_pos rfl]at H;obtain⟨aM,A7,H⟩:=bE H;try dsimp only at H
   have H':=bm H;clear H;go_wp2_with (first|(refine gB (some 11) Tryz.func154 #[.int .i64 a0,.int .i64 a1] rfl ?_;(with_reducible refine(lK.calls a0 a1 true _ A5.out).mono ?_);rintro e w' ⟨rfl,⟨nd,rfl⟩⟩;refine⟨_,rfl,?_⟩)|(go_at_call 154;(with_reducible refine(lK.calls a0 a2 aM _ A7.out).mono ?_);rintro e w' ⟨rfl,⟨nd,rfl⟩⟩));go_meet
   case rel=>exact⟨_,(!aM),(by first|rfl|(simp;done)|(simp[*];done)),H',⟨by first|omega|exact Nat.le_refl _⟩,⟨wZ HB⟩⟩
  ·replace c6:=uZ c6;subst c6;rw[if_neg vR]at H;have H':=bm H;clear H;go_wp2_with (first|(refine gB (some 11) Tryz.func154 #[.int .i64 a0,.int .i64 a1] rfl ?_;(with_reducible refine(lK.calls a0 a1 false _ A5.out).mono ?_);rintro e w' ⟨rfl,⟨nd,rfl⟩⟩;refine⟨_,rfl,?_⟩));go_meet
   case rel=>exact⟨_,(true),(by first|rfl|(simp;done)|(simp[*];done)),H',⟨by first|omega|exact Nat.le_refl _⟩,⟨wZ HB⟩⟩
 case rest=>
  clear cx;obtain⟨kq,aV,rfl,HA,b9,HB⟩:=hcut;cases kq with
  |zero=>exact absurd HA.out (by simp[iF.j0])
  |succ oW=>
   have H:=HA.out;clear HA;simp only[iF.j0]at H;by_cases c8:aV=true
   ·subst c8;rw[if_pos rfl]at H;obtain rfl:=vZ H;go_wp2;go_ret;exact vo HB
   ·replace c8:=uZ c8;subst c8;rw[if_neg vR]at H;obtain⟨cb,cc,H⟩:=vK H;obtain⟨aD,aE⟩:∃j_:Int,(shl .i64 1 a0)=j_:=⟨_,rfl⟩;first|rw[aE]at H|simp only[aE]at H
    have bu:(IntKind.i64.wrap (1*2^min a0.toNat 64))=aD:=aE;have bw:a0≤64→(IntKind.i64.wrap (1*2^a0.toNat))=aD:=shl_small aE;have dp:(IntKind.i64.wrap (2^min a0.toNat 64))=aD:=by have h_:=bu;rw[Int.one_mul]at h_;exact h_
    have dq:a0≤64→(IntKind.i64.wrap (2^a0.toNat))=aD:=fun ay=>by have h_:=bw ay;rw[Int.one_mul]at h_;exact h_
    have dr:(wrap64 (1*2^min a0.toNat 64))=aD:=(i64_w _).symm.trans bu;have dt:a0≤64→(wrap64 (1*2^a0.toNat))=aD:=fun h_=>(i64_w _).symm.trans (bw h_)
    have H':=bm H;clear H;go_wp2;go_loopg [7,21] oW (fun kq v7 v21 w'=>∃(ae:Int) (J:Int),v7= .int .i64 ae∧v21= .int .i64 J∧gm (iF.l0 kq a0 a1 a2 ae aD J=some r)∧gm (kq≤oW)∧gm (Below w.heap.size w w'))
    case atStart=>exact⟨(0),(0),(by first|rfl|(simp;done)|(simp[*];done)),(by first|rfl|(simp;done)|(simp[*];done)),H',⟨Nat.le_refl _⟩,⟨wZ HB⟩⟩
    case round=>
     clear H';obtain⟨ae,J,rfl,rfl,HA,aA,HB⟩:=hrel;cases gk with
     |zero=>exact absurd HA.out (by simp[iF.l0])
     |succ k2=>
      have H:=HA.out;clear HA;simp only[iF.l0]at H;rcases vL H with⟨b8,H⟩|⟨b8,H⟩
      ·obtain⟨dN,dO,H⟩:=vK H;obtain⟨aN,aW⟩:∃j_:Int,(shr .i64 a1 J)=j_:=⟨_,rfl⟩;first|rw[aW]at H|simp only[aW]at H
       have du:(a1/2^min J.toNat 64)=aN:=aW;have dv:J≤64→(a1/2^J.toNat)=aN:=shr_small aW;rcases iT H with⟨bH,H⟩|⟨bH,H⟩
       ·obtain⟨cz,cA⟩:=vl bH;clear bH;have dP:=vI (jK:0≤J);obtain⟨aq,aG⟩:∃j_:Int,(shl .i64 1 J)=j_:=⟨_,rfl⟩;first|rw[aG]at H|simp only[aG]at H
        have bx:(IntKind.i64.wrap (1*2^min J.toNat 64))=aq:=aG;have bz:J≤64→(IntKind.i64.wrap (1*2^J.toNat))=aq:=shl_small aG;have dw:(IntKind.i64.wrap (2^min J.toNat 64))=aq:=by have h_:=bx;rw[Int.one_mul]at h_;exact h_
        have dx:J≤64→(IntKind.i64.wrap (2^J.toNat))=aq:=fun ay=>by have h_:=bz ay;rw[Int.one_mul]at h_;exact h_
        have dy:(wrap64 (1*2^min J.toNat 64))=aq:=(i64_w _).symm.trans bx;have dz:J≤64→(wrap64 (1*2^J.toNat))=aq:=fun h_=>(i64_w _).symm.trans (bz h_)
        obtain⟨bg,dQ,H⟩:=bE H;try dsimp only at H
        obtain⟨bs,dR,H⟩:=bE H;try dsimp only at H
        have H':=bm H;clear H;go_wp2_with (first|((with_reducible refine gate_callee (f:=155) rfl ?_);refine yI (some 34) rfl rfl Tryz.func155 (by kernel_rfl) rfl #[.int .i64 a0,.int .i64 aq] rfl (by(try simp only[List.map_toArray,List.map_cons,List.map_nil]);first|done|(simp only[aG];rfl)|rfl|(simp only[List.length_drop,List.length_take];rfl)) ?_;(with_reducible refine(iC.calls k2 a0 aq bg _ dQ.out).mono ?_);rintro e _ ⟨_,rfl,df,hb⟩;refine⟨_,rfl,?_⟩;have aH:=vm df HB;replace HB:=bW HB hb;clear hb;(try clear df);obtain⟨dh,di,dj⟩:=Kd.R_slice aH.out;subst dj)|(refine gB (some 36) Tryz.func144 #[.int .i64 a0,.slice dh bg.length di,.int .i64 a2] rfl ?_;(with_reducible refine(iO.calls k2 a0 _ _ bg a2 bs _ ?_ ?_ dR.out).mono ?_);exact cZ (Kd.R_reads' aH.out).2.2;exact(Kd.R_reads' aH.out).2.1;rintro e _ ⟨rfl,hb⟩;refine⟨_,rfl,?_⟩;replace aH:=bR aH hb;replace HB:=bW HB hb;clear hb));go_roundg k2
        case measure=>have:=b9.out;have:=aA.out;omega
        case rel=>exact⟨(Go.bits .or .i64 ae bs),(wrap64 (J+1)),(by first|rfl|(simp;done)|(simp[*];done)),(by first|rfl|(simp;done)|(simp[*];done)),H',⟨by have:=b9.out;have:=aA.out;omega⟩,⟨wZ HB⟩⟩
       ·obtain⟨cz,cA⟩:=vk bH;have H':=bm H;clear H;go_wp2;go_roundg k2
        case measure=>have:=b9.out;have:=aA.out;omega
        case rel=>exact⟨(ae),(wrap64 (J+1)),(by first|rfl|(simp;done)|(simp[*];done)),(by first|rfl|(simp;done)|(simp[*];done)),H',⟨by have:=b9.out;have:=aA.out;omega⟩,⟨wZ HB⟩⟩
      ·obtain rfl:=vZ H;go_wp2;go_ret;exact⟨by first|rfl|(simp[fM,fN]<;>rfl)|(simp only[←aE];first|rfl|(simp[fM,fN]<;>rfl))|(simp[*,fM,fN]<;>rfl),wZ HB⟩
end Go.Proofs.YtihgpkohglcijaaGreatDoor.P
