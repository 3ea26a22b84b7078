import Derived.Test.YtigeaokfhnlkcaaGreatDoorPx0
import Derived.Test.YtigeaokfhnlkcaaGreatDoorPx13
import Derived.Test.YtigeaokfhnlkcaaGreatDoorPx15
import Derived.Test.YtigeaokfhnlkcaaGreatDoorPx17
import Derived.Test.YtigeaokfhnlkcaaGreatDoorPx19
namespace Go.Proofs.YtigeaokfhnlkcaaGreatDoor.P
open Go.RowKit YtigeaokfhnlkcaaGreatDoorW PrintWords PrintLast PrintMore
attribute [local go_sem] max2_int min2_int max_two min_two max_three min_three max_four min_four
set_option linter.unusedVariables false
set_option linter.unusedSimpArgs false
set_option maxHeartbeats 8000000
set_option maxRecDepth 100000
def strconv_Itoa.f (n:Int):Option BA:=if 0≤n then(if n<100 then some (⟨(Lib.decDigits n.toNat).toArray⟩:BA)else none)else none
theorem strconv_Itoa.calls (n:Int) (r:BA) (w:World) (h:strconv_Itoa.f n=some r):
  Calls Tryz.prog 86 #[.int .i64 n] w fun e w'=>e= .returned (.string r)∧Drawn0 w w':=by
 unfold strconv_Itoa.f at h;by_cases h0:0≤n
 ·rw[if_pos h0]at h;by_cases h1:n<100
  ·rw[if_pos h1]at h;obtain rfl:=pd h;obtain⟨i,rfl⟩:=Int.eq_ofNat_of_zero_le h0;refine(Tryz.strconv_Itoa_small i (by omega) w).mono ?_;rintro e w' ⟨rfl,rfl⟩;exact⟨rfl,Drawn0.refl _⟩
  ·rw[if_neg h1]at h;cases h
 ·rw[if_neg h0]at h;cases h
def strings_Join.f (l0:List BA) (a1:BA):Option BA:=if l0.length≤140737488355328 then(if(Lib.join (l0.map (·.data.toList)) a1.data.toList).length≤140737488355328 then some (⟨(Lib.join (l0.map (·.data.toList)) a1.data.toList).toArray⟩:BA)else none)else none
theorem strings_Join.own {d:Kd BA} {e n c base:Nat} {w:World} {ok:Nat→Prop} {A:Option Addr} {xs:List BA} (h:d.R e w base ok (.slice A n c) xs):∀a,A=some a→a.spot=none:=by
 obtain⟨_,inner,⟨_,hh⟩,_⟩:=h;intro a ha;rcases hh with⟨e1,_⟩|⟨g,cap,cur,e1,_⟩
 ·cases e1;cases ha
 ·cases e1;cases ha;rfl
theorem strings_Join.calls (A0:Option Addr) (c0:Nat) (l0:List BA) (a1:BA) (r:BA) (w:World) (dA:Kd.C Kd.string w A0 l0.length l0) (dB:l0.length≤c0) (ha:∀a,A0=some a→a.spot=none) (h:strings_Join.f l0 a1=some r):
  Calls Tryz.prog 87 #[.slice A0 l0.length c0,.string a1] w fun e w'=>e= .returned (.string r)∧Below w.heap.size w w':=by
 unfold strings_Join.f at h;by_cases h1:l0.length≤140737488355328
 ·rw[if_pos h1]at h;by_cases h2:(Lib.join (l0.map (·.data.toList)) a1.data.toList).length≤140737488355328
  ·rw[if_pos h2]at h;obtain rfl:=pd h;by_cases hp:l0.length=0
   ·obtain rfl:=List.eq_nil_of_length_eq_zero hp;refine(Tryz.strings_Join_none A0 c0 a1 w).mono ?_;rintro e w' ⟨rfl,rfl⟩;exact⟨rfl,Below.refl _ _⟩
   ·obtain⟨ad,rfl,hc⟩:=dA.2.2 (by omega);obtain⟨bk,o,sp⟩:=ad;obtain rfl:sp=none:=ha _ rfl
    have bq:∀(j:Nat) x,l0[j]?=some x→w.cell? ⟨bk,o+j,none⟩=some (.string x):=by
     intro j x hx;obtain⟨c,hl,hk,dC⟩:=hc j x hx;obtain rfl:c= [.string x]:=hk;have:=dC 0 _ rfl;rw[show j*Kd.string.sz+0=j from Nat.mul_one j]at this;exact(congrArg w.cell? (show(⟨bk,o,none⟩:Addr).add j=⟨bk,o+j,none⟩ from by unfold Addr.add;split<;>simp_all)).symm.trans this
    have dD:bk<w.heap.size:=by
     exact World.block_lt_of_cell? _ _ (bq 0 _ (List.getElem?_eq_getElem (Nat.pos_of_ne_zero hp)))
    exact Tryz.strings_Join bk o c0 l0 a1 w bq dD h1 dB h2
  ·rw[if_neg h2]at h;cases h
 ·rw[if_neg h1]at h;cases h
def xd.f (s:BA):Option (BA×BA×Bool):=if s.size<4294967281 then some (⟨(Lib.cut s.data.toList [45,62]).1.toArray⟩,⟨(Lib.cut s.data.toList [45,62]).2.1.toArray⟩,(Lib.cut s.data.toList [45,62]).2.2)else none
theorem xd.calls (s:BA) (r1 r2:BA) (r3:Bool) (m:Int) (w:World) (hm:w.cell? ⟨0,0,none⟩=some (.int .i64 m)) (h:xd.f s=some (r1,r2,r3)):
  Calls Tryz.prog 39 #[.string s,.string (⟨#[45,62]⟩:BA)] w fun e w'=>e= .returned (.tuple #[.string r1,.string r2,.bool r3])∧Drawn0 w w':=by
 unfold xd.f at h;by_cases hs:s.size<4294967281
 ·rw[if_pos hs]at h;simp only[Option.some.injEq,Prod.mk.injEq]at h;obtain⟨rfl,rfl,rfl⟩:=h;refine(Tryz.strings_Cut s ⟨#[45,62]⟩ m w hs hm).mono ?_;rintro e w' ⟨rfl,hd⟩;exact⟨rfl,⟨hd⟩⟩
 ·rw[if_neg hs]at h;cases h
def oC.f (k:Nat) (a0:Int) (a1:BA):Option (Int×Int×Bool):=(xd.f a1).bind fun al=>((kJ.f k a0 al.1).bind fun an=>((kJ.f k a0 al.2.1).bind fun ar=>(if al.2.2=true then(if an.2=true then(if ar.2=true then(if an.1=0 then(some (0,0,false))else(some (an.1,ar.1,true)))else(some (0,0,false)))else(some (0,0,false)))else(some (0,0,false)))))
instance oC.mo {k a0 a1}:lS (oC.f k a0 a1) (oC.f (k+1) a0 a1):=by unfold oC.f;infer_instance
theorem oC.calls (k:Nat) (a0:Int) (a1:BA) (r1:Int) (r2:Int) (r3:Bool) (w:World) (m:Int) (hm:w.cell? ⟨0,0,none⟩=some (.int .i64 m)) (h:oC.f k a0 a1=some (r1,r2,r3)):
  Calls Tryz.prog 88 #[.int .i64 a0,.string a1] w fun e w'=>e= .returned (.tuple #[.agg #[.int .i64 r1,.int .i64 r2],.bool r3])∧Below w.heap.size w w':=by
 have cC:=Tryz.underlying87;have HB:=bm (Below.refl w.heap.size w);have HM:=bm (fun W (hb:Below w.heap.size w W)=>(hb.cell (World.block_lt_of_cell? _ _ hm)).trans hm);clear hm;have H:=h;clear h;unfold oC.f at H;obtain⟨⟨ae,af,cD⟩,A3,H⟩:=bE H;try dsimp only at H
 obtain⟨⟨ak,cb⟩,A4,H⟩:=bE H;try dsimp only at H
 obtain⟨⟨aI,bO⟩,A5,H⟩:=bE H;try dsimp only at H
 by_cases c6:cD=true
 subst c6;rw[if_pos rfl]at H;by_cases c7:cb=true
 subst c7;rw[if_pos rfl]at H;by_cases c8:bO=true
 subst c8;rw[if_pos rfl]at H;rcases iT H with⟨c9,H⟩|⟨c9,H⟩
 obtain⟨cc,cd⟩:=pf c9;clear c9;obtain⟨rfl,rfl,rfl⟩:=s3 H
 rotate_left
 obtain⟨cc,cd⟩:=pe c9;obtain⟨rfl,rfl,rfl⟩:=s3 H
 rotate_left
 replace c8:=pD c8;subst c8;rw[if_neg pV]at H;obtain⟨rfl,rfl,rfl⟩:=s3 H
 rotate_left
 replace c7:=pD c7;subst c7;rw[if_neg pV]at H;obtain⟨rfl,rfl,rfl⟩:=s3 H
 rotate_left
 replace c6:=pD c6;subst c6;rw[if_neg pV]at H;obtain⟨rfl,rfl,rfl⟩:=s3 H
 rotate_left
 all_goals(go_enter Tryz.func88,Tryz.ntmps88;go_wp2_with (first|(refine re 4 #[.int .i64 0,.int .i64 0] 87 ?_;intro ah hg bT aa hb;have I:=bm (aa);have aQ:=bG HB hg;replace HB:=bW HB hb;clear hb aa hg)|(refine gB (some 15) Tryz.func39 #[.string a1,.string (⟨#[45,62]⟩:BA)] rfl ?_;(refine(xd.calls a1 ae af true m _ (HM.out _ (wZ HB)) A3.out).mono ?_);rintro e w' ⟨rfl,⟨nd,rfl⟩⟩;refine⟨_,rfl,?_⟩;(try(rw[drewN_self bT];generalize rk:World.drewN bT _=bT;replace I:oI bT ah #[.int .i64 0,.int .i64 0] 87:=⟨by rw[←rk];exact(kS I)⟩;replace HB:hJ (Below w.heap.size w bT):=⟨by rw[←rk];exact(wZ HB)⟩;clear rk)))|(refine gB (some 22) Tryz.func73 #[.int .i64 a0,.string ae] rfl ?_;(refine(kJ.calls k a0 ae ak true _ A4.out).mono ?_);rintro e _ ⟨rfl,hb⟩;refine⟨_,rfl,?_⟩;replace I:=bU I hb;replace HB:=bW HB hb;clear hb)|(refine gB (some 28) Tryz.func73 #[.int .i64 a0,.string af] rfl ?_;(refine(kJ.calls k a0 af aI true _ A5.out).mono ?_);rintro e _ ⟨rfl,hb⟩;refine⟨_,rfl,?_⟩;replace I:=bU I hb;replace HB:=bW HB hb;clear hb;obtain⟨_,_,_,_⟩:=b2 I)|(refine gB (some 28) Tryz.func73 #[.int .i64 a0,.string af] rfl ?_;(refine(kJ.calls k a0 af aI false _ A5.out).mono ?_);rintro e _ ⟨rfl,hb⟩;refine⟨_,rfl,?_⟩;replace I:=bU I hb;replace HB:=bW HB hb;clear hb;obtain⟨_,_,_,_⟩:=b2 I)|(refine gB (some 22) Tryz.func73 #[.int .i64 a0,.string ae] rfl ?_;(refine(kJ.calls k a0 ae ak false _ A4.out).mono ?_);rintro e _ ⟨rfl,hb⟩;refine⟨_,rfl,?_⟩;replace I:=bU I hb;replace HB:=bW HB hb;clear hb)|(refine gB (some 28) Tryz.func73 #[.int .i64 a0,.string af] rfl ?_;(refine(kJ.calls k a0 af aI bO _ A5.out).mono ?_);rintro e _ ⟨rfl,hb⟩;refine⟨_,rfl,?_⟩;replace I:=bU I hb;replace HB:=bW HB hb;clear hb;obtain⟨_,_,_,_⟩:=b2 I)|(refine gB (some 15) Tryz.func39 #[.string a1,.string (⟨#[45,62]⟩:BA)] rfl ?_;(refine(xd.calls a1 ae af false m _ (HM.out _ (wZ HB)) A3.out).mono ?_);rintro e w' ⟨rfl,⟨nd,rfl⟩⟩;refine⟨_,rfl,?_⟩;(try(rw[drewN_self bT];generalize rk:World.drewN bT _=bT;replace I:oI bT ah #[.int .i64 0,.int .i64 0] 87:=⟨by rw[←rk];exact(kS I)⟩;replace HB:hJ (Below w.heap.size w bT):=⟨by rw[←rk];exact(wZ HB)⟩;clear rk)))|(refine gB (some 22) Tryz.func73 #[.int .i64 a0,.string ae] rfl ?_;(refine(kJ.calls k a0 ae ak cb _ A4.out).mono ?_);rintro e _ ⟨rfl,hb⟩;refine⟨_,rfl,?_⟩;replace I:=bU I hb;replace HB:=bW HB hb;clear hb)))
 ·refine rE #[.int .i64 0,.int .i64 0] (kP I) Tryz.underlying87 ?_;exact⟨eF,wZ HB⟩
 ·refine rE #[.int .i64 ak,.int .i64 aI] (kP I) Tryz.underlying87 ?_;exact⟨eF,wZ HB⟩
 iterate 3(refine rE #[.int .i64 0,.int .i64 0] (kP I) Tryz.underlying87 ?_;exact⟨eF,wZ HB⟩)
def qF.f (a0:Bool):Option (BA):=if a0=true then(some (⟨#[121,101,115]⟩:BA))else(some (⟨#[110,111]⟩:BA))
theorem qF.calls (a0:Bool) (r:BA) (w:World) (h:qF.f a0=some r):
  Calls Tryz.prog 89 #[.bool a0] w fun e w'=>e= .returned (.string r)∧Drawn0 w w':=by
 have H:=h;clear h;unfold qF.f at H;by_cases c2:a0=true
 ·subst c2;rw[if_pos rfl]at H;obtain rfl:=pd H;go_enter Tryz.func89,Tryz.ntmps89;go_wp2;go_ret;exact rq
 ·replace c2:=pD c2;subst c2;rw[if_neg pV]at H;obtain rfl:=pd H;go_enter Tryz.func89,Tryz.ntmps89;go_wp2;go_ret;exact rq
def jR.f (k:Nat) (a0:Int) (l1:LI) (ao:Int) (au:Int):Option (Bool):=(jw.f k a0 l1 ao).bind fun aY=>(some ((Go.bits .andNot .i64 aY au)==0))
instance jR.mo {k a0 a1 a2 a3}:lS (jR.f k a0 a1 a2 a3) (jR.f (k+1) a0 a1 a2 a3):=by unfold jR.f;infer_instance
def jR.T1:Bool×List (List Nat×List Nat):=(true,[([],[]),([],[]),([],[]),([2],[2]),([0,1,3],[0,1,3]),([],[]),([5],[5]),([4,6],[4,6]),([7],[7]),([8,4,0,1,2,3,4,5,6,7,8],[8])])
def jR.B1:List Nat:=[0,0,0,4,15,0,32,127,255,511]
theorem jR.yg:rtab .any (opsOf Tryz.f90 1)=jR.T1:=by kernel_rfl
theorem jR.vy:waitsOk jR.T1.2 jR.B1=true:=by kernel_rfl
theorem jR.calls (k:Nat) (a0:Int) (A1:Option Addr) (c1:Nat) (l1:LI) (ao:Int) (au:Int) (r:Bool) (w:World) (aZ:Kd.C KI w A1 l1.length l1) (a6:l1.length≤c1) (h:jR.f k a0 l1 ao au=some r):
  Calls Tryz.prog 90 #[.int .i64 a0,.slice A1 l1.length c1,.agg #[.int .i64 ao,.int .i64 au]] w fun e w'=>e= .returned (.bool r)∧Below w.heap.size w w':=by
 have cC:=Tryz.underlying87;have bB:=bm aZ;have bD:=bm a6;clear aZ a6;have HB:=bm (Below.refl w.heap.size w);have H:=h;clear h;unfold jR.f at H;obtain⟨aY,A4,H⟩:=bE H;try dsimp only at H
 obtain rfl:=pd H;go_enter Tryz.func90,Tryz.ntmps90;try go_wp2_with (first|(refine re 5 #[.int .i64 ao,.int .i64 au] 87 ?_;intro b4 hg w5 aa hb;have ai:=bm (aa);have dF:=bG HB hg;replace HB:=bW HB hb;clear hb aa hg))
 replace ai:=pG ai;replace HB:=pL HB;refine start_ (n:=10) (S:=fun w'=>w'.cell? ⟨b4,0,none⟩=some (.int .i64 ao)∧w'.cell? ⟨b4,1,none⟩=some (.int .i64 au)) (ds:=[]) #[false,false,false,false,false,false,false,false,false,false] (by kernel_rfl) rfl rfl ⟨bz ai 0,bz ai 1⟩ (fun hHeld=>?_);refine with_tabW jR.yg jR.vy (fun av da=>?_);generalize w5.drew=w6 at ai HB hHeld⊢;refine pA 0 7 av ?_ ?_ ?_ ?_ (pA 1 8 av ?_ ?_ ?_ ?_ (pA 2 9 av ?_ ?_ ?_ ?_ (pA 5 12 av ?_ ?_ ?_ ?_ (tA 3 10 av da hHeld ?_ ?_ ?_ ?_ (tA 6 13 av da hHeld ?_ ?_ ?_ ?_ ?_)))))
 all_goals first|(rintro w' ⟨_,_⟩;go_simp;with_reducible rfl)|(intro w';go_simp;with_reducible rfl)|(simp only[Act.put,qA,qB,qC,i64_w,i32_w];rfl)|skip
 refine oA 4 (some 11) av (fun K hK=>?_);refine gO Tryz.func107 #[.int .i64 a0,.slice A1 l1.length c1,.int .i64 ao] rfl ?_;refine(jw.calls k a0 _ _ l1 ao aY _ ?ix ?gH A4.out).mono ?_;(case ix=>exact cY bB HB);(case gH=>exact bD.out);rintro e _ ⟨rfl,hb⟩;refine⟨_,rfl,?_⟩;replace ai:=bU ai hb;replace HB:=bW HB hb;clear hb;refine hK.out _ _ ⟨bz ai 0,bz ai 1⟩ (fun hHeld=>?_);clear hK K;refine pU 11 ?_
 refine pA 7 14 av ?_ ?_ ?_ ?_ (pA 8 15 av ?_ ?_ ?_ ?_ (pA 9 6 av ?_ ?_ ?_ ?_ ?_))
 all_goals first|(intro w';go_simp;with_reducible rfl)|(simp only[Act.put,qA,qB,qC,i64_w,i32_w];rfl)|skip
 refine done_ (done_of av.out (by kernel_rfl)) ?_;try go_wp2
 go_ret;exact⟨eF,wZ HB⟩
def pq.f (k:Nat) (a0:Int) (l1:LI) (a2:Int):Option (Int):=(kt.f a0).bind fun aw=>((jr.f k l1 (Go.bits .xor .i64 aw a2)).bind fun a7=>(some a7))
instance pq.mo {k a0 a1 a2}:lS (pq.f k a0 a1 a2) (pq.f (k+1) a0 a1 a2):=by unfold pq.f;infer_instance
theorem pq.calls (k:Nat) (a0:Int) (A1:Option Addr) (c1:Nat) (l1:LI) (a2:Int) (r:Int) (w:World) (aZ:Kd.C KI w A1 l1.length l1) (a6:l1.length≤c1) (h:pq.f k a0 l1 a2=some r):
  Calls Tryz.prog 91 #[.int .i64 a0,.slice A1 l1.length c1,.int .i64 a2] w fun e w'=>e= .returned (.int .i64 r)∧Below w.heap.size w w':=by
 have bB:=bm aZ;have bD:=bm a6;clear aZ a6;have HB:=bm (Below.refl w.heap.size w);have H:=h;clear h;unfold pq.f at H;obtain⟨aw,A4,H⟩:=bE H;try dsimp only at H
 obtain⟨a7,A5,H⟩:=bE H;try dsimp only at H
 obtain rfl:=pd H;go_enter Tryz.func91,Tryz.ntmps91;go_wp2_with (first|(refine gB (some 9) Tryz.func116 #[.int .i64 a0] rfl ?_;(refine(kt.calls a0 aw _ A4.out).mono ?_);rintro e w' ⟨rfl,⟨nd,rfl⟩⟩;refine⟨_,rfl,?_⟩)|(refine gB (some 12) Tryz.func122 #[.slice A1 l1.length c1,.int .i64 (Go.bits .xor .i64 aw a2)] rfl ?_;(refine(jr.calls k _ _ l1 (Go.bits .xor .i64 aw a2) a7 _ ?_ ?_ A5.out).mono ?_);exact cZ bB.out;exact bD.out;rintro e _ ⟨rfl,hb⟩;refine⟨_,rfl,?_⟩;replace HB:=bW HB hb;clear hb));go_ret;exact⟨eF,wZ HB⟩
def qb.f (k:Nat) (a0:Int) (l1:LI) (a2:Int):Option (Int):=(kO.f a0 l1).bind fun a8=>((kt.f a0).bind fun ax=>((jw.f k a0 l1 (Go.bits .xor .i64 ax a2)).bind fun ba=>(some (Go.bits .or .i64 a8 ba))))
instance qb.mo {k a0 a1 a2}:lS (qb.f k a0 a1 a2) (qb.f (k+1) a0 a1 a2):=by unfold qb.f;infer_instance
theorem qb.calls (k:Nat) (a0:Int) (A1:Option Addr) (c1:Nat) (l1:LI) (a2:Int) (r:Int) (w:World) (aZ:Kd.C KI w A1 l1.length l1) (a6:l1.length≤c1) (h:qb.f k a0 l1 a2=some r):
  Calls Tryz.prog 92 #[.int .i64 a0,.slice A1 l1.length c1,.int .i64 a2] w fun e w'=>e= .returned (.int .i64 r)∧Below w.heap.size w w':=by
 have bB:=bm aZ;have bD:=bm a6;clear aZ a6;have HB:=bm (Below.refl w.heap.size w);have H:=h;clear h;unfold qb.f at H;obtain⟨a8,A4,H⟩:=bE H;try dsimp only at H
 obtain⟨ax,A5,H⟩:=bE H;try dsimp only at H
 obtain⟨ba,A6,H⟩:=bE H;try dsimp only at H
 obtain rfl:=pd H;go_enter Tryz.func92,Tryz.ntmps92;go_wp2_with (first|(refine gB (some 9) Tryz.func84 #[.int .i64 a0,.slice A1 l1.length c1] rfl ?_;(refine(kO.calls a0 _ _ l1 a8 _ ?_ ?_ A4.out).mono ?_);exact cZ bB.out;exact bD.out;rintro e _ ⟨rfl,hb⟩;refine⟨_,rfl,?_⟩;replace HB:=bW HB hb;clear hb)|(refine gB (some 13) Tryz.func116 #[.int .i64 a0] rfl ?_;(refine(kt.calls a0 ax _ A5.out).mono ?_);rintro e w' ⟨rfl,⟨nd,rfl⟩⟩;refine⟨_,rfl,?_⟩)|(refine gB (some 16) Tryz.func107 #[.int .i64 a0,.slice A1 l1.length c1,.int .i64 (Go.bits .xor .i64 ax a2)] rfl ?_;(refine(jw.calls k a0 _ _ l1 (Go.bits .xor .i64 ax a2) ba _ ?_ ?_ A6.out).mono ?_);exact cZ (Kd.C_below bB.out (wZ HB));exact bD.out;rintro e _ ⟨rfl,hb⟩;refine⟨_,rfl,?_⟩;replace HB:=bW HB hb;clear hb));go_ret;exact⟨eF,wZ HB⟩
def pr.f (a0:Int) (a1:Int):Option (Bool):=(jD.f a0).bind fun bb=>(if bb=true then(if a1≥0 then((kt.f a0).bind fun bc=>(some (decide (a1≤bc))))else(some false))else(some false))
theorem pr.calls (a0:Int) (a1:Int) (r:Bool) (w:World) (h:pr.f a0 a1=some r):
  Calls Tryz.prog 123 #[.int .i64 a0,.int .i64 a1] w fun e w'=>e= .returned (.bool r)∧Drawn0 w w':=by
 have H:=h;clear h;unfold pr.f at H;obtain⟨bb,A3,H⟩:=bE H;try dsimp only at H
 by_cases c4:bb=true
 subst c4;rw[if_pos rfl]at H;rcases pP H with⟨db,H⟩|⟨db,H⟩
 obtain⟨bc,A6,H⟩:=bE H;try dsimp only at H
 obtain rfl:=pd H
 rotate_left
 obtain rfl:=pd H
 rotate_left
 replace c4:=pD c4;subst c4;rw[if_neg pV]at H;obtain rfl:=pd H
 rotate_left
 all_goals(go_enter Tryz.func123,Tryz.ntmps123;go_wp2_with (first|(refine gB (some 6) Tryz.func70 #[.int .i64 a0] rfl ?_;(refine(jD.calls a0 true _ A3.out).mono ?_);rintro e w' ⟨rfl,⟨nd,rfl⟩⟩;refine⟨_,rfl,?_⟩)|(go_at_call 116;(with_reducible refine(kt.calls a0 bc _ A6.out).mono ?_);rintro e w' ⟨rfl,⟨nd,rfl⟩⟩)|(refine gB (some 6) Tryz.func70 #[.int .i64 a0] rfl ?_;(refine(jD.calls a0 false _ A3.out).mono ?_);rintro e w' ⟨rfl,⟨nd,rfl⟩⟩;refine⟨_,rfl,?_⟩)))
 iterate 3(go_ret;exact rq)
def HJ (x d m:Int):Int:=IntKind.u64.wrap ((Go.bits .and .u64 (x/d) m)+(Go.bits .and .u64 x m))
def GL (x d:Int):Int:=IntKind.u64.wrap (x+(x/d))
def Is (y:Int):Int:=IntKind.u64.wrap ((y/16)+y)
def ru.f (a0:Int):Option (Int):=some (Go.bits .and .i64 (wrap64 (GL (GL (GL (Go.bits .and .u64 (Is (HJ (HJ a0 2 6148914691236517205) 4 3689348814741910323)) 1085102592571150095) 256) 65536) 4294967296)) 127)
theorem ru.calls (a0:Int) (r:Int) (w:World) (h:ru.f a0=some r):
  Calls Tryz.prog 172 #[.int .u64 a0] w fun e w'=>e= .returned (.int .i64 r)∧Drawn0 w w':=by
 obtain rfl:=pd h;go_enter Tryz.func172,Tryz.ntmps172;go_wp2;go_ret;exact rq
def rN.f (a0:Int):Option (Int):=(ru.f a0).bind fun t=>some t
theorem rN.calls (a0:Int) (r:Int) (w:World) (h:rN.f a0=some r):
  Calls Tryz.prog 160 #[.int .u64 a0] w fun e w'=>e= .returned (.int .i64 r)∧Drawn0 w w':=by
 obtain⟨t,ht,h⟩:=Option.bind_eq_some_iff.mp h;obtain rfl:=pd h;have HT:=bm (ru.calls a0 t w ht);clear h ht;go_enter Tryz.func160,Tryz.ntmps160;go_wp2_with fail;refine HT.out.mono ?_;rintro e w1 ⟨rfl,⟨n,rfl⟩⟩;go_wp2;go_ret;exact⟨rfl,⟨⟨n,rfl⟩⟩⟩
def sJ.f (a0:Int) (a1:Int):Option (Int):=(rN.f (IntKind.u64.wrap (Go.bits .xor .i64 a0 a1))).bind fun bd=>(some bd)
theorem sJ.calls (a0:Int) (a1:Int) (r:Int) (w:World) (h:sJ.f a0 a1=some r):
  Calls Tryz.prog 138 #[.int .i64 a0,.int .i64 a1] w fun e w'=>e= .returned (.int .i64 r)∧Drawn0 w w':=by
 have H:=h;clear h;unfold sJ.f at H;obtain⟨bd,A3,H⟩:=bE H;try dsimp only at H
 obtain rfl:=pd H;go_enter Tryz.func138,Tryz.ntmps138;go_wp2_with (first|(refine gB (some 9) Tryz.func160 #[.int .u64 (IntKind.u64.wrap (Go.bits .xor .i64 a0 a1))] rfl ?_;(refine(rN.calls (IntKind.u64.wrap (Go.bits .xor .i64 a0 a1)) bd _ A3.out).mono ?_);rintro e w' ⟨rfl,⟨nd,rfl⟩⟩;refine⟨_,rfl,?_⟩));go_ret;exact rq
mutual
def iX.l0:Nat→Int→Int→LI→Int→Int→Option LI
 |0,_,_,_,_,_=>none
 |k+1,x0,x1,x5,x11,x12=>if x12<x11 then(if 0≤x0 then(iX.l1 k x0 x1 x5 x12 x0 x11 x12 (shl .i64 1 x0) 0)else(none))else(some x5)
def iX.l1:Nat→Int→Int→LI→Int→Int→Int→Int→Int→Int→Option LI
 |0,_,_,_,_,_,_,_,_,_=>none
 |k+1,x0,x1,x5,x6,x7,x11,x12,x17,x18=>if x18<x17 then(if 0≤x18 then(if(Go.bits .and .i64 (shr .i64 x1 x18) 1)=1 then((sJ.f x6 x18).bind fun aJ=>(iX.l1 k x0 x1 x5 x6 (mn x7 aJ) x11 x12 x17 (wrap64 (x18+1))))else(iX.l1 k x0 x1 x5 x6 x7 x11 x12 x17 (wrap64 (x18+1))))else(none))else(if x5.length<17592186044416 then(iX.l0 k x0 x1 (x5++ [x7]) x11 (wrap64 (x12+1)))else(none))
end
def iX.f (k:Nat) (a0:Int) (a1:Int):Option LI:=if 0≤a0 then(iX.l0 k a0 a1 (([]:LI)) (shl .i64 1 a0) 0)else(none)
theorem iX.hZ:∀k,(∀y0 y1 y2 y3 y4,lS (iX.l0 k y0 y1 y2 y3 y4) (iX.l0 (k+1) y0 y1 y2 y3 y4))∧(∀y0 y1 y2 y3 y4 y5 y6 y7 y8,lS (iX.l1 k y0 y1 y2 y3 y4 y5 y6 y7 y8) (iX.l1 (k+1) y0 y1 y2 y3 y4 y5 y6 y7 y8))
 |0=>⟨fun _ _ _ _ _=> .z (by simp only[iX.l0]),fun _ _ _ _ _ _ _ _ _=> .z (by simp only[iX.l1])⟩
 |k+1=>by
  have⟨i0,i1⟩:=iX.hZ k;exact⟨fun _ _ _ _ _=>by unfold iX.l0;infer_instance,fun _ _ _ _ _ _ _ _ _=>by unfold iX.l1;infer_instance⟩
instance iX.mo {k a0 a1}:lS (iX.f k a0 a1) (iX.f (k+1) a0 a1):=by have⟨i0,i1⟩:=iX.hZ k;unfold iX.f;infer_instance
theorem iX.mono:∀a0 a1 k,LeO (iX.f k a0 a1) (iX.f (k+1) a0 a1):=fun _ _ _=>iX.mo.h
theorem iX.calls (k:Nat) (a0:Int) (a1:Int) (r:LI) (w:World) (h:iX.f k a0 a1=some r):
  Calls Tryz.prog 124 #[.int .i64 a0,.int .i64 a1] w fun e w'=>∃dc:Value,e= .returned (dc)∧Kd.R KI 3 w' w.heap.size (fun _=>True) dc r∧Below w.heap.size w w':=by
 have HB:=bm (Below.refl w.heap.size w);have H:=h;clear h;unfold iX.f at H;obtain⟨cf,bj⟩:∃y_:LI,y_=(([]:LI)):=⟨_,rfl⟩;replace H:(if 0≤a0 then(iX.l0 k a0 a1 cf (shl .i64 1 a0) 0)else(none))=some r:=by first|(rw[bj];exact H)|exact H
 have b5:=bm bj;clear bj;obtain⟨dS,dT,H⟩:=pO H;obtain⟨aR,bf⟩:∃j_:Int,(shl .i64 1 a0)=j_:=⟨_,rfl⟩;first|rw[bf]at H|simp only[bf]at H
 have bl:(IntKind.i64.wrap (1*2^min a0.toNat 64))=aR:=bf;have bn:a0≤64→(IntKind.i64.wrap (1*2^a0.toNat))=aR:=shl_small bf;have cj:(IntKind.i64.wrap (2^min a0.toNat 64))=aR:=by have h_:=bl;rw[Int.one_mul]at h_;exact h_
 have ck:a0≤64→(IntKind.i64.wrap (2^a0.toNat))=aR:=fun ay=>by have h_:=bn ay;rw[Int.one_mul]at h_;exact h_
 have cl:(wrap64 (1*2^min a0.toNat 64))=aR:=(i64_w _).symm.trans bl;have cm:a0≤64→(wrap64 (1*2^a0.toNat))=aR:=fun h_=>(i64_w _).symm.trans (bn h_)
 have H':=bm H;clear H;go_enter Tryz.func124,Tryz.ntmps124;go_wp2_with (first|((with_reducible refine gate_dst (N:=9) rfl ?_);refine Kd.R_lit KI _ 3 ?hg (N:=9) ?hd (xs:=([]:LI)) (inner:=[]) (ok:=fun _=>True) (okp:=fun _=>True) ?hr ?hp (fun _ hk=>hk) trivial (Below.refl _ _) (Nat.le_refl _) (by simp) ?_;(case hd=>rfl);(case hg=>rfl);(case hr=>first|(go_simp;done)|(go_simp;rfl));(case hp=>exact(Reps.none _ _));intro _ _ b6 hb dG cn;clear dG cn;(first|rw[←b5.out]at b6|(simp only[Int.reduceToNat]at b6;rw[←b5.out]at b6));have cp:=rL b6 HB;replace HB:=bW HB hb;clear hb b6));go_loopg [5,12] k (fun kq v5 v12 w'=>∃(az:LI) (aj:Int),v12= .int .i64 aj∧hJ (iX.l0 kq a0 a1 az aR aj=some r)∧hJ (kq≤k)∧hJ (Kd.R KI 3 w' w.heap.size (fun _=>True) v5 az)∧hJ (Below w.heap.size w w'))
 case atStart=>exact⟨(cf),(0),eA,H',⟨Nat.le_refl _⟩,⟨rS cp⟩,⟨wZ HB⟩⟩
 case round=>
  clear H';obtain⟨az,aj,rfl,HA,bF,oT,HB⟩:=hrel;cases gk with
  |zero=>exact absurd HA.out (by simp[iX.l0])
  |succ k1=>
   have H:=HA.out;clear HA;simp only[iX.l0]at H;rcases pP H with⟨dd,H⟩|⟨dd,H⟩
   ·obtain⟨dV,dW,H⟩:=pO H;obtain⟨bo,br⟩:∃j_:Int,(shl .i64 1 a0)=j_:=⟨_,rfl⟩;(try clear bl);(try clear cj);(try clear ck);(try clear cm);(try clear cl);(try clear bn);first|rw[br]at H|simp only[br]at H
    have b7:(IntKind.i64.wrap (1*2^min a0.toNat 64))=bo:=br;have b8:a0≤64→(IntKind.i64.wrap (1*2^a0.toNat))=bo:=shl_small br;have dH:(IntKind.i64.wrap (2^min a0.toNat 64))=bo:=by have h_:=b7;rw[Int.one_mul]at h_;exact h_
    have dI:a0≤64→(IntKind.i64.wrap (2^a0.toNat))=bo:=fun ay=>by have h_:=b8 ay;rw[Int.one_mul]at h_;exact h_
    have dJ:(wrap64 (1*2^min a0.toNat 64))=bo:=(i64_w _).symm.trans b7;have dK:a0≤64→(wrap64 (1*2^a0.toNat))=bo:=fun h_=>(i64_w _).symm.trans (b8 h_)
    have H':=bm H;clear H;go_wp2;go_loopg [7,18] k1 (fun kq v7 cq w'=>∃(ab:Int) (ag:Int),v7= .int .i64 ab∧cq= .int .i64 ag∧hJ (iX.l1 kq a0 a1 az aj ab aR aj bo ag=some r)∧hJ (kq≤k1)∧hJ (Kd.R KI 3 w' w.heap.size (fun _=>True) u5 az)∧hJ (Below w.heap.size w w'))
    case atStart=>exact⟨(a0),(0),eA,eA,H',⟨Nat.le_refl _⟩,⟨rS oT⟩,⟨wZ HB⟩⟩
    case round=>
     clear H';obtain⟨ab,ag,rfl,rfl,HA,aA,oT,HB⟩:=hrel;cases gk with
     |zero=>exact absurd HA.out (by simp[iX.l1])
     |succ k2=>
      have H:=HA.out;clear HA;simp only[iX.l1]at H;rcases pP H with⟨cr,H⟩|⟨cr,H⟩
      ·obtain⟨b9,dL,H⟩:=pO H;obtain⟨aK,aU⟩:∃j_:Int,(shr .i64 a1 ag)=j_:=⟨_,rfl⟩;first|rw[aU]at H|simp only[aU]at H
       have dk:(a1/2^min ag.toNat 64)=aK:=aU;have dm:ag≤64→(a1/2^ag.toNat)=aK:=shr_small aU;rcases iT H with⟨bH,H⟩|⟨bH,H⟩
       ·obtain⟨ct,cu⟩:=pf bH;clear bH;obtain⟨aJ,de,H⟩:=bE H;try dsimp only at H
        obtain⟨cg,aC⟩:∃j_:Int,(mn ab aJ)=j_:=⟨_,rfl⟩;first|rw[aC]at H|simp only[aC]at H
        (try rw[aC]at de);have dn:(if aJ<ab then aJ else ab)=cg:=aC;have H':=bm H;clear H;go_wp2_with (first|(refine gB (some 29) Tryz.func138 #[.int .i64 aj,.int .i64 ag] rfl ?_;(refine(sJ.calls aj ag aJ _ de.out).mono ?_);rintro e w' ⟨rfl,⟨nd,rfl⟩⟩;refine⟨_,rfl,?_⟩));go_roundg k2
        case measure=>have:=bF.out;have:=aA.out;omega
        case rel=>exact⟨(cg),(wrap64 (ag+1)),(by first|rfl|(simp;done)|(simp only[←aC]<;>(first|rfl|simp))|(simp[*];done)),eA,H',⟨by have:=bF.out;have:=aA.out;omega⟩,⟨rS oT⟩,⟨wZ HB⟩⟩
       ·obtain⟨ct,cu⟩:=pe bH;have H':=bm H;clear H;go_wp2;go_roundg k2
        case measure=>have:=bF.out;have:=aA.out;omega
        case rel=>exact⟨(ab),(wrap64 (ag+1)),eA,eA,H',⟨by have:=bF.out;have:=aA.out;omega⟩,⟨rS oT⟩,⟨wZ HB⟩⟩
      ·obtain⟨df,H⟩:=iN H;have cv:=bm df;clear df;obtain⟨ch,bp⟩:∃y_:LI,y_=(az++ [ab]):=⟨_,rfl⟩;rw[←bp]at H
       have cw:=bm bp;clear bp;have H':=bm H;clear H;go_wp2_with (first|((with_reducible refine gate_builtin (b:=.append) (xs:= #[.tmp 32,.tmp 34]) rfl ?_);at_builtin;refine Kd.R_append KI (w0:=w) w.heap.size rfl (.tmp 32) (.tmp 34) 23 3 (.int .i64 0) 8 rfl Tryz.underlying23 info3 rfl (by decide) (by omega) u5 az ab [.int .i64 ab] (fun _=>True) (fun _=>False) rfl rfl ?aP (fun _ hk=>hk.elim) ?aF ?aO ?aB ?aS ?aL ?_;(case aP=>exact rfl);(case aB=>exact(wZ HB));(case aF=>exact(fun _ _=>trivial));(case aO=>exact(rS oT));(case aS=>exact(below_size (wZ HB)));(case aL=>have:=cv.out;omega);intro _ _ ho hb hg dM;rw[←cw.out]at ho;replace HB:=bm (hb);have cx:=bm (ho);clear oT;clear ho hb hg dM));go_roundg k2
       case measure=>have:=bF.out;have:=aA.out;omega
       case rel=>exact⟨(ch),(wrap64 (aj+1)),eA,H',⟨by have:=bF.out;have:=aA.out;omega⟩,⟨rS cx⟩,⟨wZ HB⟩⟩
   ·obtain rfl:=pd H;go_wp2;go_ret;exact⟨_,by first|rfl|(simp[iJ,iK]<;>rfl)|(simp only[←bf];first|rfl|(simp[iJ,iK]<;>rfl))|(simp[*,iJ,iK]<;>rfl),by(repeat apply Kd.RS);exact oT.out,wZ HB⟩
mutual
def jm.j0:Nat→Int→Int→Int→Bool→Option (Int)
 |0,_,_,_,_=>none
 |k+1,x0,x1,x2,x18=>if x18=true then(some (-1))else(if 0≤x0 then(jm.l0 k x0 x1 x2 0 (shl .i64 1 x0) 0)else(none))
def jm.l0:Nat→Int→Int→Int→Int→Int→Int→Option (Int)
 |0,_,_,_,_,_,_=>none
 |k+1,x0,x1,x2,x7,x20,yY=>if yY<x20 then(if 0≤yY then(if(Go.bits .and .i64 (shr .i64 x1 yY) 1)=1 then((iX.f k x0 (shl .i64 1 yY)).bind fun bg=>((jw.f k x0 bg x2).bind fun bs=>(jm.l0 k x0 x1 x2 (Go.bits .or .i64 x7 bs) x20 (wrap64 (yY+1)))))else(jm.l0 k x0 x1 x2 x7 x20 (wrap64 (yY+1))))else(none))else(some x7)
end
def jm.f (k:Nat) (a0:Int) (a1:Int) (a2:Int):Option (Int):=(pr.f a0 a1).bind fun bh=>(if bh=true then((pr.f a0 a2).bind fun aM=>(jm.j0 k a0 a1 a2 (!aM)))else(jm.j0 k a0 a1 a2 true))
theorem jm.hZ:∀k,(∀y0 y1 y2 y3,lS (jm.j0 k y0 y1 y2 y3) (jm.j0 (k+1) y0 y1 y2 y3))∧(∀y0 y1 y2 y3 y4 y5,lS (jm.l0 k y0 y1 y2 y3 y4 y5) (jm.l0 (k+1) y0 y1 y2 y3 y4 y5))
 |0=>⟨fun _ _ _ _=> .z (by simp only[jm.j0]),fun _ _ _ _ _ _=> .z (by simp only[jm.l0])⟩
 |k+1=>by
  have⟨i0,i1⟩:=jm.hZ k;exact⟨fun _ _ _ _=>by unfold jm.j0;infer_instance,fun _ _ _ _ _ _=>by unfold jm.l0;infer_instance⟩
instance jm.mo {k a0 a1 a2}:lS (jm.f k a0 a1 a2) (jm.f (k+1) a0 a1 a2):=by have⟨i0,i1⟩:=jm.hZ k;unfold jm.f;infer_instance
theorem jm.calls (k:Nat) (a0:Int) (a1:Int) (a2:Int) (r:Int) (w:World) (h:jm.f k a0 a1 a2=some r):
  Calls Tryz.prog 93 #[.int .i64 a0,.int .i64 a1,.int .i64 a2] w fun e w'=>e= .returned (.int .i64 r)∧Below w.heap.size w w':=by
 have HB:=bm (Below.refl w.heap.size w);have H:=h;clear h;unfold jm.f at H;have cy:=bm H;clear H;go_enter Tryz.func93,Tryz.ntmps93;go_upto_region 1 with(fail)
 go_cut [18] (fun cq wc=>∃(kq:Nat) (aV:Bool),cq= .bool aV∧hJ (jm.j0 kq a0 a1 a2 aV=some r)∧hJ (kq≤k)∧hJ (Below w.heap.size w wc))
 case first=>
  have H:=cy.out;clear cy;obtain⟨bh,A5,H⟩:=bE H;try dsimp only at H
  by_cases c6:bh=true
  ·subst c6;rw[if_pos rfl]at H;obtain⟨aM,A7,H⟩:=bE H;try dsimp only at H
   have H':=bm H;clear H;go_wp2_with (first|(refine gB (some 11) Tryz.func123 #[.int .i64 a0,.int .i64 a1] rfl ?_;(refine(pr.calls a0 a1 true _ A5.out).mono ?_);rintro e w' ⟨rfl,⟨nd,rfl⟩⟩;refine⟨_,rfl,?_⟩)|(go_at_call 123;(with_reducible refine(pr.calls a0 a2 aM _ A7.out).mono ?_);rintro e w' ⟨rfl,⟨nd,rfl⟩⟩));go_meet
   case rel=>exact⟨_,(!aM),eA,H',⟨by first|omega|exact Nat.le_refl _⟩,⟨wZ HB⟩⟩
  ·replace c6:=pD c6;subst c6;rw[if_neg pV]at H;have H':=bm H;clear H;go_wp2_with (first|(refine gB (some 11) Tryz.func123 #[.int .i64 a0,.int .i64 a1] rfl ?_;(refine(pr.calls a0 a1 false _ A5.out).mono ?_);rintro e w' ⟨rfl,⟨nd,rfl⟩⟩;refine⟨_,rfl,?_⟩));go_meet
   case rel=>exact⟨_,(true),eA,H',⟨by first|omega|exact Nat.le_refl _⟩,⟨wZ HB⟩⟩
 case rest=>
  clear cy;obtain⟨kq,aV,rfl,HA,ca,HB⟩:=hcut;cases kq with
  |zero=>exact absurd HA.out (by simp[jm.j0])
  |succ sO=>
   have H:=HA.out;clear HA;simp only[jm.j0]at H;by_cases c8:aV=true
   ·subst c8;rw[if_pos rfl]at H;obtain rfl:=pd H;go_wp2;go_ret;exact⟨eF,wZ HB⟩
   ·replace c8:=pD c8;subst c8;rw[if_neg pV]at H;obtain⟨cc,cd,H⟩:=pO H;obtain⟨aD,aE⟩:∃j_:Int,(shl .i64 1 a0)=j_:=⟨_,rfl⟩;first|rw[aE]at H|simp only[aE]at H
    have bu:(IntKind.i64.wrap (1*2^min a0.toNat 64))=aD:=aE;have bw:a0≤64→(IntKind.i64.wrap (1*2^a0.toNat))=aD:=shl_small aE;have dp:(IntKind.i64.wrap (2^min a0.toNat 64))=aD:=by have h_:=bu;rw[Int.one_mul]at h_;exact h_
    have dq:a0≤64→(IntKind.i64.wrap (2^a0.toNat))=aD:=fun ay=>by have h_:=bw ay;rw[Int.one_mul]at h_;exact h_
    have dr:(wrap64 (1*2^min a0.toNat 64))=aD:=(i64_w _).symm.trans bu;have dt:a0≤64→(wrap64 (1*2^a0.toNat))=aD:=fun h_=>(i64_w _).symm.trans (bw h_)
    have H':=bm H;clear H;go_wp2;go_loopg [7,21] sO (fun kq v7 v21 w'=>∃(ab:Int) (J:Int),v7= .int .i64 ab∧v21= .int .i64 J∧hJ (jm.l0 kq a0 a1 a2 ab aD J=some r)∧hJ (kq≤sO)∧hJ (Below w.heap.size w w'))
    case atStart=>exact⟨(0),(0),eA,eA,H',⟨Nat.le_refl _⟩,⟨wZ HB⟩⟩
    case round=>
     clear H';obtain⟨ab,J,rfl,rfl,HA,aA,HB⟩:=hrel;cases gk with
     |zero=>exact absurd HA.out (by simp[jm.l0])
     |succ k2=>
      have H:=HA.out;clear HA;simp only[jm.l0]at H;rcases pP H with⟨b9,H⟩|⟨b9,H⟩
      ·obtain⟨dN,dO,H⟩:=pO H;obtain⟨aN,aW⟩:∃j_:Int,(shr .i64 a1 J)=j_:=⟨_,rfl⟩;first|rw[aW]at H|simp only[aW]at H
       have du:(a1/2^min J.toNat 64)=aN:=aW;have dv:J≤64→(a1/2^J.toNat)=aN:=shr_small aW;rcases iT H with⟨bJ,H⟩|⟨bJ,H⟩
       ·obtain⟨cA,cB⟩:=pf bJ;clear bJ;have dP:=pM (ko:0≤J);obtain⟨aq,aG⟩:∃j_:Int,(shl .i64 1 J)=j_:=⟨_,rfl⟩;first|rw[aG]at H|simp only[aG]at H
        have bx:(IntKind.i64.wrap (1*2^min J.toNat 64))=aq:=aG;have bA:J≤64→(IntKind.i64.wrap (1*2^J.toNat))=aq:=shl_small aG;have dw:(IntKind.i64.wrap (2^min J.toNat 64))=aq:=by have h_:=bx;rw[Int.one_mul]at h_;exact h_
        have dx:J≤64→(IntKind.i64.wrap (2^J.toNat))=aq:=fun ay=>by have h_:=bA ay;rw[Int.one_mul]at h_;exact h_
        have dy:(wrap64 (1*2^min J.toNat 64))=aq:=(i64_w _).symm.trans bx;have dz:J≤64→(wrap64 (1*2^J.toNat))=aq:=fun h_=>(i64_w _).symm.trans (bA h_)
        obtain⟨bg,dQ,H⟩:=bE H;try dsimp only at H
        obtain⟨bs,dR,H⟩:=bE H;try dsimp only at H
        have H':=bm H;clear H;go_wp2_with (first|((with_reducible refine gate_callee (f:=124) rfl ?_);refine Ai (some 34) rfl rfl Tryz.func124 (by kernel_rfl) rfl #[.int .i64 a0,.int .i64 aq] rfl (by(try simp only[List.map_toArray,List.map_cons,List.map_nil]);first|done|(simp only[aG];rfl)|rfl|(simp only[List.length_drop,List.length_take];rfl)) ?_;(refine(iX.calls k2 a0 aq bg _ dQ.out).mono ?_);rintro e _ ⟨_,rfl,dg,hb⟩;refine⟨_,rfl,?_⟩;have aH:=rL dg HB;replace HB:=bW HB hb;clear hb;(try clear dg);obtain⟨dh,di,dj⟩:=Kd.R_slice aH.out;subst dj)|(refine gB (some 36) Tryz.func107 #[.int .i64 a0,.slice dh bg.length di,.int .i64 a2] rfl ?_;(refine(jw.calls k2 a0 _ _ bg a2 bs _ ?_ ?_ dR.out).mono ?_);exact cZ (Kd.R_reads' aH.out).2.2;exact(Kd.R_reads' aH.out).2.1;rintro e _ ⟨rfl,hb⟩;refine⟨_,rfl,?_⟩;replace aH:=bR aH hb;replace HB:=bW HB hb;clear hb));go_roundg k2
        case measure=>have:=ca.out;have:=aA.out;omega
        case rel=>exact⟨(Go.bits .or .i64 ab bs),(wrap64 (J+1)),eA,eA,H',⟨by have:=ca.out;have:=aA.out;omega⟩,⟨wZ HB⟩⟩
       ·obtain⟨cA,cB⟩:=pe bJ;have H':=bm H;clear H;go_wp2;go_roundg k2
        case measure=>have:=ca.out;have:=aA.out;omega
        case rel=>exact⟨(ab),(wrap64 (J+1)),eA,eA,H',⟨by have:=ca.out;have:=aA.out;omega⟩,⟨wZ HB⟩⟩
      ·obtain rfl:=pd H;go_wp2;go_ret;exact⟨by first|rfl|(simp[iJ,iK]<;>rfl)|(simp only[←aE];first|rfl|(simp[iJ,iK]<;>rfl))|(simp[*,iJ,iK]<;>rfl),wZ HB⟩
end Go.Proofs.YtigeaokfhnlkcaaGreatDoor.P
