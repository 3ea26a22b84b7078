import Derived.Test.YtigeaokfhnlkcaaGreatDoorPx0
import Derived.Test.YtigeaokfhnlkcaaGreatDoorPx2
namespace Go.Proofs.YtigeaokfhnlkcaaGreatDoor.P
open Go.RowKit YtigeaokfhnlkcaaGreatDoorW PrintWords PrintLast PrintMore
attribute [local go_sem] max2_int min2_int max_two min_two max_three min_three max_four min_four
set_option linter.unusedVariables false
set_option linter.unusedSimpArgs false
set_option maxHeartbeats 8000000
set_option maxRecDepth 100000
abbrev AP:Array Bool:= #[false,false,false,false,false,false,false,false,false]
def kr.l0:Nat→Int→Int→List Int→List (List Int)→Option (Bool)
 |0,_,_,_,_=>none
 |k+1,x3,vK,xD,uq=>if x3<(uq.length:Int)then(if 0≤x3 then((nU.f k vK (oP uq x3)).bind fun t131=>(if t131=true then(kr.l0 k (wrap64 (x3+1)) vK xD uq)else(some false)))else(none))else((nU.f k vK xD).bind fun t132=>(if t132=true then(some (decide ((uq.length:Int)≤10)))else(some false)))
def kr.f (k:Nat) (ag:Int) (ah:List Int) (ae:List (List Int)):Option (Bool):=kr.l0 k 0 ag ah ae
theorem kr.kU:∀k,(∀y0 y1 y2 y3,ph (kr.l0 k y0 y1 y2 y3) (kr.l0 (k+1) y0 y1 y2 y3))
 |0=>fun _ _ _ _=> .z (by simp only[kr.l0])
 |k+1=>by
  have i0:=kr.kU k;exact fun _ _ _ _=>by unfold kr.l0;infer_instance
instance kr.mo {k a0 a1 a2}:ph (kr.f k a0 a1 a2) (kr.f (k+1) a0 a1 a2):=by have i0:=kr.kU k;unfold kr.f;infer_instance
def kr.T4:Bool×List (List Nat×List Nat):=(true,[([],[]),([0],[0]),([],[]),([2],[2]),([],[]),([3,4],[3,4]),([5],[5]),([1,6],[1,6]),([7],[7])])
def kr.B4:List Nat:=[0,1,0,4,0,28,60,127,255]
theorem kr.Ak:rtab .any (opsOf Tryz.f10 4)=kr.T4:=by kernel_rfl
theorem kr.xE:waitsOk kr.T4.2 kr.B4=true:=by kernel_rfl
theorem kr.calls (k:Nat) (ag:Int) (aG:Option Addr) (aH:Nat) (ah:List Int) (bT:Option Addr) (bd:Nat) (ae:List (List Int)) (r:Bool) (w:World) (b5:Kd.C (Kd.int .i64) w aG ah.length ah) (b6:ah.length≤aH) (b7:Kd.C (Kd.slice 3 (Kd.int .i64)) w bT ae.length ae) (b8:ae.length≤bd) (h:kr.f k ag ah ae=some r):
  Calls Tryz.prog 10 #[.agg #[.int .i64 ag,.slice aG ah.length aH,.slice bT ae.length bd]] w fun e w'=>e= .returned (.bool r)∧Below w.heap.size w w':=by
 have e7:=Tryz.underlying26;have b9:=bm b5;have ca:=bm b6;clear b5 b6;have cb:=bm b7;have eB:=bm b8;clear b7 b8;have HB:=bm (Below.refl w.heap.size w);have H:=h;clear h;unfold kr.f at H;have H':=bm H;clear H;go_enter Tryz.func10,Tryz.ntmps10;go_wp2_with (first|((with_reducible refine gate_dst (N:=1) rfl ?_);(try(refine gate_guard (by rfl) ?_;dsimp only));refine pN 1 #[.int .i64 ag,.slice aG ah.length aH,.slice bT ae.length bd] 26 ?_;intro aw hg w2 cR hb;have o:=bm (cR);have eC:=bG HB hg;replace HB:=bW HB hb;clear hb cR hg));go_loopg [3] k (fun kq v3 w'=>∃(J:Int),v3= .int .i64 J∧kn (kr.l0 kq J ag ah ae=some r)∧kn (kq≤k)∧kn (w'.heap[aw]?=some (.cells #[.int .i64 ag,(.slice aG ah.length aH),(.slice bT ae.length bd)] 26 (0,0)))∧kn (Below w.heap.size w w'))
 case atStart=>exact⟨(0),(by first|rfl|(simp;done)|(simp[*];done)),H',⟨Nat.le_refl _⟩,⟨kS o⟩,⟨wZ HB⟩⟩
 case round=>
  clear H';obtain⟨J,rfl,HA,al,o,HB⟩:=hrel;cases gk with
  |zero=>exact absurd HA.out (by simp[kr.l0])
  |succ k1=>
   have H:=HA.out;clear HA;simp only[kr.l0]at H;rcases nA H with⟨aK,H⟩|⟨aK,H⟩
   ·obtain⟨aI,H⟩:=mY H;obtain⟨t131,A5,H⟩:=bE H;try dsimp only at H
    by_cases c6:t131=true
    ·subst c6;rw[if_pos rfl]at H;have H':=bm H;clear H;obtain⟨eu,ev,ew,ey,ez,eA⟩:=b3 o;try go_wp2
     replace o:=mQ o;replace HB:=mW HB;have aM:0≤(J:Int):=nY;have aN:J<(ae.length:Int):=nY;obtain⟨aQ,ax,ay,cc,ab,an,ao⟩:=tt cb.out J aM aN;have af:=ab;cases cc;replace ab:=mO HB ab;have aq:=bm ao;have aT:=bm an;clear ao an;replace aM:=mX aM;replace aN:=mX aN;refine start_ (n:=9) (S:=fun w'=>w'.cell? ⟨aw,0,none⟩=some (.int .i64 ag)∧w'.cell? ⟨aw,1,none⟩=some (.slice aG ah.length aH)∧w'.cell? ⟨aw,2,none⟩=some (.slice (some aQ) ae.length bd)∧w'.cell? (aQ.add (J).toNat)=some (.slice ax (oP ae J).length ay)) (ds:=[]) AP (by kernel_rfl) rfl rfl ⟨(nD o.out 0).trans rfl,(nD o.out 1).trans rfl,(nD o.out 2).trans rfl,((HB.out.cell (World.block_lt_of_cell? w _ af)).trans af)⟩ (fun hHeld=>?_);refine with_tabW kr.Ak kr.xE (fun aj bw=>?_);generalize wr.drew=w8 at o HB aq ab hHeld⊢;refine pA 0 11 aj ?_ ?_ ?_ ?_ (pA 2 13 aj ?_ ?_ ?_ ?_ (pA 4 15 aj ?_ ?_ ?_ ?_ (tA 1 12 aj bw hHeld ?_ ?_ ?_ ?_ (tA 3 14 aj bw hHeld ?_ ?_ ?_ ?_ (pA 5 16 aj ?_ ?_ ?_ ?_ (tA 6 17 aj bw hHeld ?_ ?_ ?_ ?_ ?_))))))
     all_goals first|(rintro w' ⟨s0,s1,s2,s3⟩;go_simp;with_reducible rfl)|(intro w';go_simp;with_reducible rfl)|(simp only[Act.put,qA,qB,qC,i64_w,i32_w];rfl)|skip
     refine oA 7 (some 18) aj (fun K hK=>?_);refine goes_ Tryz.func34 (by kernel_rfl) rfl #[.int .i64 ag,.slice ax (oP ae J).length ay] (by rfl) rfl rfl (by(try simp only[List.map_toArray,List.map_cons,List.map_nil]);first|done|rfl|(simp only[List.length_drop,List.length_take];rfl)) ?_;with_reducible refine(nU.calls k1 ag _ _ (oP ae J) true _ ?ka ?km A5.out).mono ?_
     (case ka=>exact cY aq HB);(case km=>exact aT.out);rintro e w9 ⟨rfl,hb⟩;refine⟨_,rfl,?_⟩;replace o:=bU o hb;replace HB:=bW HB hb;(try clear hb);(try clear hb2);(try clear hk);(try clear hi);refine hK.out _ _ ⟨(nD o.out 0).trans rfl,(nD o.out 1).trans rfl,(nD o.out 2).trans rfl,((HB.out.cell (World.block_lt_of_cell? w _ af)).trans af)⟩ (fun hHeld=>?_);clear hK K;refine nm 18 ?_
     refine pA 8 19 aj ?_ ?_ ?_ ?_ ?_
     all_goals first|(intro w';go_simp;with_reducible rfl)|(simp only[Act.put,qA,qB,qC,i64_w,i32_w];rfl)|skip
     refine done_ (done_of aj.out (by kernel_rfl)) ?_;try go_wp2
     go_roundg k1
     case measure=>have:=al.out;omega
     case rel=>exact⟨(wrap64 (J+1)),(by first|rfl|(simp;done)|(simp[*];done)),H',⟨by have:=al.out;omega⟩,⟨kS o⟩,⟨wZ HB⟩⟩
    ·replace c6:=mN c6;subst c6;rw[if_neg nz]at H;obtain rfl:=oJ H;obtain⟨dA,dB,dC,dD,dE,dF⟩:=b3 o;try go_wp2
     replace o:=mQ o;replace HB:=mW HB;have aM:0≤(J:Int):=nY;have aN:J<(ae.length:Int):=nY;obtain⟨aQ,ax,ay,cc,ab,an,ao⟩:=tt cb.out J aM aN;have af:=ab;cases cc;replace ab:=mO HB ab;have aq:=bm ao;have aT:=bm an;clear ao an;replace aM:=mX aM;replace aN:=mX aN;refine start_ (n:=9) (S:=fun w'=>w'.cell? ⟨aw,0,none⟩=some (.int .i64 ag)∧w'.cell? ⟨aw,1,none⟩=some (.slice aG ah.length aH)∧w'.cell? ⟨aw,2,none⟩=some (.slice (some aQ) ae.length bd)∧w'.cell? (aQ.add (J).toNat)=some (.slice ax (oP ae J).length ay)) (ds:=[]) AP (by kernel_rfl) rfl rfl ⟨(nD o.out 0).trans rfl,(nD o.out 1).trans rfl,(nD o.out 2).trans rfl,((HB.out.cell (World.block_lt_of_cell? w _ af)).trans af)⟩ (fun hHeld=>?_);refine with_tabW kr.Ak kr.xE (fun aj bw=>?_);generalize wr.drew=eD at o HB aq ab hHeld⊢;refine pA 0 11 aj ?_ ?_ ?_ ?_ (pA 2 13 aj ?_ ?_ ?_ ?_ (pA 4 15 aj ?_ ?_ ?_ ?_ (tA 1 12 aj bw hHeld ?_ ?_ ?_ ?_ (tA 3 14 aj bw hHeld ?_ ?_ ?_ ?_ (pA 5 16 aj ?_ ?_ ?_ ?_ (tA 6 17 aj bw hHeld ?_ ?_ ?_ ?_ ?_))))))
     all_goals first|(rintro w' ⟨s0,s1,s2,s3⟩;go_simp;with_reducible rfl)|(intro w';go_simp;with_reducible rfl)|(simp only[Act.put,qA,qB,qC,i64_w,i32_w];rfl)|skip
     refine oA 7 (some 18) aj (fun K hK=>?_);refine goes_ Tryz.func34 (by kernel_rfl) rfl #[.int .i64 ag,.slice ax (oP ae J).length ay] (by rfl) rfl rfl (by(try simp only[List.map_toArray,List.map_cons,List.map_nil]);first|done|rfl|(simp only[List.length_drop,List.length_take];rfl)) ?_;with_reducible refine(nU.calls k1 ag _ _ (oP ae J) false _ ?ka ?km A5.out).mono ?_
     (case ka=>exact cY aq HB);(case km=>exact aT.out);rintro e eE ⟨rfl,hb⟩;refine⟨_,rfl,?_⟩;replace o:=bU o hb;replace HB:=bW HB hb;(try clear hb);(try clear hb2);(try clear hk);(try clear hi);refine hK.out _ _ ⟨(nD o.out 0).trans rfl,(nD o.out 1).trans rfl,(nD o.out 2).trans rfl,((HB.out.cell (World.block_lt_of_cell? w _ af)).trans af)⟩ (fun hHeld=>?_);clear hK K;refine nm 18 ?_
     refine pA 8 19 aj ?_ ?_ ?_ ?_ ?_
     all_goals first|(intro w';go_simp;with_reducible rfl)|(simp only[Act.put,qA,qB,qC,i64_w,i32_w];rfl)|skip
     refine done_ (done_of aj.out (by kernel_rfl)) ?_;try go_wp2
     go_ret;exact rz HB
   ·obtain⟨t132,dG,H⟩:=bE H;try dsimp only at H
    by_cases bx:t132=true
    ·subst bx;rw[if_pos rfl]at H;obtain rfl:=oJ H;obtain⟨dH,dI,dJ,dK,dL,dM⟩:=b3 o;go_wp2_with (first|(refine gB (some 24) Tryz.func34 #[.int .i64 ag,.slice aG ah.length aH] rfl ?_;(with_reducible refine(nU.calls k1 ag _ _ ah true _ ?_ ?_ dG.out).mono ?_);exact cY b9 HB;exact ca.out;rintro e fc ⟨rfl,hb⟩;refine⟨_,rfl,?_⟩;replace o:=bU o hb;replace HB:=bW HB hb;clear hb;obtain⟨dN,dO,dP,dQ,dR,dS⟩:=b3 o));go_ret;exact rz HB
    ·replace bx:=mN bx;subst bx;rw[if_neg nz]at H;obtain rfl:=oJ H;obtain⟨dT,dU,dV,dW,dX,dY⟩:=b3 o;go_wp2_with (first|(refine gB (some 24) Tryz.func34 #[.int .i64 ag,.slice aG ah.length aH] rfl ?_;(with_reducible refine(nU.calls k1 ag _ _ ah false _ ?_ ?_ dG.out).mono ?_);exact cY b9 HB;exact ca.out;rintro e eF ⟨rfl,hb⟩;refine⟨_,rfl,?_⟩;replace o:=bU o hb;replace HB:=bW HB hb;clear hb));go_ret;exact rz HB
def oD.f (a0:Int):Option (Bool):=if a0≥1 then(some (decide (a0≤3)))else(some false)
theorem oD.calls (a0:Int) (r:Bool) (w:World) (h:oD.f a0=some r):
  Calls Tryz.prog 70 #[.int .i64 a0] w fun e w'=>e= .returned (.bool r)∧Drawn0 w w':=by
 have H:=h;clear h;unfold oD.f at H;rcases nA H with⟨bo,H⟩|⟨bo,H⟩
 ·obtain rfl:=oJ H;go_enter Tryz.func70,Tryz.ntmps70;go_wp2;go_ret;exact rq
 ·obtain rfl:=oJ H;go_enter Tryz.func70,Tryz.ntmps70;go_wp2;go_ret;exact rq
def pC.f (a0:Int):Option (Int):=(oD.f a0).bind fun t133=>(if t133=true then(if 0≤a0 then(some (shl .i64 1 a0))else(none))else(some (-1)))
theorem pC.calls (a0:Int) (r:Int) (w:World) (h:pC.f a0=some r):
  Calls Tryz.prog 35 #[.int .i64 a0] w fun e w'=>e= .returned (.int .i64 r)∧Drawn0 w w':=by
 have H:=h;clear h;unfold pC.f at H;obtain⟨t133,A2,H⟩:=bE H;try dsimp only at H
 by_cases c3:t133=true
 ·subst c3;rw[if_pos rfl]at H;obtain⟨aI,e8,H⟩:=mZ H;obtain⟨bZ,bf⟩:∃j_:Int,(shl .i64 1 a0)=j_:=⟨_,rfl⟩;first|rw[bf]at H|simp only[bf]at H
  (try rw[bf]at A2);have cd:(IntKind.i64.wrap (1*2^min a0.toNat 64))=bZ:=bf;have cf:a0≤64→(IntKind.i64.wrap (1*2^a0.toNat))=bZ:=shl_small bf;have eG:(IntKind.i64.wrap (2^min a0.toNat 64))=bZ:=by have h_:=cd;rw[Int.one_mul]at h_;exact h_
  have eH:a0≤64→(IntKind.i64.wrap (2^a0.toNat))=bZ:=fun cg=>by have h_:=cf cg;rw[Int.one_mul]at h_;exact h_
  have eI:(wrap64 (1*2^min a0.toNat 64))=bZ:=(i64_w _).symm.trans cd;have eJ:a0≤64→(wrap64 (1*2^a0.toNat))=bZ:=fun h_=>(i64_w _).symm.trans (cf h_)
  obtain rfl:=oJ H;go_enter Tryz.func35,Tryz.ntmps35;go_wp2_with (first|(refine gB (some 4) Tryz.func70 #[.int .i64 a0] rfl ?_;(with_reducible refine(oD.calls a0 true _ A2.out).mono ?_);rintro e w' ⟨rfl,⟨nd,rfl⟩⟩;refine⟨_,rfl,?_⟩));go_ret;exact⟨by first|rfl|(simp;done)|(simp only[←bf]<;>(first|rfl|simp))|(simp[*];done),by repeat(first|exact Drawn0.refl _|apply Drawn0.step)⟩
 ·replace c3:=mN c3;subst c3;rw[if_neg nz]at H;obtain rfl:=oJ H;go_enter Tryz.func35,Tryz.ntmps35;go_wp2_with (first|(refine gB (some 4) Tryz.func70 #[.int .i64 a0] rfl ?_;(with_reducible refine(oD.calls a0 false _ A2.out).mono ?_);rintro e w' ⟨rfl,⟨nd,rfl⟩⟩;refine⟨_,rfl,?_⟩));go_ret;exact rq
def pe.f:Option (Bool):=(pC.f 1).bind fun t134=>(if t134=2 then((pC.f 9).bind fun t135=>(some (t135==(-1))))else(some false))
theorem pe.calls  (r:Bool) (w:World) (h:pe.f=some r):
  Calls Tryz.prog 12 #[] w fun e w'=>e= .returned (.bool r)∧Drawn0 w w':=by
 have H:((pC.f 1).bind fun t134=>(if t134=2 then((pC.f 9).bind fun t135=>(some (t135==(-1))))else(some false)))=some r:=h;clear h;obtain⟨t134,A1,H⟩:=bE H;try dsimp only at H
 rcases iT H with⟨c2,H⟩|⟨c2,H⟩
 ·obtain⟨bo,ch⟩:=nL c2;clear c2;obtain⟨t135,A3,H⟩:=bE H;try dsimp only at H
  obtain rfl:=oJ H;go_enter Tryz.func12,Tryz.ntmps12;go_wp2_with (first|(refine gB (some 1) Tryz.func35 #[.int .i64 1] rfl ?_;(with_reducible refine(pC.calls 1 t134 _ A1.out).mono ?_);rintro e w' ⟨rfl,⟨nd,rfl⟩⟩;refine⟨_,rfl,?_⟩)|(go_at_call 35;(with_reducible refine(pC.calls 9 t135 _ A3.out).mono ?_);rintro e w' ⟨rfl,⟨nd,rfl⟩⟩));go_ret;exact rq
 ·obtain⟨bo,ch⟩:=nK c2;obtain rfl:=oJ H;go_enter Tryz.func12,Tryz.ntmps12;go_wp2_with (first|(refine gB (some 1) Tryz.func35 #[.int .i64 1] rfl ?_;(with_reducible refine(pC.calls 1 t134 _ A1.out).mono ?_);rintro e w' ⟨rfl,⟨nd,rfl⟩⟩;refine⟨_,rfl,?_⟩));go_ret;exact rq
def ky.l0:Nat→List Int→List Int→Int→Int→Option (Bool)
 |0,_,_,_,_=>none
 |k+1,x0,x1,x12,wy=>if wy<x12 then(if 0≤wy then(if wy<(x0.length:Int)then(if wy<(x1.length:Int)then(if(rd x0 wy)=(rd x1 wy)then(ky.l0 k x0 x1 x12 (wrap64 (wy+1)))else(some false))else(none))else(none))else(none))else(some true)
def ky.f (k:Nat) (l0:List Int) (l1:List Int):Option (Bool):=if(l0.length:Int)=(l1.length:Int)then(ky.l0 k l0 l1 (l0.length:Int) 0)else(some false)
theorem ky.kU:∀k,(∀y0 y1 y2 y3,ph (ky.l0 k y0 y1 y2 y3) (ky.l0 (k+1) y0 y1 y2 y3))
 |0=>fun _ _ _ _=> .z (by simp only[ky.l0])
 |k+1=>by
  have i0:=ky.kU k;exact fun _ _ _ _=>by unfold ky.l0;infer_instance
instance ky.mo {k a0 a1}:ph (ky.f k a0 a1) (ky.f (k+1) a0 a1):=by have i0:=ky.kU k;unfold ky.f;infer_instance
theorem ky.calls (k:Nat) (A0:Option Addr) (c0:Nat) (l0:List Int) (A1:Option Addr) (c1:Nat) (l1:List Int) (r:Bool) (w:World) (az:Kd.C (Kd.int .i64) w A0 l0.length l0) (au:l0.length≤c0) (bp:Kd.C (Kd.int .i64) w A1 l1.length l1) (bq:l1.length≤c1) (h:ky.f k l0 l1=some r):
  Calls Tryz.prog 75 #[.slice A0 l0.length c0,.slice A1 l1.length c1] w fun e w'=>e= .returned (.bool r)∧Drawn0 w w':=by
 have aA:=bm az;have cQ:=bm au;clear az au;have aU:=bm bp;have bj:=bm bq;clear bp bq;have H:=h;clear h;unfold ky.f at H;rcases iT H with⟨c3,H⟩|⟨c3,H⟩
 ·obtain⟨aK,cj⟩:=nL c3;have dZ:(l0.length==l1.length)=true:=by first|simpa using c3|(simp at c3⊢;omega)
  clear c3;have H':=bm H;clear H;go_enter Tryz.func75,Tryz.ntmps75;go_wp2;repeat(go_quiet (fail);try go_wp2)
  go_loopg [13] k (fun kq eK w'=>∃(I:Int),eK= .int .i64 I∧kn (ky.l0 kq l0 l1 (l0.length:Int) I=some r)∧kn (kq≤k)∧Drawn0 w w')
  case atStart=>exact⟨(0),(by first|rfl|(simp;done)|(simp[*];done)),H',⟨Nat.le_refl _⟩,by repeat(first|exact Drawn0.refl _|apply Drawn0.step)⟩
  case round=>
   clear H';obtain⟨I,rfl,HA,al,⟨m1,rfl⟩⟩:=hrel;cases gk with
   |zero=>exact absurd HA.out (by simp[ky.l0])
   |succ k1=>
    have H:=HA.out;clear HA;simp only[ky.l0]at H;rcases nA H with⟨aI,H⟩|⟨aI,H⟩
    ·obtain⟨ck,H⟩:=mY H;obtain⟨cl,H⟩:=mY H;obtain⟨e9,H⟩:=mY H;rcases iT H with⟨c8,H⟩|⟨c8,H⟩
     ·obtain⟨ea,eb⟩:=nL c8;clear c8;have H':=bm H;clear H;have aV:0≤(I:Int):=nY;have aW:I<(l0.length:Int):=nY;obtain⟨cX,cm,cn⟩:=Kd.at_int aA.out I aV aW;cases cm;replace aV:=mX aV;replace aW:=mX aW;have aY:0≤(I:Int):=nY;have aZ:I<(l1.length:Int):=nY;obtain⟨da,cp,cq⟩:=Kd.at_int aU.out I aY aZ;cases cp;replace aY:=mX aY;replace aZ:=mX aZ;go_wp2;repeat(go_quiet (fail);try go_wp2)
      go_roundg k1
      case measure=>have:=al.out;omega
      case rel=>exact⟨(wrap64 (I+1)),(by first|rfl|(simp;done)|(simp[*];done)),H',⟨by have:=al.out;omega⟩,by repeat(first|exact Drawn0.refl _|apply Drawn0.step)⟩
     ·obtain⟨ea,eb⟩:=nK c8;obtain rfl:=oJ H;have aV:0≤(I:Int):=nY;have aW:I<(l0.length:Int):=nY;obtain⟨cX,cm,cn⟩:=Kd.at_int aA.out I aV aW;cases cm;replace aV:=mX aV;replace aW:=mX aW;have aY:0≤(I:Int):=nY;have aZ:I<(l1.length:Int):=nY;obtain⟨da,cp,cq⟩:=Kd.at_int aU.out I aY aZ;cases cp;replace aY:=mX aY;replace aZ:=mX aZ;go_wp2;repeat(go_quiet (fail);try go_wp2)
      go_ret;exact rq
    ·obtain rfl:=oJ H;go_wp2;repeat(go_quiet (fail);try go_wp2)
     go_ret;exact rq
 ·obtain⟨aK,cj⟩:=nK c3;have dZ:(l0.length==l1.length)=false:=by first|simpa using c3|(simp at c3⊢;omega)
  obtain rfl:=oJ H;go_enter Tryz.func75,Tryz.ntmps75;go_wp2;repeat(go_quiet (fail);try go_wp2)
  go_ret;exact rq
def ni.l0:Nat→List Int→Int→Int→Option (Int)
 |0,_,_,_=>none
 |k+1,x0,x3,x4=>if x4<(x0.length:Int)then(if 0≤x4 then(ni.l0 k x0 (mn x3 (rd x0 x4)) (wrap64 (x4+1)))else(none))else(some x3)
def ni.f (k:Nat) (l0:List Int):Option (Int):=if(l0.length:Int)<1 then(none)else(if 0<(l0.length:Int)then(ni.l0 k l0 (rd l0 0) 1)else(none))
theorem ni.kU:∀k,(∀y0 y1 y2,ph (ni.l0 k y0 y1 y2) (ni.l0 (k+1) y0 y1 y2))
 |0=>fun _ _ _=> .z (by simp only[ni.l0])
 |k+1=>by
  have i0:=ni.kU k;exact fun _ _ _=>by unfold ni.l0;infer_instance
instance ni.mo {k a0}:ph (ni.f k a0) (ni.f (k+1) a0):=by have i0:=ni.kU k;unfold ni.f;infer_instance
theorem ni.calls (k:Nat) (A0:Option Addr) (c0:Nat) (l0:List Int) (r:Int) (w:World) (az:Kd.C (Kd.int .i64) w A0 l0.length l0) (au:l0.length≤c0) (h:ni.f k l0=some r):
  Calls Tryz.prog 109 #[.slice A0 l0.length c0] w fun e w'=>e= .returned (.int .i64 r)∧Below w.heap.size w w':=by
 have aA:=bm az;have cQ:=bm au;clear az au;have HB:=bm (Below.refl w.heap.size w);have H:=h;clear h;unfold ni.f at H;rcases iT H with⟨c2,H⟩|⟨c2,H⟩
 ·exact absurd H (by simp)
 ·have bo:=mP c2;have ch:decide (l0.length<1)=false:=mP (by omega);clear c2;obtain⟨c3,H⟩:=iN H;have aK:=mV c3;have cj:decide (0<l0.length)=true:=mV (by omega);clear c3;have H':=bm H;clear H;have cr:0≤(0:Int):=(by omega);have ct:0<(l0.length:Int):=nY;obtain⟨db,ec,br⟩:=Kd.at_int aA.out 0 cr ct;cases ec;have eL:(0<l0.length)=True:=mX (by omega);(try rw[show((0:Int)).toNat=0 from rfl]at br);(try rw[Addr.add_zero']at br);replace cr:=mX cr;replace ct:=mX ct;go_enter Tryz.func109,Tryz.ntmps109;go_wp2;go_loopg [3,4] k (fun kq v3 v4 w'=>∃(J:Int) (aa:Int),v3= .int .i64 J∧v4= .int .i64 aa∧kn (ni.l0 kq l0 J aa=some r)∧kn (kq≤k)∧kn (Below w.heap.size w w'))
  case atStart=>exact⟨(rd l0 0),(1),(by first|rfl|(simp;done)|(simp[*];done)),(by first|rfl|(simp;done)|(simp[*];done)),H',⟨Nat.le_refl _⟩,⟨wZ HB⟩⟩
  case round=>
   clear H';obtain⟨J,aa,rfl,rfl,HA,al,HB⟩:=hrel;cases gk with
   |zero=>exact absurd HA.out (by simp[ni.l0])
   |succ k1=>
    have H:=HA.out;clear HA;simp only[ni.l0]at H;rcases nA H with⟨aI,H⟩|⟨aI,H⟩
    ·obtain⟨ck,H⟩:=mY H;obtain⟨cu,aC⟩:∃j_:Int,(mn J (rd l0 aa))=j_:=⟨_,rfl⟩;first|rw[aC]at H|simp only[aC]at H
     have dc:(if(rd l0 aa)<J then(rd l0 aa)else J)=cu:=aC;have H':=bm H;clear H;have cv:0≤(aa:Int):=nY;have cw:aa<(l0.length:Int):=nY;obtain⟨dd,ed,a6⟩:=Kd.at_int aA.out aa cv cw;obtain rfl:db=dd:=(by injection ed);replace a6:=mO HB a6;replace cv:=mX cv;replace cw:=mX cw;go_wp2;go_roundg k1
     case measure=>have:=al.out;omega
     case rel=>exact⟨(cu),(wrap64 (aa+1)),(by first|rfl|(simp;done)|(simp only[←aC]<;>(first|rfl|simp))|(simp[*];done)),(by first|rfl|(simp;done)|(simp[*];done)),H',⟨by have:=al.out;omega⟩,⟨wZ HB⟩⟩
    ·obtain rfl:=oJ H;go_wp2;go_ret;exact rz HB
def nk.l0:Nat→List Int→Int→Int→Option (Int)
 |0,_,_,_=>none
 |k+1,x0,x3,x4=>if x4<(x0.length:Int)then(if 0≤x4 then(nk.l0 k x0 (mx x3 (rd x0 x4)) (wrap64 (x4+1)))else(none))else(some x3)
def nk.f (k:Nat) (l0:List Int):Option (Int):=if(l0.length:Int)<1 then(none)else(if 0<(l0.length:Int)then(nk.l0 k l0 (rd l0 0) 1)else(none))
theorem nk.kU:∀k,(∀y0 y1 y2,ph (nk.l0 k y0 y1 y2) (nk.l0 (k+1) y0 y1 y2))
 |0=>fun _ _ _=> .z (by simp only[nk.l0])
 |k+1=>by
  have i0:=nk.kU k;exact fun _ _ _=>by unfold nk.l0;infer_instance
instance nk.mo {k a0}:ph (nk.f k a0) (nk.f (k+1) a0):=by have i0:=nk.kU k;unfold nk.f;infer_instance
theorem nk.calls (k:Nat) (A0:Option Addr) (c0:Nat) (l0:List Int) (r:Int) (w:World) (az:Kd.C (Kd.int .i64) w A0 l0.length l0) (au:l0.length≤c0) (h:nk.f k l0=some r):
  Calls Tryz.prog 110 #[.slice A0 l0.length c0] w fun e w'=>e= .returned (.int .i64 r)∧Below w.heap.size w w':=by
 have aA:=bm az;have cQ:=bm au;clear az au;have HB:=bm (Below.refl w.heap.size w);have H:=h;clear h;unfold nk.f at H;rcases iT H with⟨c2,H⟩|⟨c2,H⟩
 ·exact absurd H (by simp)
 ·have bo:=mP c2;have ch:decide (l0.length<1)=false:=mP (by omega);clear c2;obtain⟨c3,H⟩:=iN H;have aK:=mV c3;have cj:decide (0<l0.length)=true:=mV (by omega);clear c3;have H':=bm H;clear H;have cx:0≤(0:Int):=(by omega);have cy:0<(l0.length:Int):=nY;obtain⟨de,ee,bs⟩:=Kd.at_int aA.out 0 cx cy;cases ee;have eM:(0<l0.length)=True:=mX (by omega);(try rw[show((0:Int)).toNat=0 from rfl]at bs);(try rw[Addr.add_zero']at bs);replace cx:=mX cx;replace cy:=mX cy;go_enter Tryz.func110,Tryz.ntmps110;go_wp2;go_loopg [3,4] k (fun kq v3 v4 w'=>∃(J:Int) (aa:Int),v3= .int .i64 J∧v4= .int .i64 aa∧kn (nk.l0 kq l0 J aa=some r)∧kn (kq≤k)∧kn (Below w.heap.size w w'))
  case atStart=>exact⟨(rd l0 0),(1),(by first|rfl|(simp;done)|(simp[*];done)),(by first|rfl|(simp;done)|(simp[*];done)),H',⟨Nat.le_refl _⟩,⟨wZ HB⟩⟩
  case round=>
   clear H';obtain⟨J,aa,rfl,rfl,HA,al,HB⟩:=hrel;cases gk with
   |zero=>exact absurd HA.out (by simp[nk.l0])
   |succ k1=>
    have H:=HA.out;clear HA;simp only[nk.l0]at H;rcases nA H with⟨aI,H⟩|⟨aI,H⟩
    ·obtain⟨ck,H⟩:=mY H;obtain⟨cu,aC⟩:∃j_:Int,(mx J (rd l0 aa))=j_:=⟨_,rfl⟩;first|rw[aC]at H|simp only[aC]at H
     have dc:(if J<(rd l0 aa)then(rd l0 aa)else J)=cu:=aC;have H':=bm H;clear H;have cz:0≤(aa:Int):=nY;have cA:aa<(l0.length:Int):=nY;obtain⟨df,ef,a7⟩:=Kd.at_int aA.out aa cz cA;obtain rfl:de=df:=(by injection ef);replace a7:=mO HB a7;replace cz:=mX cz;replace cA:=mX cA;go_wp2;go_roundg k1
     case measure=>have:=al.out;omega
     case rel=>exact⟨(cu),(wrap64 (aa+1)),(by first|rfl|(simp;done)|(simp only[←aC]<;>(first|rfl|simp))|(simp[*];done)),(by first|rfl|(simp;done)|(simp[*];done)),H',⟨by have:=al.out;omega⟩,⟨wZ HB⟩⟩
    ·obtain rfl:=oJ H;go_wp2;go_ret;exact rz HB
def ob.j0:Nat→List Int→Bool→Option (Bool)
 |0,_,_=>none
 |k+1,x1,x14=>if x14=true then(some false)else((ni.f k x1).bind fun t143=>(if t143=0 then((nk.f k x1).bind fun t144=>(some (decide (t144≤9))))else(some false)))
def ob.f (k:Nat) (a0:Int) (l1:List Int):Option (Bool):=(oD.f a0).bind fun t142=>(if t142=true then(if 0≤a0 then(ob.j0 k l1 ((l1.length:Int) !=(shl .i64 1 a0)))else(none))else(ob.j0 k l1 true))
theorem ob.kU:∀k,(∀y0 y1,ph (ob.j0 k y0 y1) (ob.j0 (k+1) y0 y1))
 |0=>fun _ _=> .z (by simp only[ob.j0])
 |k+1=>by
  have i0:=ob.kU k;exact fun _ _=>by unfold ob.j0;infer_instance
instance ob.mo {k a0 a1}:ph (ob.f k a0 a1) (ob.f (k+1) a0 a1):=by have i0:=ob.kU k;unfold ob.f;infer_instance
theorem ob.calls (k:Nat) (a0:Int) (A1:Option Addr) (c1:Nat) (l1:List Int) (r:Bool) (w:World) (bp:Kd.C (Kd.int .i64) w A1 l1.length l1) (bq:l1.length≤c1) (h:ob.f k a0 l1=some r):
  Calls Tryz.prog 81 #[.int .i64 a0,.slice A1 l1.length c1] w fun e w'=>e= .returned (.bool r)∧Below w.heap.size w w':=by
 have aU:=bm bp;have bj:=bm bq;clear bp bq;have HB:=bm (Below.refl w.heap.size w);have H:=h;clear h;unfold ob.f at H;have dg:=bm H;clear H;go_enter Tryz.func81,Tryz.ntmps81;go_upto_region 1 with(fail)
 go_cut [14] (fun eN wc=>∃(kq:Nat) (bk:Bool),eN= .bool bk∧kn (ob.j0 kq l1 bk=some r)∧kn (kq≤k)∧kn (Below w.heap.size w wc))
 case first=>
  have H:=dg.out;clear dg;obtain⟨t142,A4,H⟩:=bE H;try dsimp only at H
  by_cases c5:t142=true
  ·subst c5;rw[if_pos rfl]at H;obtain⟨cl,cS,H⟩:=mZ H;obtain⟨bz,bg⟩:∃j_:Int,(shl .i64 1 a0)=j_:=⟨_,rfl⟩;first|rw[bg]at H|simp only[bg]at H
   (try rw[bg]at A4);have cB:(IntKind.i64.wrap (1*2^min a0.toNat 64))=bz:=bg;have cC:a0≤64→(IntKind.i64.wrap (1*2^a0.toNat))=bz:=shl_small bg;have eO:(IntKind.i64.wrap (2^min a0.toNat 64))=bz:=by have h_:=cB;rw[Int.one_mul]at h_;exact h_
   have eP:a0≤64→(IntKind.i64.wrap (2^a0.toNat))=bz:=fun cg=>by have h_:=cC cg;rw[Int.one_mul]at h_;exact h_
   have eQ:(wrap64 (1*2^min a0.toNat 64))=bz:=(i64_w _).symm.trans cB;have eR:a0≤64→(wrap64 (1*2^a0.toNat))=bz:=fun h_=>(i64_w _).symm.trans (cC h_)
   have H':=bm H;clear H;go_wp2_with (first|(refine gB (some 6) Tryz.func70 #[.int .i64 a0] rfl ?_;(with_reducible refine(oD.calls a0 true _ A4.out).mono ?_);rintro e w' ⟨rfl,⟨nd,rfl⟩⟩;refine⟨_,rfl,?_⟩));go_meet
   case rel=>exact⟨_,(((l1.length:Int) !=(bz))),(by first|rfl|(simp;done)|(simp only[←bg]<;>(first|rfl|simp))|(simp[*];done)),H',⟨by first|omega|exact Nat.le_refl _⟩,⟨wZ HB⟩⟩
  ·replace c5:=mN c5;subst c5;rw[if_neg nz]at H;have H':=bm H;clear H;go_wp2_with (first|(refine gB (some 6) Tryz.func70 #[.int .i64 a0] rfl ?_;(with_reducible refine(oD.calls a0 false _ A4.out).mono ?_);rintro e w' ⟨rfl,⟨nd,rfl⟩⟩;refine⟨_,rfl,?_⟩));go_meet
   case rel=>exact⟨_,(true),(by first|rfl|(simp;done)|(simp[*];done)),H',⟨by first|omega|exact Nat.le_refl _⟩,⟨wZ HB⟩⟩
 case rest=>
  clear dg;obtain⟨kq,bk,rfl,HA,fe,HB⟩:=hcut;cases kq with
  |zero=>exact absurd HA.out (by simp[ob.j0])
  |succ zl=>
   have H:=HA.out;clear HA;simp only[ob.j0]at H;by_cases c8:bk=true
   ·subst c8;rw[if_pos rfl]at H;obtain rfl:=oJ H;go_wp2;go_ret;exact rz HB
   ·replace c8:=mN c8;subst c8;rw[if_neg nz]at H;obtain⟨t143,A9,H⟩:=bE H;try dsimp only at H
    rcases iT H with⟨c10,H⟩|⟨c10,H⟩
    ·obtain⟨dh,di⟩:=nL c10;clear c10;obtain⟨t144,eS,H⟩:=bE H;try dsimp only at H
     obtain rfl:=oJ H;go_wp2_with (first|(refine gB (some 16) Tryz.func109 #[.slice A1 l1.length c1] rfl ?_;(with_reducible refine(ni.calls zl _ _ l1 t143 _ ?_ ?_ A9.out).mono ?_);exact cY aU HB;exact bj.out;rintro e eE ⟨rfl,hb⟩;refine⟨_,rfl,?_⟩;replace HB:=bW HB hb;clear hb)|(go_at_call 110;(with_reducible refine(nk.calls zl _ _ l1 t144 _ ?_ ?_ eS.out).mono ?_);exact cY aU HB;exact bj.out;rintro e ff ⟨rfl,hb⟩;replace HB:=bW HB hb;clear hb));go_ret;exact rz HB
    ·obtain⟨dh,di⟩:=nK c10;obtain rfl:=oJ H;go_wp2_with (first|(refine gB (some 16) Tryz.func109 #[.slice A1 l1.length c1] rfl ?_;(with_reducible refine(ni.calls zl _ _ l1 t143 _ ?_ ?_ A9.out).mono ?_);exact cY aU HB;exact bj.out;rintro e fg ⟨rfl,hb⟩;refine⟨_,rfl,?_⟩;replace HB:=bW HB hb;clear hb));go_ret;exact rz HB
def pq.f (l0:List Int):Option (List Int):=if l0.length≤1000 then some (l0.mergeSort fun x y=>decide (x≤y))else none
theorem pq.calls (bl:Nat→Prop) (ar:Value) (l0:List Int) (r:List Int) (w0 w:World) (hB:Below w0.heap.size w0 w) (aD:Kd.R (Kd.int .i64) 3 w w0.heap.size bl ar l0) (h:pq.f l0=some r):
  Calls Tryz.prog 111 #[ar] w fun e w'=>e= .returned (.tuple #[])∧Kd.R (Kd.int .i64) 3 w' w0.heap.size (fun k_=>(bl k_∨w.heap.size≤k_)) ar r∧Below w0.heap.size w0 w'∧Kept w w' (fun k_=>bl k_):=by
 unfold pq.f at h;by_cases hs:l0.length≤1000
 ·rw[if_pos hs]at h;obtain rfl:=oJ h;by_cases hp:l0.length=0
  ·obtain⟨A,c,rfl,_,_⟩:=Kd.R_reads aD;obtain rfl:l0= []:=List.eq_nil_of_length_eq_zero hp;refine(Tryz.slices_Sort_int_none A c w).mono ?_;rintro e w' ⟨rfl,rfl⟩;exact⟨rfl,by rw[show(([]:List Int).mergeSort fun x y=>decide (x≤y))= [] from by simp];exact Kd.R_mono aD (fun k hk=>Or.inl hk),hB,Kept.refl _ _⟩
  ·obtain⟨cD,inner,bV,a8⟩:=aD;rcases bV.2 with⟨rfl,h0⟩|⟨g,cap,cur,rfl,bA,hb,h1,h2,h3,h4⟩
   ·exact absurd h0 hp
   ·have dj:inner=l0.map (Value.int .i64):=by
     have hl:=a8.1;have bu:=a8.2;apply List.ext_getElem
     ·rw[hl,List.length_map];exact Nat.mul_one _
     ·intro j hj hj';rw[List.length_map]at hj';have:=bu j l0[j] (List.getElem?_eq_getElem hj');have e1:(inner.drop (j*1)).take 1= [inner[j]]:=by rw[Nat.mul_one,List.drop_eq_getElem_cons hj];rfl
      have e2:(inner.drop (j*1)).take 1= [Value.int .i64 l0[j]]:=this;rw[e1]at e2;rw[List.getElem_map];exact List.head_eq_of_cons_eq e2
    have dk:cur.toList.take l0.length=l0.map (Value.int .i64):=by rw[←dj,←h4];show _=cur.toList.take (l0.length*1);rw[Nat.mul_one]
    have hH:=holds_of_blockI hb dk;refine(Tryz.slices_Sort_int g 0 cap l0 w hH (Array.getElem?_eq_some_iff.1 hb).1 (by omega)).mono ?_;rintro e w' ⟨rfl,n,os,rfl⟩;obtain⟨ts,b0⟩:∃ts,ts=l0.mergeSort fun x y=>decide (x≤y):=⟨_,rfl⟩
    have hlen:ts.length=l0.length:=by rw[b0,List.length_mergeSort]
    rw[←b0];have hs:=ownsRow_sortedI (w:=w) (n:=n) (os:=os) (base:=w0.heap.size) (cap:=cap) hlen bA hb h1 h2 h3;have hg:=grownBy_sortedI (w:=w) (g:=g) (n:=n) (os:=os) ts.toArray
    have Dd:Kd.R (Kd.int .i64) 3 (Sort.grow (Sort.putRow (Value.int .i64) (Sort.ahead w n) g 0 ts.toArray) os) w0.heap.size bl (.slice (some ⟨g,0,none⟩) l0.length cap) ts:=by
     refine⟨cD,_,by rw[hlen];exact hs,⟨by rw[List.length_map];exact(Nat.mul_one _).symm,fun j p hj=>?_⟩⟩;obtain⟨hj',rfl⟩:=List.getElem?_eq_some_iff.1 hj
     show(((ts.map (Value.int .i64)).drop (j*1)).take 1)= [Value.int .i64 ts[j]]
     rw[Nat.mul_one,List.drop_eq_getElem_cons (by rw[List.length_map];exact hj'),List.getElem_map];rfl
    refine⟨rfl,Kd.R_mono Dd (fun k hk=>Or.inl hk),pw_below_grown hB (some g) hB.size hg (fun k hk=>by injection hk with hk;omega),hg.size,fun i hi dm=>hg.block i hi (fun e=>dm ?_)⟩;injection e with e
    subst e;exact cD _ rfl
 ·rw[if_neg hs]at h;cases h
def oL.f (l0:List Int):Option (List Int):=some (Lib.compact l0)
theorem oL.len (l:List Int):(Lib.compact l).length≤l.length:=by
 unfold Lib.compact Lib.compactUpTo;rw[List.length_map];exact Nat.le_trans (List.length_filter_le _ _) (by simp)
theorem oL.calls (bl:Nat→Prop) (ar:Value) (l0:List Int) (r:List Int) (w0 w:World) (hB:Below w0.heap.size w0 w) (aD:Kd.R (Kd.int .i64) 3 w w0.heap.size bl ar l0) (h:oL.f l0=some r):
  Calls Tryz.prog 112 #[ar] w fun e w'=>∃cE:Value,e= .returned (cE)∧Kd.R (Kd.int .i64) 3 w' w0.heap.size (fun k_=>(bl k_∨w.heap.size≤k_)) cE r∧Below w0.heap.size w0 w'∧Kept w w' (fun k_=>bl k_):=by
 obtain rfl:=oJ h;by_cases hp:l0.length=0
 ·obtain⟨A,c,rfl,_,_⟩:=Kd.R_reads aD;obtain rfl:l0= []:=List.eq_nil_of_length_eq_zero hp;refine(Tryz.slices_Compact_int_empty A c w).mono ?_;rintro e w' ⟨rfl,rfl⟩;exact⟨_,rfl,Kd.R_mono aD (fun k hk=>Or.inl hk),hB,Kept.refl _ _⟩
 ·obtain⟨cD,inner,bV,a8⟩:=aD;have eT:=bV;rcases bV.2 with⟨rfl,h0⟩|⟨g,cap,cur,rfl,bA,hb,h1,h2,h3,h4⟩
  ·exact absurd h0 hp
  ·have dj:inner=l0.map (Value.int .i64):=by
    have hl:=a8.1;have bu:=a8.2;apply List.ext_getElem
    ·rw[hl,List.length_map];exact Nat.mul_one _
    ·intro j hj hj';rw[List.length_map]at hj';have:=bu j l0[j] (List.getElem?_eq_getElem hj');have e1:(inner.drop (j*1)).take 1= [inner[j]]:=by rw[Nat.mul_one,List.drop_eq_getElem_cons hj];rfl
     have e2:(inner.drop (j*1)).take 1= [Value.int .i64 l0[j]]:=this;rw[e1]at e2;rw[List.getElem_map];exact List.head_eq_of_cons_eq e2
   have dk:cur.toList.take l0.length=l0.map (Value.int .i64):=by rw[←dj,←h4];show _=cur.toList.take (l0.length*1);rw[Nat.mul_one]
   have hH:=holds_of_blockI hb dk;have hm:l0.length≤9223372036854775807:=Nat.le_trans h1 h2;have eU:=oL.len l0;refine(Tryz.slices_Compact_int g 0 cap l0 w hH hm h1).mono ?_;rintro e w' ⟨rfl,n,rfl⟩;obtain⟨ts,b0⟩:∃ts,ts=Lib.compact l0++List.replicate (l0.length - (Lib.compact l0).length) 0:=⟨_,rfl⟩;have hlen:ts.length=l0.length:=by rw[b0,List.length_append,List.length_replicate];omega
   rw[←b0];have hs:=ownsRow_sortedI (w:=w) (n:=n) (os:= #[]) (base:=w0.heap.size) (cap:=cap) hlen bA hb h1 h2 h3;have hg:=grownBy_sortedI (w:=w) (g:=g) (n:=n) (os:= #[]) ts.toArray;rw[Sort.grow_empty]at hs hg
   have Dd:Kd.R (Kd.int .i64) 3 (Sort.putRow (Value.int .i64) (Sort.ahead w n) g 0 ts.toArray) w0.heap.size bl (.slice (some ⟨g,0,none⟩) l0.length cap) ts:=by
    refine⟨cD,_,by rw[hlen];exact hs,⟨by rw[List.length_map];exact(Nat.mul_one _).symm,fun j p hj=>?_⟩⟩;obtain⟨hj',rfl⟩:=List.getElem?_eq_some_iff.1 hj
    show(((ts.map (Value.int .i64)).drop (j*1)).take 1)= [Value.int .i64 ts[j]]
    rw[Nat.mul_one,List.drop_eq_getElem_cons (by rw[List.length_map];exact hj'),List.getElem_map];rfl
   have hT:=Kd.R_take (m:=(Lib.compact l0).length) Dd (by rw[hlen];exact eU);have eV:ts.take (Lib.compact l0).length=Lib.compact l0:=by rw[b0,List.take_left]
   rw[eV]at hT;refine⟨_,rfl,Kd.R_mono hT (fun k hk=>Or.inl hk),pw_below_grown hB (some g) hB.size hg (fun k hk=>by injection hk with hk;omega),hg.size,fun i hi dm=>hg.block i hi (fun e=>dm ?_)⟩;injection e with e
   subst e;exact cD _ rfl
def lu.l0:Nat→List Int→Int→Int→Int→Option (Int)
 |0,_,_,_,_=>none
 |k+1,x0,x1,x7,x8=>if x8<x7 then(if 0≤x8 then(if x8<(x0.length:Int)then(if x1=(rd x0 x8)then(some x8)else(lu.l0 k x0 x1 x7 (wrap64 (x8+1))))else(none))else(none))else(some (-1))
def lu.f (k:Nat) (l0:List Int) (a1:Int):Option (Int):=lu.l0 k l0 a1 (l0.length:Int) 0
theorem lu.kU:∀k,(∀y0 y1 y2 y3,ph (lu.l0 k y0 y1 y2 y3) (lu.l0 (k+1) y0 y1 y2 y3))
 |0=>fun _ _ _ _=> .z (by simp only[lu.l0])
 |k+1=>by
  have i0:=lu.kU k;exact fun _ _ _ _=>by unfold lu.l0;infer_instance
instance lu.mo {k a0 a1}:ph (lu.f k a0 a1) (lu.f (k+1) a0 a1):=by have i0:=lu.kU k;unfold lu.f;infer_instance
theorem lu.calls (k:Nat) (A0:Option Addr) (c0:Nat) (l0:List Int) (a1:Int) (r:Int) (w:World) (az:Kd.C (Kd.int .i64) w A0 l0.length l0) (au:l0.length≤c0) (h:lu.f k l0 a1=some r):
  Calls Tryz.prog 113 #[.slice A0 l0.length c0,.int .i64 a1] w fun e w'=>e= .returned (.int .i64 r)∧Drawn0 w w':=by
 have aA:=bm az;have cQ:=bm au;clear az au;have H:=h;clear h;unfold lu.f at H;have H':=bm H;clear H;go_enter Tryz.func113,Tryz.ntmps113;go_wp2;go_loopg [8] k (fun kq v8 w'=>∃(ai:Int),v8= .int .i64 ai∧kn (lu.l0 kq l0 a1 (l0.length:Int) ai=some r)∧kn (kq≤k)∧Drawn0 w w')
 case atStart=>exact⟨(0),(by first|rfl|(simp;done)|(simp[*];done)),H',⟨Nat.le_refl _⟩,by repeat(first|exact Drawn0.refl _|apply Drawn0.step)⟩
 case round=>
  clear H';obtain⟨ai,rfl,HA,al,⟨m1,rfl⟩⟩:=hrel;cases gk with
  |zero=>exact absurd HA.out (by simp[lu.l0])
  |succ k1=>
   have H:=HA.out;clear HA;simp only[lu.l0]at H;rcases nA H with⟨aK,H⟩|⟨aK,H⟩
   ·obtain⟨aI,H⟩:=mY H;obtain⟨ck,H⟩:=mY H;rcases iT H with⟨c6,H⟩|⟨c6,H⟩
    ·obtain⟨cl,cS⟩:=nL c6;clear c6;obtain rfl:=oJ H;have ba:0≤(ai:Int):=nY;have bb:ai<(l0.length:Int):=nY;obtain⟨dn,cF,cG⟩:=Kd.at_int aA.out ai ba bb;cases cF;replace ba:=mX ba;replace bb:=mX bb;go_wp2;go_ret;exact rq
    ·obtain⟨cl,cS⟩:=nK c6;have H':=bm H;clear H;have ba:0≤(ai:Int):=nY;have bb:ai<(l0.length:Int):=nY;obtain⟨dn,cF,cG⟩:=Kd.at_int aA.out ai ba bb;cases cF;replace ba:=mX ba;replace bb:=mX bb;go_wp2;go_roundg k1
     case measure=>have:=al.out;omega
     case rel=>exact⟨(wrap64 (ai+1)),(by first|rfl|(simp;done)|(simp[*];done)),H',⟨by have:=al.out;omega⟩,by repeat(first|exact Drawn0.refl _|apply Drawn0.step)⟩
   ·obtain rfl:=oJ H;go_wp2;go_ret;exact rq
def oB.l0:Nat→List Int→List Int→List Int→Int→Int→Option (List Int)
 |0,_,_,_,_,_=>none
 |k+1,x3,x4,x15,x16,x17=>if x17<x16 then(if 0≤x17 then(if x17<(x15.length:Int)then((lu.f k x3 (rd x15 x17)).bind fun t160=>(if x4.length<17592186044416 then(oB.l0 k x3 (x4++ [t160]) x15 x16 (wrap64 (x17+1)))else(none)))else(none))else(none))else(some x4)
def oB.f (k:Nat) (l0:List Int):Option (List Int):=(some (([]:List Int):List Int)).bind fun av=>(if av.length+l0.length<17592186044416 then((pq.f (av++l0)).bind fun t152=>((oL.f t152).bind fun t153=>(oB.l0 k t153 (([]:List Int)) l0 (l0.length:Int) 0)))else(none))
theorem oB.kU:∀k,(∀y0 y1 y2 y3 y4,ph (oB.l0 k y0 y1 y2 y3 y4) (oB.l0 (k+1) y0 y1 y2 y3 y4))
 |0=>fun _ _ _ _ _=> .z (by simp only[oB.l0])
 |k+1=>by
  have i0:=oB.kU k;exact fun _ _ _ _ _=>by unfold oB.l0;infer_instance
instance oB.mo {k a0}:ph (oB.f k a0) (oB.f (k+1) a0):=by have i0:=oB.kU k;unfold oB.f;infer_instance
theorem oB.calls (k:Nat) (A0:Option Addr) (c0:Nat) (l0:List Int) (r:List Int) (w:World) (az:Kd.C (Kd.int .i64) w A0 l0.length l0) (au:l0.length≤c0) (h:oB.f k l0=some r):
  Calls Tryz.prog 82 #[.slice A0 l0.length c0] w fun e w'=>∃cE:Value,e= .returned (cE)∧Kd.R (Kd.int .i64) 3 w' w.heap.size (fun _=>True) cE r∧Below w.heap.size w w':=by
 have aA:=bm az;have cQ:=bm au;clear az au;have HB:=bm (Below.refl w.heap.size w);have H:=h;clear h;unfold oB.f at H;obtain⟨av,bB⟩:∃y_:List Int,y_=(([]:List Int)):=⟨_,rfl⟩;replace H:(if av.length+l0.length<17592186044416 then((pq.f (av++l0)).bind fun t152=>((oL.f t152).bind fun t153=>(oB.l0 k t153 (([]:List Int)) l0 (l0.length:Int) 0)))else(none))=some r:=by first|(rw[bB];exact H)|exact H
 have cH:=bm bB;clear bB;obtain⟨c2,H⟩:=iN H;have eh:=bm c2;clear c2;obtain⟨aJ,bD⟩:∃y_:List Int,y_=(av++l0):=⟨_,rfl⟩;rw[←bD]at H
 have dp:=bm bD;clear bD;obtain⟨t152,A3,H⟩:=bE H;try dsimp only at H
 obtain⟨t153,A4,H⟩:=bE H;try dsimp only at H
 obtain⟨cT,bF⟩:∃y_:List Int,y_=(([]:List Int)):=⟨_,rfl⟩;replace H:(oB.l0 k t153 cT l0 (l0.length:Int) 0)=some r:=by first|(rw[bF];exact H)|exact H
 have cI:=bm bF;clear bF;have H':=bm H;clear H;go_enter Tryz.func82,Tryz.ntmps82;go_wp2_with (first|((with_reducible refine gate_dst (N:=7) rfl ?_);refine Kd.R_lit (Kd.int .i64) _ 3 ?hg (N:=7) ?hd (xs:=([]:List Int)) (inner:=[]) (ok:=fun _=>True) (okp:=fun _=>True) ?hr ?hp (fun _ hk=>hk) trivial (Below.refl _ _) (Nat.le_refl _) (by simp) ?_;(case hd=>rfl);(case hg=>rfl);(case hr=>first|(go_simp;done)|(go_simp;rfl));(case hp=>exact(Reps.none _ _));intro ei w5 cJ hb dq bH;clear dq bH;(first|rw[←cH.out]at cJ|(simp only[Int.reduceToNat]at cJ;rw[←cH.out]at cJ));have cK:=rL cJ HB;replace HB:=bW HB hb;clear hb cJ)|((with_reducible refine gate_builtin (b:=.append) (xs:= #[.tmp 7,.tmp 8]) rfl ?_);at_builtin;refine Kd.R_append_rows (Kd.int .i64) (w0:=w) w.heap.size rfl (.tmp 7) (.tmp 8) 23 3 (.int .i64 0) 8 rfl Tryz.underlying23 info3 rfl (by decide) (by omega) ei av l0 _ _ _ (fun _=>True) (fun _=>False) rfl rfl ?aO ?aR (fun _ _ h=>h) (fun _ h=>h.elim) ?aF ?aB ?aS ?aL ?_;(case aR=>repeat(first|exact(Kd.C_below aA.out HB.out)|(with_reducible refine Kd.C_alloc ?_ _)|(with_reducible refine Kd.C_drewN ?_ _)|(with_reducible refine Kd.C_drew ?_)));(case aB=>exact(wZ HB));(case aF=>exact(fun _ _=>trivial));(case aO=>exact(rS cK));(case aS=>exact(below_size (wZ HB)));(case aL=>have:=eh.out;omega);intro fa w7 ho hb hg bu;rw[←dp.out]at ho;replace HB:=bm (hb);have aE:=bm (ho);clear cK;clear ho hb hg bu;obtain⟨b1,b4,eW⟩:=Kd.R_slice aE.out;subst eW)|(refine gB (some 11) Tryz.func111 #[.slice b1 aJ.length b4] rfl ?_;(with_reducible refine(pq.calls (fun k_=>some k_=(.slice b1 aJ.length b4:Value).ownBlock) (.slice b1 aJ.length b4) aJ t152 w _ ?ka ?km A3.out).mono ?_);(case ka=>repeat(with_reducible first|exact HB.out|apply pS));(case km=>exact Kd.R_tight rfl aE.out);rintro e w9 ⟨rfl,ej,hb,dr⟩;refine⟨_,rfl,?_⟩;replace aE:=bm (Kd.R_reok rfl ej (fun k_ e_=>aE.out.1 k_ e_));replace HB:=bm (hb);(try clear hb);(try clear dr);(try clear ej))|(refine gB (some 13) Tryz.func112 #[.slice b1 aJ.length b4] rfl ?_;(with_reducible refine(oL.calls (fun k_=>some k_=(.slice b1 aJ.length b4:Value).ownBlock) (.slice b1 aJ.length b4) t152 t153 w _ ?ka ?km A4.out).mono ?_);(case ka=>repeat(with_reducible first|exact HB.out|apply pS));(case km=>exact Kd.R_tight rfl aE.out);rintro e eX ⟨v154,rfl,aD,hb,dr⟩;refine⟨_,rfl,?_⟩;have bn:=bm (Kd.R_mono (ok':=fun k_=>True) aD (fun k_ fh=>trivial));replace HB:=bm (hb);clear aE;(try clear hb);(try clear dr);(try clear aD))|((with_reducible refine gate_dst (N:=14) rfl ?_);refine Kd.R_lit (Kd.int .i64) _ 3 ?hg (N:=14) ?hd (xs:=([]:List Int)) (inner:=[]) (ok:=fun _=>True) (okp:=fun _=>True) ?hr ?hp (fun _ hk=>hk) trivial (Below.refl _ _) (Nat.le_refl _) (by simp) ?_;(case hd=>rfl);(case hg=>rfl);(case hr=>first|(go_simp;done)|(go_simp;rfl));(case hp=>exact(Reps.none _ _));intro v157 eD bh hb dq bH;clear dq bH;(first|rw[←cI.out]at bh|(simp only[Int.reduceToNat]at bh;rw[←cI.out]at bh));have dt:=bm (Kd.R_lower (Kd.R_new' bh (Kd.R_lt (rS bn))) (below_size (wZ HB)));replace bn:=bm (Kd.R_elder' (rS bn) (Kd.R_base bh) hb);replace HB:=bW HB hb;clear hb bh));go_loopg [4,17] k (fun kq v4 eY w'=>∃(aa:List Int) (ak:Int),eY= .int .i64 ak∧kn (oB.l0 kq t153 aa l0 (l0.length:Int) ak=some r)∧kn (kq≤k)∧kn (Kd.R (Kd.int .i64) 3 w' w.heap.size (fun k_=>some k_≠(v4:Value).ownBlock) v154 t153)∧kn (Kd.R (Kd.int .i64) 3 w' w.heap.size (fun k_=>some k_≠(v154:Value).ownBlock) v4 aa)∧kn (Below w.heap.size w w'))
 case atStart=>exact⟨(cT),(0),(by first|rfl|(simp;done)|(simp[*];done)),H',⟨Nat.le_refl _⟩,⟨by(repeat apply Kd.RS);exact Kd.R_mono bn.out (fun _ hk=>hk.2)⟩,⟨by(repeat apply Kd.RS);exact Kd.R_mono dt.out (fun _ hk=>hk.2)⟩,⟨wZ HB⟩⟩
 case round=>
  clear H';obtain⟨aa,ak,rfl,HA,al,pJ,pc,HB⟩:=hrel;cases gk with
  |zero=>exact absurd HA.out (by simp[oB.l0])
  |succ k1=>
   have H:=HA.out;clear HA;simp only[oB.l0]at H;rcases nA H with⟨du,H⟩|⟨du,H⟩
   ·obtain⟨eZ,H⟩:=mY H;obtain⟨e0,H⟩:=mY H;obtain⟨t160,e3,H⟩:=bE H;try dsimp only at H
    obtain⟨el,H⟩:=iN H;have dv:=bm el;clear el;obtain⟨cU,bJ⟩:∃y_:List Int,y_=(aa++ [t160]):=⟨_,rfl⟩;rw[←bJ]at H
    have dw:=bm bJ;clear bJ;have H':=bm H;clear H;have cM:0≤(ak:Int):=nY;have cN:ak<(l0.length:Int):=nY;obtain⟨e4,en,bc⟩:=Kd.at_int aA.out ak cM cN;cases en;replace bc:=mO HB bc;replace cM:=mX cM;replace cN:=mX cN;obtain⟨cV,cW,eo⟩:=Kd.R_slice pJ.out;subst eo;go_wp2_with (first|(refine gB (some 24) Tryz.func113 #[.slice cV t153.length cW,.int .i64 (rd l0 ak)] rfl ?_;(with_reducible refine(lu.calls k1 _ _ t153 (rd l0 ak) t160 _ ?_ ?_ e3.out).mono ?_);exact cZ (Kd.R_reads' pJ.out).2.2;exact(Kd.R_reads' pJ.out).2.1;rintro e w' ⟨rfl,⟨nd,rfl⟩⟩;refine⟨_,rfl,?_⟩)|((with_reducible refine gate_builtin (b:=.append) (xs:= #[.tmp 21,.tmp 25]) rfl ?_);at_builtin;refine Kd.R_append (Kd.int .i64) (w0:=w) w.heap.size rfl (.tmp 21) (.tmp 25) 23 3 (.int .i64 0) 8 rfl Tryz.underlying23 info3 rfl (by decide) (by omega) u4 aa t160 [.int .i64 t160] (fun k_=>some k_≠(.slice cV t153.length cW:Value).ownBlock) (fun _=>False) rfl rfl ?aP (fun _ hk=>hk.elim) ?aF ?aO ?aB ?aS ?aL ?_;(case aP=>exact rfl);(case aB=>exact(wZ HB));(case aF=>exact(fun k_ hk=>Kd.fresh' (Kd.R_lt (rS pJ)) k_ hk));(case aO=>exact(rS pc));(case aS=>exact(below_size (wZ HB)));(case aL=>have:=dv.out;omega);intro v162 eF ho hb hg bu;rw[←dw.out]at ho;replace pJ:=bm (Kd.R_after (ok:=(fun _=>True)) (by(repeat apply Kd.RS);exact Kd.R_mono pJ.out (fun _ hk=>⟨trivial,hk⟩)) hg bu);replace HB:=bm (hb);have dx:=bm (ho);clear pc;clear ho hb hg bu));go_roundg k1
    case measure=>have:=al.out;omega
    case rel=>exact⟨(cU),(wrap64 (ak+1)),(by first|rfl|(simp;done)|(simp[*];done)),H',⟨by have:=al.out;omega⟩,⟨by(repeat apply Kd.RS);exact Kd.R_mono pJ.out (fun _ hk=>hk.2)⟩,⟨by(repeat apply Kd.RS);exact dx.out⟩,⟨wZ HB⟩⟩
   ·obtain rfl:=oJ H;go_wp2;go_ret;exact⟨_,by first|rfl|(simp[*,jY,jZ]<;>rfl),by(repeat apply Kd.RS);exact Kd.R_mono pc.out (fun _ hk=>trivial),wZ HB⟩
def oM.f (k:Nat) (a0:Int) (l1:List Int):Option (Bool):=(ob.f k a0 l1).bind fun t164=>(if t164=true then((oB.f k l1).bind fun t165=>((ky.f k t165 l1).bind fun t168=>(some t168)))else(some false))
instance oM.mo {k a0 a1}:ph (oM.f k a0 a1) (oM.f (k+1) a0 a1):=by unfold oM.f;infer_instance
theorem oM.mono:∀a0 a1 k,LeO (oM.f k a0 a1) (oM.f (k+1) a0 a1):=fun _ _ _=>oM.mo.h
theorem oM.calls (k:Nat) (a0:Int) (A1:Option Addr) (c1:Nat) (l1:List Int) (r:Bool) (w:World) (bp:Kd.C (Kd.int .i64) w A1 l1.length l1) (bq:l1.length≤c1) (h:oM.f k a0 l1=some r):
  Calls Tryz.prog 52 #[.int .i64 a0,.slice A1 l1.length c1] w fun e w'=>e= .returned (.bool r)∧Below w.heap.size w w':=by
 have aU:=bm bp;have bj:=bm bq;clear bp bq;have HB:=bm (Below.refl w.heap.size w);have H:=h;clear h;unfold oM.f at H;obtain⟨t164,A3,H⟩:=bE H;try dsimp only at H
 by_cases c4:t164=true
 ·subst c4;rw[if_pos rfl]at H;obtain⟨t165,A5,H⟩:=bE H;try dsimp only at H
  obtain⟨t168,A6,H⟩:=bE H;try dsimp only at H
  obtain rfl:=oJ H;go_enter Tryz.func52,Tryz.ntmps52;go_wp2_with (first|(refine gB (some 7) Tryz.func81 #[.int .i64 a0,.slice A1 l1.length c1] rfl ?_;(with_reducible refine(ob.calls k a0 _ _ l1 true _ ?_ ?_ A3.out).mono ?_);exact cZ aU.out;exact bj.out;rintro e w7 ⟨rfl,hb⟩;refine⟨_,rfl,?_⟩;replace HB:=bW HB hb;clear hb)|(go_at_call 82;(with_reducible refine(oB.calls k _ _ l1 t165 _ ?_ ?_ A5.out).mono ?_);exact cY aU HB;exact bj.out;rintro e w8 ⟨fb,rfl,aD,hb⟩;have bO:=rL aD HB;replace HB:=bW HB hb;clear hb;(try clear aD);obtain⟨fi,fj,e5⟩:=Kd.R_slice bO.out;subst e5)|(go_at_call 75;(with_reducible refine(ky.calls k _ _ t165 _ _ l1 t168 _ ?_ ?_ ?_ ?_ A6.out).mono ?_);exact cZ (Kd.R_reads' bO.out).2.2;exact(Kd.R_reads' bO.out).2.1;exact cY aU HB;exact bj.out;rintro e w' ⟨rfl,⟨nd,rfl⟩⟩));go_ret;exact rz HB
 ·replace c4:=mN c4;subst c4;rw[if_neg nz]at H;obtain rfl:=oJ H;go_enter Tryz.func52,Tryz.ntmps52;go_wp2_with (first|(refine gB (some 7) Tryz.func81 #[.int .i64 a0,.slice A1 l1.length c1] rfl ?_;(with_reducible refine(ob.calls k a0 _ _ l1 false _ ?_ ?_ A3.out).mono ?_);exact cZ aU.out;exact bj.out;rintro e eX ⟨rfl,hb⟩;refine⟨_,rfl,?_⟩;replace HB:=bW HB hb;clear hb));go_ret;exact rz HB
def xe (g:Nat) (lb:Array Value) (p:List Int→Option Bool) (w:World):Prop:=
 ∀(W:World) (A:Option Addr) (c:Nat) (l:List Int) (b:Bool),Below w.heap.size w W→Kd.C (Kd.int .i64) W A l.length l→l.length≤c→p l=some b→
  Calls Tryz.prog g (#[.slice A l.length c]++lb) W fun e w'=>e= .returned (.bool b)∧Below W.heap.size W w'
theorem Bd {w:World} {A:Option Addr} {n:Nat} {xs:List (List Int)} (h:Kd.C (Kd.slice 3 (Kd.int .i64)) w A n xs) (i:Int) (h0:0≤i) (h1:i<n):
  ∃ad A0 c0,A=some ad∧w.cell? (ad.add i.toNat)=some (.slice A0 (xs.getD i.toNat []).length c0)∧(xs.getD i.toNat []).length≤c0∧Kd.C (Kd.int .i64) w A0 (xs.getD i.toNat []).length (xs.getD i.toNat []):=by
 obtain⟨ad,c,e,_,hK,au⟩:=Kd.C_get h ([]:List Int) i h0 h1;have hc:∀j u,c[j]?=some u→w.cell? (ad.add (i.toNat*1+j))=some u:=au;obtain⟨A0,c0,rfl,l0,g0⟩:=hK;exact⟨ad,A0,c0,e,by have hq:=hc 0 _ rfl;rwa [Nat.mul_one,Nat.add_zero]at hq,l0,g0⟩
theorem yM {p:List Int→Option Bool} {l:List (List Int)} {x:Int} (h0:0≤x) (h1:x<(l.length:Int)):
  Hof.uh p (l.drop x.toNat) x=(p (l.getD x.toNat [])).bind fun b=>if b=true then some x else Hof.uh p (l.drop (x+1).toNat) (x+1):=by
 have hl:x.toNat<l.length:=by omega
 rw[List.drop_eq_getElem_cons hl,show(x+1).toNat=x.toNat+1 from by omega,List.getD_eq_getElem?_getD,List.getElem?_eq_getElem hl];rfl
theorem tJ (g:Nat) (lb:Array Value) (eg:∀args w,(callFunc g args).run Tryz.prog w= .ok (.enter g args) w) (p:List Int→Option Bool)
  (A:Option Addr) (c:Nat) (l:List (List Int)) (r:Int) (w:World) (hr:Kd.C (Kd.slice 3 (Kd.int .i64)) w A l.length l) (hp:xe g lb p w) (h:Hof.uh p l 0=some r):
  Calls Tryz.prog 83 #[.slice A l.length c,.func (.func g) #[] lb] w fun e w'=>e= .returned (.int .i64 r)∧Below w.heap.size w w':=by
 have HR:=bm hr;have HP:=bm hp;have HH:kn (Hof.uh p (l.drop (0:Int).toNat) 0=some r):=bm h;have hlen:(l.length:Int)≤9223372036854775807:=by have:=hr.2.1;omega
 clear hr hp h;go_enter Tryz.func83,Tryz.ntmps83;go_wp2;go_loopg [5,8] l.length (fun gg _ s8 wr=>∃x:Int,0≤x∧x≤(l.length:Int)∧(l.length:Int) - x≤gg∧s8= .int .i64 x∧kn (Below w.heap.size w wr)∧kn (Hof.uh p (l.drop x.toNat) x=some r))
 case atStart=>exact⟨0,by omega,by omega,by omega,rfl,⟨Below.refl _ _⟩,HH⟩
 case round=>
  clear HH;obtain⟨x,ep,fk,hg,rfl,HB,HA⟩:=hrel;by_cases er:x<(l.length:Int)
  ·obtain⟨ad,A0,c0,e,hx,dy,et⟩:=Bd HR.out x ep er;cases e;replace hx:=mO HB hx;have dz:=Kd.C_below et HB.out;obtain⟨b,hb,cO⟩:=Option.bind_eq_some_iff.mp ((yM ep er).symm.trans HA.out);clear HA;obtain⟨y,hy⟩:∃y,y=l.getD x.toNat []:=⟨_,rfl⟩;rw[←hy]at hx dy dz hb;have cP:=HP.out wr A0 c0 y b HB.out dz dy hb;have uH:=bm cO;clear cO hb HR HP et dz dy hy;cases b with
   |true=>
    go_wp2_with fail;refine cP.mono ?_;rintro e w' ⟨rfl,hb'⟩;go_wp2_with fail;obtain rfl:x=r:=by have:=uH.out;simpa using this
    go_ret;exact⟨rfl,below_then HB.out HB.out.size hb'⟩
   |false=>
    go_wp2_with fail;refine cP.mono ?_;rintro e w' ⟨rfl,hb'⟩;go_wp2_with fail;go_roundg (l.length - (x+1).toNat)
    case measure=>omega
    case rel=>exact⟨x+1,by omega,by omega,by omega,by go_num,⟨below_then HB.out HB.out.size hb'⟩,⟨by have:=uH.out;simpa using this⟩⟩
  ·have e6:x=(l.length:Int):=by omega
   have e2:(-1:Int)=r:=by
    have:=HA.out;rw[e6,show((l.length:Int)).toNat=l.length from by omega,List.drop_length]at this;simpa [Hof.uh] using this
   clear HA;subst e2;go_wp2;go_ret;exact⟨rfl,HB.out⟩
end Go.Proofs.YtigeaokfhnlkcaaGreatDoor.P
