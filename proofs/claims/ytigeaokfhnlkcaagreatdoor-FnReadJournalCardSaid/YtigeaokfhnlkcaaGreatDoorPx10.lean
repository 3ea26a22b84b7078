import Derived.Test.YtigeaokfhnlkcaaGreatDoorPx0
import Derived.Test.YtigeaokfhnlkcaaGreatDoorPx1
import Derived.Test.YtigeaokfhnlkcaaGreatDoorPx2
import Derived.Test.YtigeaokfhnlkcaaGreatDoorPx9
namespace Go.Proofs.YtigeaokfhnlkcaaGreatDoor.P
open Go.RowKit YtigeaokfhnlkcaaGreatDoorW PrintWords PrintLast PrintMore
attribute [local go_sem] max2_int min2_int max_two min_two max_three min_three max_four min_four
set_option linter.unusedVariables false
set_option linter.unusedSimpArgs false
attribute [local go_sem high] wA
set_option maxHeartbeats 8000000
set_option maxRecDepth 100000
def kV.j0:Nat→Bool→Int→ByteArray→Option (ByteArray)
 |0,_,_,_=>none
 |k+1,x3,ss,vM=>if x3=true then((some (([(⟨#[102,105,114,115,116]⟩:ByteArray),(⟨#[97,108,108]⟩:ByteArray)]:List ByteArray):List ByteArray)).bind fun ah=>(if 0≤ss then(if ss<(ah.length:Int)then(if(rdOf ByteArray.empty ah ss).size+1≤9223372036854775807 then(if((rdOf ByteArray.empty ah ss)++(⟨#[32]⟩:ByteArray)).size+vM.size≤9223372036854775807 then(some (((rdOf ByteArray.empty ah ss)++(⟨#[32]⟩:ByteArray))++vM))else(none))else(none))else(none))else(none)))else(if(ss==2&&(vM.toList==([]:List UInt8)))=true then(some (⟨#[98,97,99,107]⟩:ByteArray))else(some (⟨#[]⟩:ByteArray)))
def kV.f (k:Nat) (j:Int) (o:ByteArray):Option (ByteArray):=(ov.f j 0 1).bind fun aJ=>(if aJ=true then((nX.f k o).bind fun aD=>(kV.j0 k aD j o))else(kV.j0 k false j o))
theorem kV.kU:∀k,(∀y0 y1 y2,ph (kV.j0 k y0 y1 y2) (kV.j0 (k+1) y0 y1 y2))
 |0=>fun _ _ _=> .z (by simp only[kV.j0])
 |k+1=>by
  have i0:=kV.kU k;exact fun _ _ _=>by unfold kV.j0;infer_instance
instance kV.mo {k a0 a1}:ph (kV.f k a0 a1) (kV.f (k+1) a0 a1):=by have i0:=kV.kU k;unfold kV.f;infer_instance
def kV.T2:Bool×List (List Nat×List Nat):=(true,[([],[]),([],[]),([1],[1]),([0,2],[0,2]),([3],[3]),([4],[4]),([],[]),([6],[6]),([5,7],[5,7]),([8,0,1,2,3,4,5,6,7,8],[8])])
def kV.B2:List Nat:=[0,0,2,7,15,31,0,64,255,511]
theorem kV.Df:rtab .any (opsOf Tryz.f51 2)=kV.T2:=by kernel_rfl
theorem kV.Cv:waitsOk kV.T2.2 kV.B2=true:=by kernel_rfl
theorem kV.calls (k:Nat) (j:Int) (o:ByteArray) (r:ByteArray) (w:World) (h:kV.f k j o=some r):
  Calls Tryz.prog 51 #[.agg #[.int .i64 j,.string o]] w fun e w'=>e= .returned (.string r)∧Below w.heap.size w w':=by
 have bO:=Tryz.underlying47;have HB:=bm (Below.refl w.heap.size w);have H:=h;clear h;unfold kV.f at H;have bq:=bm H;clear H;go_enter Tryz.func51,Tryz.ntmps51;go_upto_region 1 with(first|(refine pN 1 #[.int .i64 j,.string o] 47 ?_;intro aP hg w3 ao hb;have J:=bm (ao);have de:=bG HB hg;replace HB:=bW HB hb;clear hb ao hg))
 (try simp only[Act.put,qA,qB,qC]);go_cut [3] (fun v3 wc=>∃(kq:Nat) (ak:Bool),v3= .bool ak∧kn (kV.j0 kq ak j o=some r)∧kn (kq≤k)∧pK wc aP #[.int .i64 j,.string o] 47∧kn (Below w.heap.size w wc))
 case first=>
  have H:=bq.out;clear bq;obtain⟨aJ,A4,H⟩:=bE H;try dsimp only at H
  by_cases c5:aJ=true
  ·subst c5;rw[if_pos rfl]at H;obtain⟨aD,A6,H⟩:=bE H;try dsimp only at H
   have H':=bm H;clear H;obtain⟨cU,cV,cW,cX⟩:=b2 J;go_wp2_with (first|(refine gB (some 6) Tryz.func77 #[.int .i64 j,.int .i64 0,.int .i64 1] rfl ?_;(with_reducible refine(ov.calls j 0 1 true _ A4.out).mono ?_);rintro e w' ⟨rfl,⟨nd,rfl⟩⟩;refine⟨_,rfl,?_⟩)|(go_at_call 80;(with_reducible refine(nX.calls k o aD _ A6.out).mono ?_);rintro e w' ⟨rfl,⟨nd,rfl⟩⟩));go_meet
   case rel=>exact⟨_,(aD),(by first|rfl|(simp;done)|(simp[*];done)),H',⟨by first|omega|exact Nat.le_refl _⟩,⟨kS J⟩,⟨wZ HB⟩⟩
  ·replace c5:=mN c5;subst c5;rw[if_neg nz]at H;have H':=bm H;clear H;obtain⟨da,db,dc,dd⟩:=b2 J;go_wp2_with (first|(refine gB (some 6) Tryz.func77 #[.int .i64 j,.int .i64 0,.int .i64 1] rfl ?_;(with_reducible refine(ov.calls j 0 1 false _ A4.out).mono ?_);rintro e w' ⟨rfl,⟨nd,rfl⟩⟩;refine⟨_,rfl,?_⟩));go_meet
   case rel=>exact⟨_,(false),(by first|rfl|(simp;done)|(simp[*];done)),H',⟨by first|omega|exact Nat.le_refl _⟩,⟨kS J⟩,⟨wZ HB⟩⟩
 case rest=>
  clear bq;obtain⟨kq,ak,rfl,HA,ed,J,HB⟩:=hcut;cases kq with
  |zero=>exact absurd HA.out (by simp[kV.j0])
  |succ DN=>
   have H:=HA.out;clear HA;simp only[kV.j0]at H;by_cases c9:ak=true
   ·subst c9;rw[if_pos rfl]at H;obtain⟨ah,aQ⟩:∃y_:List ByteArray,y_=(([(⟨#[102,105,114,115,116]⟩:ByteArray),(⟨#[97,108,108]⟩:ByteArray)]:List ByteArray)):=⟨_,rfl⟩;rw[←aQ]at H
    have aR:=bm aQ;clear aQ;obtain⟨df,H⟩:=mY H;obtain⟨dg,H⟩:=mY H;obtain⟨br,H⟩:=iN H;have dh:=mX br;have di:=mV br;try have dj:(9223372036854775807<(rdOf ByteArray.empty ah j).size+1)=False:=eq_false (Nat.not_lt.2 br)
    obtain⟨bo,H⟩:=iN H;have dk:=mX bo;have dm:=mV bo;try have dn:(9223372036854775807<((rdOf ByteArray.empty ah j)++(⟨#[32]⟩:ByteArray)).size+o.size)=False:=eq_false (Nat.not_lt.2 bo)
    (try have dp:(9223372036854775807<(rdOf ByteArray.empty ah j).size+1+o.size)=False:=eq_false (by have h_:=bo;(repeat rw[ByteArray.size_append]at h_);exact Nat.not_lt.2 h_));obtain rfl:=oJ H;try go_wp2
    have dq:(0≤(j:Int))=True:=mX (nY);have dr:(j<(ah.length:Int))=True:=mX (nY);replace J:=mQ J;replace HB:=mW HB;refine start_ (n:=10) (S:=fun w'=>w'.cell? ⟨aP,0,none⟩=some (.int .i64 j)∧w'.cell? ⟨aP,1,none⟩=some (.string o)) (ds:=[]) #[false,false,false,false,false,false,false,false,false,false] (by kernel_rfl) rfl rfl ⟨(nD J.out 0).trans rfl,(nD J.out 1).trans rfl⟩ (fun hHeld=>?_);refine with_tabW kV.Df kV.Cv (fun ar bV=>?_);generalize wc.drew=ee at J HB hHeld⊢;refine pA 1 13 ar ?_ ?_ ?_ ?_ (pA 6 18 ar ?_ ?_ ?_ ?_ (tA 2 14 ar bV hHeld ?_ ?_ ?_ ?_ (tA 7 19 ar bV hHeld ?_ ?_ ?_ ?_ ?_)))
    all_goals first|(rintro w' ⟨s0,s1⟩;go_simp;with_reducible rfl)|(intro w';go_simp;with_reducible rfl)|(simp only[Act.put,qA,qB,qC,i64_w,i32_w];rfl)|skip
    refine oA 0 (some 12) ar (fun K hK=>?_);refine Kd.R_lit_step Kd.string _ 9 ?hg (N:=12) ?hd (xs:=([(⟨#[102,105,114,115,116]⟩:ByteArray),(⟨#[97,108,108]⟩:ByteArray)]:List ByteArray)) (inner:=[.string (⟨#[102,105,114,115,116]⟩:ByteArray),.string (⟨#[97,108,108]⟩:ByteArray)]) (ok:=fun _=>True) (okp:=fun _=>True) ?hr ?hp (fun _ hk=>hk) trivial (Below.refl _ _) (Nat.le_refl _) (by simp) ?_;(case hd=>rfl);(case hg=>rfl);(case hr=>first|(go_simp;done)|(go_simp;rfl));(case hp=>exact(Reps.one (show Kd.M Kd.string _ _ _ (⟨#[102,105,114,115,116]⟩:ByteArray) [.string (⟨#[102,105,114,115,116]⟩:ByteArray)] from rfl) (Reps.one (show Kd.M Kd.string _ _ _ (⟨#[97,108,108]⟩:ByteArray) [.string (⟨#[97,108,108]⟩:ByteArray)] from rfl) (Reps.none _ _))));intro dH ef aK hb aZ au;clear aZ au;(first|rw[←aR.out]at aK|(simp only[Int.reduceToNat]at aK;rw[←aR.out]at aK));have aS:=rL aK HB;replace J:=bU J hb;replace HB:=bW HB hb;clear hb aK;obtain⟨dI,dJ,bZ⟩:=Kd.R_slice aS.out;subst bZ;obtain⟨bs,b0,_⟩:=Kd.at_string (Kd.R_reads' aS.out).2.2 0 (by decide) (by rw[aR.out];simp);cases b0;refine hK.out _ _ ⟨(nD J.out 0).trans rfl,(nD J.out 1).trans rfl⟩ (fun hHeld=>?_);clear hK K;refine nm 12 ?_
    refine pA 3 15 ar ?_ ?_ ?_ ?_ ?_
    all_goals first|(intro w';go_simp;with_reducible rfl)|(simp only[Act.put,qA,qB,qC,i64_w,i32_w];rfl)|skip
    refine oA 4 (some 16) ar (fun K hK=>?_);(have b1:0≤(j:Int):=nY;have b4:j<(ah.length:Int):=nY;obtain⟨bu,b5,a6⟩:=Kd.at_string (Kd.R_reads' aS.out).2.2 j b1 b4;obtain rfl:bs=bu:=(by injection b5));refine value_ (w1:=?_) (v:=?_) (by rfl) rfl ?_ ?_;rotate_left 2
    ·go_simp;constructor
     ·rfl
     ·rfl
    clear a6;refine hK.out _ _ ⟨(nD J.out 0).trans rfl,(nD J.out 1).trans rfl⟩ (fun hHeld=>?_);clear hK K;refine nm 16 ?_
    refine pA 5 17 ar ?_ ?_ ?_ ?_ (pA 8 20 ar ?_ ?_ ?_ ?_ (pA 9 2 ar ?_ ?_ ?_ ?_ ?_))
    all_goals first|(intro w';go_simp;with_reducible rfl)|(simp only[Act.put,qA,qB,qC,i64_w,i32_w];rfl)|skip
    refine done_ (done_of ar.out (by kernel_rfl)) ?_;try go_wp2
    go_ret;exact rz HB
   ·replace c9:=mN c9;subst c9;rw[if_neg nz]at H;rcases iT H with⟨aC,H⟩|⟨aC,H⟩
    ·have aT:(j==2&&(o.toList==([]:List UInt8)))=true:=aC;try have bw:(j==2&&o.toList.isEmpty)=true:=by have h_:=aT;(repeat rw[Hof.qd]);exact h_
     (try(have bx:decide (j=2&&(o.toList==([]:List UInt8)))=true:=by simpa using aC));(try(have bz:(j==2&&(o.toList==([]:List UInt8)))=true:=by simpa using aC));clear aC;obtain rfl:=oJ H;obtain⟨b6,b7,b8,b9⟩:=b2 J;go_wp2;go_ret;exact rz HB
    ·have aT:(j==2&&(o.toList==([]:List UInt8)))=false:=by simpa using aC
     (try have bw:(j==2&&o.toList.isEmpty)=false:=by have h_:=aT;(repeat rw[Hof.qd]);exact h_);(try(have bx:decide (j=2&&(o.toList==([]:List UInt8)))=false:=by simpa using aC));(try(have bz:(j==2&&(o.toList==([]:List UInt8)))=false:=by simpa using aC));(try(have dt:¬(j=2&&(o.toList==([]:List UInt8))):=by simpa using aC));clear aC;obtain rfl:=oJ H;obtain⟨ca,cb,cc,cd⟩:=b2 J;go_wp2;go_ret;exact rz HB
def nv.l0:Nat→List (oK)→ByteArray→Int→Option (ByteArray)
 |0,_,_,_=>none
 |k+1,x0,x3,x4=>if x4<(x0.length:Int)then(if 0≤x4 then((kV.f k ((la x0 x4).f0) ((la x0 x4).f1)).bind fun aq=>(if aq.toList=([]:List UInt8)then(some (⟨#[]⟩:ByteArray))else((kV.f k ((la x0 x4).f0) ((la x0 x4).f1)).bind fun an=>(if x3.size+an.size≤9223372036854775807 then(if(x3++an).size+1≤9223372036854775807 then(nv.l0 k x0 ((x3++an)++(⟨#[10]⟩:ByteArray)) (wrap64 (x4+1)))else(none))else(none)))))else(none))else(some x3)
def nv.f (k:Nat) (l0:List (oK)):Option (ByteArray):=nv.l0 k l0 (⟨#[]⟩:ByteArray) 0
theorem nv.kU:∀k,(∀y0 y1 y2,ph (nv.l0 k y0 y1 y2) (nv.l0 (k+1) y0 y1 y2))
 |0=>fun _ _ _=> .z (by simp only[nv.l0])
 |k+1=>by
  have i0:=nv.kU k;exact fun _ _ _=>by unfold nv.l0;infer_instance
instance nv.mo {k a0}:ph (nv.f k a0) (nv.f (k+1) a0):=by have i0:=nv.kU k;unfold nv.f;infer_instance
theorem nv.calls (k:Nat) (A0:Option Addr) (c0:Nat) (l0:List (oK)) (r:ByteArray) (w:World) (cf:Kd.C qL w A0 l0.length l0) (cg:l0.length≤c0) (h:nv.f k l0=some r):
  Calls Tryz.prog 36 #[.slice A0 l0.length c0] w fun e w'=>e= .returned (.string r)∧Below w.heap.size w w':=by
 have bO:=Tryz.underlying47;have bA:=bm cf;have eg:=bm cg;clear cf cg;have HB:=bm (Below.refl w.heap.size w);have H:=h;clear h;unfold nv.f at H;have H':=bm H;clear H;go_enter Tryz.func36,Tryz.ntmps36;go_wp2;go_loopg [3,4] k (fun kq v3 v4 w'=>∃(ak:ByteArray) (I:Int),v3= .string ak∧v4= .int .i64 I∧kn (nv.l0 kq l0 ak I=some r)∧kn (kq≤k)∧kn (Below w.heap.size w w'))
 case atStart=>exact⟨((⟨#[]⟩:ByteArray)),(0),(by first|rfl|(simp;done)|(simp[*];done)),(by first|rfl|(simp;done)|(simp[*];done)),H',⟨Nat.le_refl _⟩,⟨wZ HB⟩⟩
 case round=>
  clear H';obtain⟨ak,I,rfl,rfl,HA,ch,HB⟩:=hrel;cases gk with
  |zero=>exact absurd HA.out (by simp[nv.l0])
  |succ k1=>
   have H:=HA.out;clear HA;simp only[nv.l0]at H;rcases nA H with⟨cj,H⟩|⟨cj,H⟩
   ·obtain⟨bp,H⟩:=mY H;obtain⟨aq,A4,H⟩:=bE H;try dsimp only at H
    rcases iT H with⟨c5,H⟩|⟨c5,H⟩
    ·obtain⟨ck,cl⟩:=nL c5;clear c5;obtain rfl:=oJ H;have av:0≤(I:Int):=nY;have aw:I<(l0.length:Int):=nY;obtain⟨a7,a8,ae,af⟩:=qg bA.out I av aw;cases a8;replace ae:=mO HB ae;replace af:=mO HB af;replace av:=mX av;replace aw:=mX aw;go_wp2_with (first|(refine gB (some 15) Tryz.func51 #[.agg #[.int .i64 ((la l0 I).f0),.string ((la l0 I).f1)]] rfl ?_;(with_reducible refine(kV.calls k1 ((la l0 I).f0) ((la l0 I).f1) aq _ A4.out).mono ?_);rintro e w6 ⟨rfl,hb⟩;refine⟨_,rfl,?_⟩;replace HB:=bW HB hb;clear hb));go_ret;exact rz HB
    ·obtain⟨ck,cl⟩:=nK c5;obtain⟨an,A7,H⟩:=bE H;try dsimp only at H
     obtain⟨c8,H⟩:=iN H;have dK:=mX c8;have dL:=mV c8;try have dM:(9223372036854775807<ak.size+an.size)=False:=eq_false (Nat.not_lt.2 c8)
     obtain⟨c9,H⟩:=iN H;have dN:=mX c9;have dO:=mV c9;try have dP:(9223372036854775807<(ak++an).size+1)=False:=eq_false (Nat.not_lt.2 c9)
     (try have dQ:(9223372036854775807<ak.size+an.size+1)=False:=eq_false (by have h_:=c9;(repeat rw[ByteArray.size_append]at h_);exact Nat.not_lt.2 h_));have H':=bm H;clear H;have av:0≤(I:Int):=nY;have aw:I<(l0.length:Int):=nY;obtain⟨a7,a8,ae,af⟩:=qg bA.out I av aw;cases a8;replace ae:=mO HB ae;replace af:=mO HB af;replace av:=mX av;replace aw:=mX aw;go_wp2_with (first|(refine gB (some 15) Tryz.func51 #[.agg #[.int .i64 ((la l0 I).f0),.string ((la l0 I).f1)]] rfl ?_;(with_reducible refine(kV.calls k1 ((la l0 I).f0) ((la l0 I).f1) aq _ A4.out).mono ?_);rintro e eh ⟨rfl,hb⟩;refine⟨_,rfl,?_⟩;replace HB:=bW HB hb;clear hb;have ba:0≤(I:Int):=nY;have bb:I<(l0.length:Int):=nY;obtain⟨bB,cm,ax,ay⟩:=qg bA.out I ba bb;obtain rfl:a7=bB:=(by injection cm);replace ax:=mO HB ax;replace ay:=mO HB ay;replace ba:=mX ba;replace bb:=mX bb)|(refine gB (some 22) Tryz.func51 #[.agg #[.int .i64 ((la l0 I).f0),.string ((la l0 I).f1)]] rfl ?_;(with_reducible refine(kV.calls k1 ((la l0 I).f0) ((la l0 I).f1) an _ A7.out).mono ?_);rintro e cn ⟨rfl,hb⟩;refine⟨_,rfl,?_⟩;replace HB:=bW HB hb;clear hb));go_roundg k1
     case measure=>have:=ch.out;omega
     case rel=>exact⟨((ak++an)++(⟨#[10]⟩:ByteArray)),(wrap64 (I+1)),(by first|rfl|(simp;done)|(simp[*];done)),(by first|rfl|(simp;done)|(simp[*];done)),H',⟨by have:=ch.out;omega⟩,⟨wZ HB⟩⟩
   ·obtain rfl:=oJ H;go_wp2;go_ret;exact rz HB
def nr.f (k:Nat) (aa:List Int) (ad:Int) (a1:Int):Option (Bool×Int):=if a1>0 then((jT.f k aa ad a1).bind fun az=>(some ((az.1==(wrap64 (a1 - 1))),az.2)))else(some (false,ad))
instance nr.mo {k a0 a1 a2}:ph (nr.f k a0 a1 a2) (nr.f (k+1) a0 a1 a2):=by unfold nr.f;infer_instance
theorem nr.calls (k:Nat) (g:Nat) (aa:List Int) (ad:Int) (a1:Int) (r1:Bool) (r2:Int) (w0 w:World) (hI:ja w0 w g aa ad) (hB:Below w0.heap.size w0 w) (h:nr.f k aa ad a1=some (r1,r2)):
  Calls Tryz.prog 26 #[.pointer (some ⟨g,0,none⟩),.int .i64 a1] w fun e w'=>e= .returned (.bool r1)∧ja w0 w' g aa r2∧Below w0.heap.size w0 w'∧oe w w' g none:=by
 have ab:=bm hI;have HK:=bm (oe.refl w g none);have HL:=bm hB.size;clear hI;have du:=bm hB.size;have HB:=bm hB;clear hB;have H:=h;clear h;unfold nr.f at H;rcases nA H with⟨bp,H⟩|⟨bp,H⟩
 ·obtain⟨⟨cp,cq⟩,A4,H⟩:=bE H;try dsimp only at H
  obtain⟨rfl,rfl⟩:=s2 H;go_enter Tryz.func26,Tryz.ntmps26;go_wp2_with (first|(go_at_call 24;(with_reducible refine(jT.calls k g aa ad a1 cp cq w0 _ ?ka ?km A4.out).mono ?_);(case ka=>exact ja.z ab);(case km=>repeat(with_reducible first|exact HB.out|apply pS|refine oG ?_ (ja.ge ab.out)));rintro e w5 ⟨rfl,hi,hb,hk⟩;replace HK:=bm (oe.trans (kZ HK) hk (.inl rfl));replace HB:=bm (hb);replace ab:=bm (hi);clear hb hk hi));go_ret;exact⟨by first|rfl|(simp[*,jY,jZ]<;>rfl),ja.z ab,wI HB (ja.ge ab.out),kZ HK⟩
 ·obtain⟨rfl,rfl⟩:=s2 H;go_enter Tryz.func26,Tryz.ntmps26;go_wp2;go_ret;exact⟨by first|rfl|(simp[*,jY,jZ]<;>rfl),ja.z ab,wI HB (ja.ge ab.out),kZ HK⟩
def pj.f (k:Nat) (aa:List Int) (ad:Int) (a1:Int):Option (Int×Int):=(nr.f k aa ad a1).bind fun al=>(if al.1=true then((some (([0,4,(-1)]:List Int):List Int)).bind fun aA=>((jT.f k aa al.2 3).bind fun ai=>(if 0≤ai.1 then(if ai.1<(aA.length:Int)then(some (rd aA ai.1,ai.2))else(none))else(none))))else((some (([1,2,2,3,3]:List Int):List Int)).bind fun aB=>((jT.f k aa al.2 5).bind fun aj=>(if 0≤aj.1 then(if aj.1<(aB.length:Int)then(some (rd aB aj.1,aj.2))else(none))else(none)))))
instance pj.mo {k a0 a1 a2}:ph (pj.f k a0 a1 a2) (pj.f (k+1) a0 a1 a2):=by unfold pj.f;infer_instance
theorem pj.calls (k:Nat) (g:Nat) (aa:List Int) (ad:Int) (a1:Int) (r1:Int) (r2:Int) (w0 w:World) (hI:ja w0 w g aa ad) (hB:Below w0.heap.size w0 w) (h:pj.f k aa ad a1=some (r1,r2)):
  Calls Tryz.prog 45 #[.pointer (some ⟨g,0,none⟩),.int .i64 a1] w fun e w'=>e= .returned (.int .i64 r1)∧ja w0 w' g aa r2∧Below w0.heap.size w0 w'∧oe w w' g none:=by
 have ab:=bm hI;have HK:=bm (oe.refl w g none);have HL:=bm hB.size;clear hI;have du:=bm hB.size;have HB:=bm hB;clear hB;have H:=h;clear h;unfold pj.f at H;obtain⟨⟨cr,aE⟩,A3,H⟩:=bE H;try dsimp only at H
 by_cases c4:cr=true
 ·subst c4;rw[if_pos rfl]at H;obtain⟨aA,bc,H⟩:=bY H;obtain⟨⟨aV,ct⟩,A5,H⟩:=bE H;try dsimp only at H
  obtain⟨dR,H⟩:=mY H;obtain⟨dS,H⟩:=mY H;obtain⟨rfl,rfl⟩:=s2 H;go_enter Tryz.func45,Tryz.ntmps45;go_wp2_with (first|(refine gB (some 7) Tryz.func26 #[.pointer (some ⟨g,0,none⟩),.int .i64 a1] rfl ?_;(with_reducible refine(nr.calls k g aa ad a1 true aE w0 _ ?ka ?km A3.out).mono ?_);(case ka=>exact ja.z ab);(case km=>repeat(with_reducible first|exact HB.out|apply pS|refine oG ?_ (ja.ge ab.out)));rintro e w8 ⟨rfl,hi,hb,hk⟩;refine⟨_,rfl,?_⟩;replace HK:=bm (oe.trans (kZ HK) hk (.inl rfl));replace HB:=bm (hb);replace ab:=bm (hi);clear hb hk hi)|((with_reducible refine gate_dst (N:=8) rfl ?_);refine Kd.R_lit (Kd.int .i64) _ 3 ?hg (N:=8) ?hd (xs:=([0,4,(-1)]:List Int)) (inner:=[.int .i64 0,.int .i64 4,.int .i64 (-1)]) (ok:=fun _=>True) (okp:=fun _=>True) ?hr ?hp (fun _ hk=>hk) trivial (Below.refl _ _) (Nat.le_refl _) (by simp) ?_;(case hd=>rfl);(case hg=>rfl);(case hr=>first|(go_simp;done)|(go_simp;rfl));(case hp=>exact(Reps.one (show Kd.M (Kd.int .i64) _ _ _ 0 [.int .i64 0] from rfl) (Reps.one (show Kd.M (Kd.int .i64) _ _ _ 4 [.int .i64 4] from rfl) (Reps.one (show Kd.M (Kd.int .i64) _ _ _ (-1) [.int .i64 (-1)] from rfl) (Reps.none _ _)))));intro dT w9 aL hb aZ au;clear aZ au;(first|rw[←bc.out]at aL|(simp only[Int.reduceToNat]at aL;rw[←bc.out]at aL));have aH:=bm (Kd.R_lower aL (qb (w:=w) (g:=g) (row:=none) (kZ HK)));replace HK:=bK HK hb;replace HB:=qY HB (ja.ge ab.out) hb;replace ab:=bm (ja.below (ja.z ab) hb);clear hb aL)|(refine gB (some 10) Tryz.func24 #[.pointer (some ⟨g,0,none⟩),.int .i64 3] rfl ?_;(with_reducible refine(jT.calls k g aa aE 3 aV ct w0 _ ?ka ?km A5.out).mono ?_);(case ka=>exact ja.z ab);(case km=>repeat(with_reducible first|exact HB.out|apply pS|refine oG ?_ (ja.ge ab.out)));rintro e cn ⟨rfl,hi,hb,hk⟩;refine⟨_,rfl,?_⟩;replace aH:=bm (Kd.R_mono (Kd.R_keep (ja.apart (show ja w0 _ g aa aE from ja.z ab) (rS aH) (by decide)) hk (fun _ h=>h.2)) (fun _ h=>h.1));replace HK:=bm (oe.trans (kZ HK) hk (.inl rfl));replace HB:=bm (hb);replace ab:=bm (hi);clear hb hk hi;obtain⟨dU,dV,cu⟩:=Kd.R_slice aH.out;subst cu;have bd:0≤(aV:Int):=nY;have bf:aV<(aA.length:Int):=nY;obtain⟨dv,cv,cw⟩:=Kd.at_int (Kd.R_reads' aH.out).2.2 aV bd bf;cases cv;replace bd:=mX bd;replace bf:=mX bf));go_ret;exact⟨by first|rfl|(simp[*,jY,jZ]<;>rfl),ja.z ab,wI HB (ja.ge ab.out),kZ HK⟩
 ·replace c4:=mN c4;subst c4;rw[if_neg nz]at H;obtain⟨aB,bg,H⟩:=bY H;obtain⟨⟨aW,cx⟩,dw,H⟩:=bE H;try dsimp only at H
  obtain⟨dx,H⟩:=mY H;obtain⟨dy,H⟩:=mY H;obtain⟨rfl,rfl⟩:=s2 H;go_enter Tryz.func45,Tryz.ntmps45;go_wp2_with (first|(refine gB (some 7) Tryz.func26 #[.pointer (some ⟨g,0,none⟩),.int .i64 a1] rfl ?_;(with_reducible refine(nr.calls k g aa ad a1 false aE w0 _ ?ka ?km A3.out).mono ?_);(case ka=>exact ja.z ab);(case km=>repeat(with_reducible first|exact HB.out|apply pS|refine oG ?_ (ja.ge ab.out)));rintro e ei ⟨rfl,hi,hb,hk⟩;refine⟨_,rfl,?_⟩;replace HK:=bm (oe.trans (kZ HK) hk (.inl rfl));replace HB:=bm (hb);replace ab:=bm (hi);clear hb hk hi)|((with_reducible refine gate_dst (N:=13) rfl ?_);refine Kd.R_lit (Kd.int .i64) _ 3 ?hg (N:=13) ?hd (xs:=([1,2,2,3,3]:List Int)) (inner:=[.int .i64 1,.int .i64 2,.int .i64 2,.int .i64 3,.int .i64 3]) (ok:=fun _=>True) (okp:=fun _=>True) ?hr ?hp (fun _ hk=>hk) trivial (Below.refl _ _) (Nat.le_refl _) (by simp) ?_;(case hd=>rfl);(case hg=>rfl);(case hr=>first|(go_simp;done)|(go_simp;rfl));(case hp=>exact(Reps.one (show Kd.M (Kd.int .i64) _ _ _ 1 [.int .i64 1] from rfl) (Reps.one (show Kd.M (Kd.int .i64) _ _ _ 2 [.int .i64 2] from rfl) (Reps.one (show Kd.M (Kd.int .i64) _ _ _ 2 [.int .i64 2] from rfl) (Reps.one (show Kd.M (Kd.int .i64) _ _ _ 3 [.int .i64 3] from rfl) (Reps.one (show Kd.M (Kd.int .i64) _ _ _ 3 [.int .i64 3] from rfl) (Reps.none _ _)))))));intro dW ej aM hb aZ au;clear aZ au;(first|rw[←bg.out]at aM|(simp only[Int.reduceToNat]at aM;rw[←bg.out]at aM));have aI:=bm (Kd.R_lower aM (qb (w:=w) (g:=g) (row:=none) (kZ HK)));replace HK:=bK HK hb;replace HB:=qY HB (ja.ge ab.out) hb;replace ab:=bm (ja.below (ja.z ab) hb);clear hb aM)|(refine gB (some 15) Tryz.func24 #[.pointer (some ⟨g,0,none⟩),.int .i64 5] rfl ?_;(with_reducible refine(jT.calls k g aa aE 5 aW cx w0 _ ?ka ?km dw.out).mono ?_);(case ka=>exact ja.z ab);(case km=>repeat(with_reducible first|exact HB.out|apply pS|refine oG ?_ (ja.ge ab.out)));rintro e ek ⟨rfl,hi,hb,hk⟩;refine⟨_,rfl,?_⟩;replace aI:=bm (Kd.R_mono (Kd.R_keep (ja.apart (show ja w0 _ g aa aE from ja.z ab) (rS aI) (by decide)) hk (fun _ h=>h.2)) (fun _ h=>h.1));replace HK:=bm (oe.trans (kZ HK) hk (.inl rfl));replace HB:=bm (hb);replace ab:=bm (hi);clear hb hk hi;obtain⟨dX,dY,cA⟩:=Kd.R_slice aI.out;subst cA;have bh:0≤(aW:Int):=nY;have bj:aW<(aB.length:Int):=nY;obtain⟨dz,cB,cC⟩:=Kd.at_int (Kd.R_reads' aI.out).2.2 aW bh bj;cases cB;replace bh:=mX bh;replace bj:=mX bj));go_ret;exact⟨by first|rfl|(simp[*,jY,jZ]<;>rfl),ja.z ab,wI HB (ja.ge ab.out),kZ HK⟩
def pE.f (k:Nat) (a0:Int) (l1:List Int):Option (Int×List Int×(List (List Int))):=(lr.f k a0 l1).bind fun aN=>(if aN=true then((jV.f k a0 l1).bind fun aF=>(some (a0,aF,([]:List (List Int)))))else(some (0,([]:List Int),([]:List (List Int)))))
instance pE.mo {k a0 a1}:ph (pE.f k a0 a1) (pE.f (k+1) a0 a1):=by unfold pE.f;infer_instance
theorem pE.calls (k:Nat) (a0:Int) (A1:Option Addr) (c1:Nat) (l1:List Int) (r1:Int) (r2:List Int) (r3:List (List Int)) (w:World) (cD:Kd.C (Kd.int .i64) w A1 l1.length l1) (cE:l1.length≤c1) (h:pE.f k a0 l1=some (r1,r2,r3)):
  Calls Tryz.prog 46 #[.int .i64 a0,.slice A1 l1.length c1] w fun e w'=>∃bD cF:Value,e= .returned (.agg #[.int .i64 r1,bD,cF])∧Kd.R (Kd.int .i64) 3 w' w.heap.size (fun _=>True) bD r2∧Kd.S (Kd.slice 3 (Kd.int .i64)) 23 w' w.heap.size (fun k_=>some k_≠(bD:Value).ownBlock) cF r3∧Below w.heap.size w w':=by
 have dZ:=Tryz.underlying26;have bF:=bm cD;have bH:=bm cE;clear cD cE;have HB:=bm (Below.refl w.heap.size w);have H:=h;clear h;unfold pE.f at H;obtain⟨aN,A3,H⟩:=bE H;try dsimp only at H
 by_cases c4:aN=true
 ·subst c4;rw[if_pos rfl]at H;obtain⟨aF,A5,H⟩:=bE H;try dsimp only at H
  obtain⟨rfl,rfl,rfl⟩:=s3 H;go_enter Tryz.func46,Tryz.ntmps46;go_wp2_with (first|(refine pN 4 #[.int .i64 0,.slice none 0 0,.slice none 0 0] 26 ?_;intro aU hg w6 ao hb;have ag:=bm (ao);have bJ:=bG HB hg;replace HB:=bW HB hb;clear hb ao hg)|(refine gB (some 7) Tryz.func68 #[.int .i64 a0,.slice A1 l1.length c1] rfl ?_;(with_reducible refine(lr.calls k a0 _ _ l1 true _ ?_ ?_ A3.out).mono ?_);exact cY bF HB;exact bH.out;rintro e w7 ⟨rfl,hb⟩;refine⟨_,rfl,?_⟩;replace ag:=bU ag hb;replace HB:=bW HB hb;clear hb)|(refine gB (some 13) Tryz.func69 #[.int .i64 a0,.slice A1 l1.length c1] rfl ?_;(with_reducible refine(jV.calls k a0 _ _ l1 aF _ ?_ ?_ A5.out).mono ?_);exact cY bF HB;exact bH.out;rintro e w8 ⟨ea,rfl,cG,hb⟩;refine⟨_,rfl,?_⟩;have bk:=rL cG HB;replace ag:=bU ag hb;replace HB:=bW HB hb;clear hb;(try clear cG);obtain⟨dA,dB,dC⟩:=Kd.R_slice bk.out;subst dC;obtain⟨cH,cI,cJ,cK,cL,cM⟩:=b3 ag));refine bodyPost_ret (results_cell_row rfl _ _ aU 26 #[.int .i64 a0,.slice dA aF.length dB,.slice none 0 0] (0,0) _ rfl (kP ag) Tryz.underlying26 rfl (by kernel_rfl)) rfl ?_;exact⟨_,_,by first|rfl|(simp[*,jY,jZ]<;>rfl),rT bk,by first|exact Kd.S_nil _ _ _ _ _|exact Kd.N_nil _ _ _ _ _|exact Kd.V_nil _ _ _ _ _|exact Kd.Q_nil _ _ _ _ _|exact Kd.R_nil _ _ _ _ _,wZ HB⟩
 ·replace c4:=mN c4;subst c4;rw[if_neg nz]at H;obtain⟨rfl,rfl,rfl⟩:=s3 H;go_enter Tryz.func46,Tryz.ntmps46;go_wp2_with (first|(refine pN 4 #[.int .i64 0,.slice none 0 0,.slice none 0 0] 26 ?_;intro aU hg cn ao hb;have ag:=bm (ao);have bJ:=bG HB hg;replace HB:=bW HB hb;clear hb ao hg)|(refine gB (some 7) Tryz.func68 #[.int .i64 a0,.slice A1 l1.length c1] rfl ?_;(with_reducible refine(lr.calls k a0 _ _ l1 false _ ?_ ?_ A3.out).mono ?_);exact cY bF HB;exact bH.out;rintro e el ⟨rfl,hb⟩;refine⟨_,rfl,?_⟩;replace ag:=bU ag hb;replace HB:=bW HB hb;clear hb;obtain⟨cN,cO,cP,cQ,cR,cS⟩:=b3 ag));refine bodyPost_ret (results_cell_row rfl _ _ aU 26 #[.int .i64 0,.slice none 0 0,.slice none 0 0] (0,0) _ rfl (kP ag) Tryz.underlying26 rfl (by kernel_rfl)) rfl ?_;exact⟨_,_,by first|rfl|(simp[*,jY,jZ]<;>rfl),by first|exact Kd.R_nil _ _ _ _ _|exact Kd.N_nil _ _ _ _ _|exact Kd.V_nil _ _ _ _ _|exact Kd.Q_nil _ _ _ _ _|exact Kd.S_nil _ _ _ _ _,by first|exact Kd.S_nil _ _ _ _ _|exact Kd.N_nil _ _ _ _ _|exact Kd.V_nil _ _ _ _ _|exact Kd.Q_nil _ _ _ _ _|exact Kd.R_nil _ _ _ _ _,wZ HB⟩
def pQ.f (a0:Int):Option (Int):=(ov.f a0 1 3).bind fun aO=>(if aO=true then(if 0≤a0 then(some (shl .i64 1 a0))else(none))else(some (-1)))
theorem pQ.calls (a0:Int) (r:Int) (w:World) (h:pQ.f a0=some r):
  Calls Tryz.prog 76 #[.int .i64 a0] w fun e w'=>e= .returned (.int .i64 r)∧Drawn0 w w':=by
 have H:=h;clear h;unfold pQ.f at H;obtain⟨aO,A2,H⟩:=bE H;try dsimp only at H
 by_cases c3:aO=true
 ·subst c3;rw[if_pos rfl]at H;obtain⟨eb,ec,H⟩:=mZ H;obtain⟨aY,aG⟩:∃j_:Int,(shl .i64 1 a0)=j_:=⟨_,rfl⟩;first|rw[aG]at H|simp only[aG]at H
  (try rw[aG]at A2);have bl:(IntKind.i64.wrap (1*2^min a0.toNat 64))=aY:=aG;have bn:a0≤64→(IntKind.i64.wrap (1*2^a0.toNat))=aY:=shl_small aG;have dD:(IntKind.i64.wrap (2^min a0.toNat 64))=aY:=by have h_:=bl;rw[Int.one_mul]at h_;exact h_
  have dE:a0≤64→(IntKind.i64.wrap (2^a0.toNat))=aY:=fun cT=>by have h_:=bn cT;rw[Int.one_mul]at h_;exact h_
  have dF:(wrap64 (1*2^min a0.toNat 64))=aY:=(i64_w _).symm.trans bl;have dG:a0≤64→(wrap64 (1*2^a0.toNat))=aY:=fun h_=>(i64_w _).symm.trans (bn h_)
  obtain rfl:=oJ H;go_enter Tryz.func76,Tryz.ntmps76;go_wp2_with (first|(refine gB (some 4) Tryz.func77 #[.int .i64 a0,.int .i64 1,.int .i64 3] rfl ?_;(with_reducible refine(ov.calls a0 1 3 true _ A2.out).mono ?_);rintro e w' ⟨rfl,⟨nd,rfl⟩⟩;refine⟨_,rfl,?_⟩));go_ret;exact⟨by first|rfl|(simp;done)|(simp only[←aG]<;>(first|rfl|simp))|(simp[*];done),by repeat(first|exact Drawn0.refl _|apply Drawn0.step)⟩
 ·replace c3:=mN c3;subst c3;rw[if_neg nz]at H;obtain rfl:=oJ H;go_enter Tryz.func76,Tryz.ntmps76;go_wp2_with (first|(refine gB (some 4) Tryz.func77 #[.int .i64 a0,.int .i64 1,.int .i64 3] rfl ?_;(with_reducible refine(ov.calls a0 1 3 false _ A2.out).mono ?_);rintro e w' ⟨rfl,⟨nd,rfl⟩⟩;refine⟨_,rfl,?_⟩));go_ret;exact rq
end Go.Proofs.YtigeaokfhnlkcaaGreatDoor.P
