import Derived.Test.YtihgpkohglcijaaGreatDoorPx0
import Derived.Test.YtihgpkohglcijaaGreatDoorPx17
namespace Go.Proofs.YtihgpkohglcijaaGreatDoor.P
open Go.RowKit Go.Proofs.YtihgpkohglcijaaGreatDoorW.PrintWords Go.Proofs.YtihgpkohglcijaaGreatDoorW.PrintLast Go.Proofs.YtihgpkohglcijaaGreatDoorW.PrintMore
attribute [local go_sem] max2_int min2_int max_two min_two max_three min_three max_four min_four   -- for this text's walks alone
set_option linter.unusedVariables false
set_option linter.unusedSimpArgs false
set_option maxHeartbeats 8000000
set_option maxRecDepth 100000
mutual
def jY.j0:Nat→ByteArray→List (wB)→Option (Int×ByteArray×Bool)
 |0,_,_=>none
 |k+1,x0,x4=>if(x0.size:Int)>4 then(if 4≤(x0.size:Int)then(if x4.length<5864062014805 then(jY.j1 k x0 (x4++ [(⟨1,x0.extract 4 x0.size⟩:wB)]))else(none))else(none))else(jY.j1 k x0 x4)
def jY.j1:Nat→ByteArray→List (wB)→Option (Int×ByteArray×Bool)
 |0,_,_=>none
 |k+1,x0,x4=>jY.l0 k x0 x4 0
def jY.l0:Nat→ByteArray→List (wB)→Int→Option (Int×ByteArray×Bool)
 |0,_,_,_=>none
 |k+1,x0,x4,x5=>if x5<(x4.length:Int)then(if x0.toList=([]:List UInt8)then(jY.l0 k x0 x4 (wrap64 (x5+1)))else(if 0≤x5 then((kT.f k ((vS x4 x5).f0) ((vS x4 x5).f1)).bind fun au=>(if au.toList=x0.toList then(some ((vS x4 x5).f0,(vS x4 x5).f1,true))else(jY.l0 k x0 x4 (wrap64 (x5+1)))))else(none)))else(some (0,(⟨#[]⟩:ByteArray),false))
end
def jY.f (k:Nat) (a0:ByteArray):Option (Int×ByteArray×Bool):=(some (([(⟨2,(⟨#[]⟩:ByteArray)⟩:wB)]:List (wB)):List (wB))).bind fun ag=>(if(a0.size:Int)>6 then(if 6≤(a0.size:Int)then(if ag.length<5864062014805 then(jY.j0 k a0 (ag++ [(⟨0,a0.extract 6 a0.size⟩:wB)]))else(none))else(none))else(jY.j0 k a0 ag))
theorem jY.jQ:∀k,(∀y0 y1,qg (jY.j0 k y0 y1) (jY.j0 (k+1) y0 y1))∧(∀y0 y1,qg (jY.j1 k y0 y1) (jY.j1 (k+1) y0 y1))∧(∀y0 y1 y2,qg (jY.l0 k y0 y1 y2) (jY.l0 (k+1) y0 y1 y2))
 |0=>⟨fun _ _=> .z (by simp only[jY.j0]),fun _ _=> .z (by simp only[jY.j1]),fun _ _ _=> .z (by simp only[jY.l0])⟩
 |k+1=>by
  have⟨i0,i1,i2⟩:=jY.jQ k;exact⟨fun _ _=>by unfold jY.j0;infer_instance,fun _ _=>by unfold jY.j1;infer_instance,fun _ _ _=>by unfold jY.l0;infer_instance⟩
instance jY.mo {k a0}:qg (jY.f k a0) (jY.f (k+1) a0):=by have⟨i0,i1,i2⟩:=jY.jQ k;unfold jY.f;infer_instance
theorem jY.calls (k:Nat) (a0:ByteArray) (r1:Int) (r2:ByteArray) (r3:Bool) (w:World) (h:jY.f k a0=some (r1,r2,r3)):
  Calls Tryz.prog 46 #[.string a0] w fun e w'=>e= .returned (.tuple #[.agg #[.int .i64 r1,.string r2],.bool r3])∧Below w.heap.size w w':=by
 have e0:=Tryz.underlying58;have HB:=bm (Below.refl w.heap.size w);have H:=h;clear h;unfold jY.f at H;obtain⟨ag,bc⟩:∃y_:List (wB),y_=(([(⟨2,(⟨#[]⟩:ByteArray)⟩:wB)]:List (wB))):=⟨_,rfl⟩;rw[←bc]at H
 have bz:=bm bc;clear bc;have cF:=bm H;clear H;go_enter Tryz.func46,Tryz.ntmps46;go_upto_if 10 with(first|(refine rz 2 #[.int .i64 0,.string (⟨#[]⟩:ByteArray)] 58 ?_;intro ab hg w3 cy hb;have j:=bm (cy);have ez:=bG HB hg;replace HB:=bW HB hb;clear hb cy hg)|((with_reducible refine gate_dst (N:=7) rfl ?_);refine Kd.R_lit Dj _ 58 ?hg (N:=7) ?hd (xs:=([(⟨2,(⟨#[]⟩:ByteArray)⟩:wB)]:List (wB))) (inner:=[.int .i64 2,.string (⟨#[]⟩:ByteArray)]) (ok:=fun _=>True) (okp:=fun _=>True) ?hr ?hp (fun _ hk=>hk) trivial (Below.refl _ _) (Nat.le_refl _) (by simp) ?_;(case hd=>rfl);(case hg=>rfl);(case hr=>first|(go_simp;done)|(go_simp;rfl));(case hp=>exact(Reps.c2 (show Kd.M Dj _ _ _ (⟨2,(⟨#[]⟩:ByteArray)⟩:wB) [.int .i64 2,.string (⟨#[]⟩:ByteArray)] from(zY _ _ _ (⟨2,(⟨#[]⟩:ByteArray)⟩:wB))) (Reps.none _ _)));intro dn w4 bA hb eA cG;clear eA cG;(first|rw[←bz.out]at bA|(simp only[Int.reduceToNat]at bA;rw[←bz.out]at bA));have aZ:=bm (Kd.R_lower (Kd.R_newB bA (g:=ab) (o:=.cells #[.int .i64 0,.string (⟨#[]⟩:ByteArray)] 58 (0,0)) (kS j)) (below_size (wZ HB)));replace j:=bU j hb;replace HB:=bW HB hb;clear hb bA))
 (try simp only[Act.put,qA,qB,qC]);go_cut [4] (fun v4 wc=>∃(kq:Nat) (aV:List (wB)),jX (jY.j0 kq a0 aV=some (r1,r2,r3))∧jX (kq≤k)∧jX (Kd.R Dj 58 wc w.heap.size (fun k_=>k_≠ab) v4 aV)∧rG wc ab #[.int .i64 0,.string (⟨#[]⟩:ByteArray)] 58∧jX (Below w.heap.size w wc))
 case first=>
  have H:=cF.out;clear cF;rcases iT H with⟨c6,H⟩|⟨c6,H⟩
  ·have aA:=vC c6;have cz:decide (6<a0.size)=true:=vC (by omega);clear c6;(first|rw[aA]|(simp only[i64_w,i32_w];rw[aA])|skip);obtain⟨dp,e1,H⟩:=vF H;obtain⟨c8,H⟩:=iN H;have dq:=bm c8;clear c8;obtain⟨cA,bd⟩:∃y_:List (wB),y_=(ag++ [(⟨0,a0.extract 6 a0.size⟩:wB)]):=⟨_,rfl⟩;rw[←bd]at H
   have cH:=bm bd;clear bd;have H':=bm H;clear H;go_wp2_with (first|((with_reducible refine gate_builtin (b:=.append) (xs:= #[.tmp 11,.tmp 15]) rfl ?_);at_builtin;refine Kd.R_append Dj (w0:=w) w.heap.size rfl (.tmp 11) (.tmp 15) 50 58 (.agg #[(.int .i64 0),(.string ⟨#[]⟩)]) 24 rfl Tryz.underlying50 Ds rfl (by decide) (by omega) dn ag (⟨0,a0.extract 6 a0.size⟩:wB) [.int .i64 0,.string (a0.extract 6 a0.size)] (fun k_=>k_≠ab) (fun _=>False) rfl rfl ?aP (fun _ hk=>hk.elim) ?aF ?aO ?aB ?aS ?aL ?_;(case aP=>exact zY _ _ _ (⟨0,a0.extract 6 a0.size⟩:wB));(case aB=>exact(wZ HB));(case aF=>exact(fun k_ hk=>Kd.freshB (g:=ab) (o:=.cells #[.int .i64 0,.string (⟨#[]⟩:ByteArray)] 58 (0,0)) (kS j) k_ hk));(case aO=>exact(by(repeat apply Kd.RS);exact Kd.R_mono aZ.out (fun _ hk=>hk.2)));(case aS=>exact(below_size (wZ HB)));(case aL=>have:=dq.out;omega);intro e2 w9 ho hb hg cI;rw[←cH.out]at ho;replace j:=bN j hg (Kd.R_away aZ.out (fun _ hk=>hk.2));replace HB:=bm (hb);have cJ:=bm (ho);clear aZ;clear ho hb hg cI));go_meet
   case rel=>exact⟨_,(cA),H',⟨by first|omega|exact Nat.le_refl _⟩,⟨by(repeat apply Kd.RS);exact cJ.out⟩,⟨kS j⟩,⟨wZ HB⟩⟩
  ·have aA:=vB c6;have cz:decide (6<a0.size)=false:=vB (by omega);clear c6;(first|rw[aA]|(simp only[i64_w,i32_w];rw[aA])|skip);have H':=bm H;clear H;go_wp2;go_meet
   case rel=>exact⟨_,(ag),H',⟨by first|omega|exact Nat.le_refl _⟩,⟨by(repeat apply Kd.RS);exact Kd.R_mono aZ.out (fun _ hk=>hk.2)⟩,⟨kS j⟩,⟨wZ HB⟩⟩
 case rest=>
  clear cF;obtain⟨kq,aV,HA,bp,wP,j,HB⟩:=hcut;cases kq with
  |zero=>exact absurd HA.out (by simp[jY.j0])
  |succ JY=>
   have H:=HA.out;clear HA;simp only[jY.j0]at H;have bB:=bm H;clear H;go_upto_if 19 with(fail)
   go_cut [4] (fun v4 wc=>∃(kq:Nat) (ah:List (wB)),jX (jY.j1 kq a0 ah=some (r1,r2,r3))∧jX (kq≤JY)∧jX (Kd.R Dj 58 wc w.heap.size (fun k_=>k_≠ab) v4 ah)∧rG wc ab #[.int .i64 0,.string (⟨#[]⟩:ByteArray)] 58∧jX (Below w.heap.size w wc))
   case first=>
    have H:=bB.out;clear bB;rcases iT H with⟨ay,H⟩|⟨ay,H⟩
    ·have al:=vC ay;have bf:decide (4<a0.size)=true:=vC (by omega);clear ay;(first|rw[al]|(simp only[i64_w,i32_w];rw[al])|skip);obtain⟨eB,eC,H⟩:=vF H;obtain⟨dr,H⟩:=iN H;have cL:=bm dr;clear dr;obtain⟨cB,bg⟩:∃y_:List (wB),y_=(aV++ [(⟨1,a0.extract 4 a0.size⟩:wB)]):=⟨_,rfl⟩;rw[←bg]at H
     have cM:=bm bg;clear bg;have H':=bm H;clear H;go_wp2_with (first|((with_reducible refine gate_builtin (b:=.append) (xs:= #[.tmp 20,.tmp 24]) rfl ?_);at_builtin;refine Kd.R_append Dj (w0:=w) w.heap.size rfl (.tmp 20) (.tmp 24) 50 58 (.agg #[(.int .i64 0),(.string ⟨#[]⟩)]) 24 rfl Tryz.underlying50 Ds rfl (by decide) (by omega) u4 aV (⟨1,a0.extract 4 a0.size⟩:wB) [.int .i64 1,.string (a0.extract 4 a0.size)] (fun k_=>k_≠ab) (fun _=>False) rfl rfl ?aP (fun _ hk=>hk.elim) ?aF ?aO ?aB ?aS ?aL ?_;(case aP=>exact zY _ _ _ (⟨1,a0.extract 4 a0.size⟩:wB));(case aB=>exact(wZ HB));(case aF=>exact(fun k_ hk=>Kd.freshB (g:=ab) (o:=.cells #[.int .i64 0,.string (⟨#[]⟩:ByteArray)] 58 (0,0)) (kS j) k_ hk));(case aO=>exact(rS wP));(case aS=>exact(below_size (wZ HB)));(case aL=>have:=cL.out;omega);intro e3 fp ho hb hg cI;rw[←cM.out]at ho;replace j:=bN j hg (Kd.R_away wP.out (fun _ hk=>hk));replace HB:=bm (hb);have cN:=bm (ho);clear wP;clear ho hb hg cI));go_meet
     case rel=>exact⟨_,(cB),H',⟨by have:=bp.out;first|omega|exact Nat.le_refl _⟩,⟨by(repeat apply Kd.RS);exact cN.out⟩,⟨kS j⟩,⟨wZ HB⟩⟩
    ·have al:=vB ay;have bf:decide (4<a0.size)=false:=vB (by omega);clear ay;(first|rw[al]|(simp only[i64_w,i32_w];rw[al])|skip);have H':=bm H;clear H;go_wp2;go_meet
     case rel=>exact⟨_,(aV),H',⟨by have:=bp.out;first|omega|exact Nat.le_refl _⟩,⟨by(repeat apply Kd.RS);exact wP.out⟩,⟨kS j⟩,⟨wZ HB⟩⟩
   case rest=>
    clear bB;obtain⟨kq,ah,HA,cr,wP,j,HB⟩:=hcut;cases kq with
    |zero=>exact absurd HA.out (by simp[jY.j1])
    |succ JZ=>
     have H:=HA.out;clear HA;simp only[jY.j1]at H;have H':=bm H;clear H;go_wp2;go_loopg [5] JZ (fun kq v5 w'=>∃(J:Int) (ai:Int) (aj:ByteArray),v5= .int .i64 J∧jX (jY.l0 kq a0 ah J=some (r1,r2,r3))∧jX (kq≤JZ)∧jX (Kd.R Dj 58 w' w.heap.size (fun k_=>k_≠ab) u4 ah)∧jX (w'.heap[ab]?=some (.cells #[.int .i64 ai,.string aj] 58 (0,0)))∧jX (Below w.heap.size w w'))
     case atStart=>exact⟨(0),(0),((⟨#[]⟩:ByteArray)),(by first|rfl|(simp;done)|(simp[*];done)),H',⟨Nat.le_refl _⟩,⟨by(repeat apply Kd.RS);exact wP.out⟩,⟨kS j⟩,⟨wZ HB⟩⟩
     case round=>
      clear H';obtain⟨J,ai,aj,rfl,HA,ct,wP,j,HB⟩:=hrel;cases gk with
      |zero=>exact absurd HA.out (by simp[jY.l0])
      |succ k3=>
       have H:=HA.out;clear HA;simp only[jY.l0]at H;rcases vG H with⟨cO,H⟩|⟨cO,H⟩
       ·rcases iT H with⟨aC,H⟩|⟨aC,H⟩
        ·obtain⟨cP,cQ⟩:=vW aC;clear aC;have H':=bm H;clear H;obtain⟨e4,e6,ds⟩:=Kd.R_slice wP.out;subst ds;go_wp2;go_roundg k3
         case measure=>have:=bp.out;have:=cr.out;have:=ct.out;omega
         case rel=>exact⟨(wrap64 (J+1)),(ai),(aj),(by first|rfl|(simp;done)|(simp[*];done)),H',⟨by have:=bp.out;have:=cr.out;have:=ct.out;omega⟩,⟨by(repeat apply Kd.RS);exact wP.out⟩,⟨kS j⟩,⟨wZ HB⟩⟩
        ·obtain⟨cP,cQ⟩:=vV aC;obtain⟨eD,H⟩:=vE H;obtain⟨au,du,H⟩:=bE H;try dsimp only at H
         rcases iT H with⟨a6,H⟩|⟨a6,H⟩
         ·obtain⟨bF,cR⟩:=vW a6;clear a6;obtain⟨rfl,rfl,rfl⟩:=s3 H;obtain⟨e7,e8,dv⟩:=Kd.R_slice wP.out;subst dv;have aD:0≤(J:Int):=pG;have aE:J<(ah.length:Int):=pG;obtain⟨bH,bJ,bO,bT⟩:=Bu (Kd.R_reads' wP.out).2.2 J aD aE;cases bJ;replace aD:=vD aD;replace aE:=vD aE;go_wp2_with (first|(go_at_call 95;(with_reducible refine(kT.calls k3 ((vS ah J).f0) ((vS ah J).f1) au _ du.out).mono ?_);rintro e fq ⟨rfl,hb⟩;replace wP:=bR wP hb;replace j:=bU j hb;replace HB:=bW HB hb;clear hb;have bV:0≤(J:Int):=pG;have bZ:J<(ah.length:Int):=pG;obtain⟨cS,dw,dx,dy⟩:=Bu (Kd.R_reads' wP.out).2.2 J bV bZ;obtain rfl:bH=cS:=(by injection dw);replace bV:=vD bV;replace bZ:=vD bZ;obtain⟨dz,dA,dB,dC⟩:=b2 j));refine bodyPost_ret (results_ct rfl _ _ ab 58 #[.int .i64 ((vS ah J).f0),.string ((vS ah J).f1)] (0,0) _ rfl (kP j) Tryz.underlying58 rfl (by kernel_rfl)) rfl ?_;exact vZ HB
         ·obtain⟨bF,cR⟩:=vV a6;have H':=bm H;clear H;obtain⟨e9,fa,dD⟩:=Kd.R_slice wP.out;subst dD;have aD:0≤(J:Int):=pG;have aE:J<(ah.length:Int):=pG;obtain⟨bH,bJ,bO,bT⟩:=Bu (Kd.R_reads' wP.out).2.2 J aD aE;cases bJ;replace aD:=vD aD;replace aE:=vD aE;go_wp2_with (first|(go_at_call 95;(with_reducible refine(kT.calls k3 ((vS ah J).f0) ((vS ah J).f1) au _ du.out).mono ?_);rintro e fr ⟨rfl,hb⟩;replace wP:=bR wP hb;replace j:=bU j hb;replace HB:=bW HB hb;clear hb));go_roundg k3
          case measure=>have:=bp.out;have:=cr.out;have:=ct.out;omega
          case rel=>exact⟨(wrap64 (J+1)),(ai),(aj),(by first|rfl|(simp;done)|(simp[*];done)),H',⟨by have:=bp.out;have:=cr.out;have:=ct.out;omega⟩,⟨by(repeat apply Kd.RS);exact wP.out⟩,⟨kS j⟩,⟨wZ HB⟩⟩
       ·obtain⟨rfl,rfl,rfl⟩:=s3 H;obtain⟨fb,fc,dE⟩:=Kd.R_slice wP.out;subst dE;obtain⟨dF,dG,dH,dI⟩:=b2 j;go_wp2;refine bodyPost_ret (results_ct rfl _ _ ab 58 #[.int .i64 0,.string (⟨#[]⟩:ByteArray)] (0,0) _ rfl (kP j) Tryz.underlying58 rfl (by kernel_rfl)) rfl ?_;exact vZ HB
def pV.f (a0:Int) (a1:Int):Option (Int):=if 0≤a1 then(some (Int.tmod (shr .i64 a0 a1) 2))else(none)
theorem pV.calls (a0:Int) (a1:Int) (r:Int) (w:World) (h:pV.f a0 a1=some r):
  Calls Tryz.prog 107 #[.int .i64 a0,.int .i64 a1] w fun e w'=>e= .returned (.int .i64 r)∧Drawn0 w w':=by
 have H:=h;clear h;unfold pV.f at H;obtain⟨cC,fe,H⟩:=vF H;obtain⟨dJ,a8⟩:∃j_:Int,(shr .i64 a0 a1)=j_:=⟨_,rfl⟩;first|rw[a8]at H|simp only[a8]at H
 have eE:(a0/2^min a1.toNat 64)=dJ:=a8;have eF:a1≤64→(a0/2^a1.toNat)=dJ:=shr_small a8;obtain rfl:=vU H;go_enter Tryz.func107,Tryz.ntmps107;go_wp2;go_ret;exact⟨by first|rfl|(simp;done)|(simp only[←a8]<;>(first|rfl|simp))|(simp[*];done),by repeat(first|exact Drawn0.refl _|apply Drawn0.step)⟩
def pC.l0:Nat→Int→Int→Int→Int→Option (Int)
 |0,_,_,_,_=>none
 |k+1,x0,x1,x5,x6=>if x6<8 then((pV.f x0 x6).bind fun av=>((pV.f x1 x6).bind fun aw=>(if 0≤x6 then(pC.l0 k x0 x1 (wrap64 (x5+(shl .i64 (wrap64 (av*aw)) x6))) (wrap64 (x6+1)))else(none))))else(some x5)
def pC.f (k:Nat) (a0:Int) (a1:Int):Option (Int):=pC.l0 k a0 a1 0 0
theorem pC.jQ:∀k,(∀y0 y1 y2 y3,qg (pC.l0 k y0 y1 y2 y3) (pC.l0 (k+1) y0 y1 y2 y3))
 |0=>fun _ _ _ _=> .z (by simp only[pC.l0])
 |k+1=>by
  have i0:=pC.jQ k;exact fun _ _ _ _=>by unfold pC.l0;infer_instance
instance pC.mo {k a0 a1}:qg (pC.f k a0 a1) (pC.f (k+1) a0 a1):=by have i0:=pC.jQ k;unfold pC.f;infer_instance
theorem pC.calls (k:Nat) (a0:Int) (a1:Int) (r:Int) (w:World) (h:pC.f k a0 a1=some r):
  Calls Tryz.prog 54 #[.int .i64 a0,.int .i64 a1] w fun e w'=>e= .returned (.int .i64 r)∧Drawn0 w w':=by
 have H:=h;clear h;unfold pC.f at H;have H':=bm H;clear H;go_enter Tryz.func54,Tryz.ntmps54;go_wp2;go_loopg [5,6] k (fun kq v5 v6 w'=>∃(bj:Int) (ae:Int),v5= .int .i64 bj∧v6= .int .i64 ae∧jX (pC.l0 kq a0 a1 bj ae=some r)∧jX (kq≤k)∧Drawn0 w w')
 case atStart=>exact⟨(0),(0),(by first|rfl|(simp;done)|(simp[*];done)),(by first|rfl|(simp;done)|(simp[*];done)),H',⟨Nat.le_refl _⟩,by repeat(first|exact Drawn0.refl _|apply Drawn0.step)⟩
 case round=>
  clear H';obtain⟨bj,ae,rfl,rfl,HA,dK,⟨m1,rfl⟩⟩:=hrel;cases gk with
  |zero=>exact absurd HA.out (by simp[pC.l0])
  |succ k1=>
   have H:=HA.out;clear HA;simp only[pC.l0]at H;rcases vG H with⟨cC,H⟩|⟨cC,H⟩
   ·obtain⟨av,A4,H⟩:=bE H;try dsimp only at H
    obtain⟨aw,A5,H⟩:=bE H;try dsimp only at H
    obtain⟨aA,cz,H⟩:=vF H;obtain⟨b0,aG⟩:∃j_:Int,(shl .i64 (wrap64 (av*aw)) ae)=j_:=⟨_,rfl⟩;first|rw[aG]at H|simp only[aG]at H
    (try rw[aG]at A4);(try rw[aG]at A5);have cT:(IntKind.i64.wrap ((wrap64 (av*aw))*2^min ae.toNat 64))=b0:=aG;have cU:ae≤64→(IntKind.i64.wrap ((wrap64 (av*aw))*2^ae.toNat))=b0:=shl_small aG;have eG:(wrap64 ((wrap64 (av*aw))*2^min ae.toNat 64))=b0:=(i64_w _).symm.trans cT;have eH:ae≤64→(wrap64 ((wrap64 (av*aw))*2^ae.toNat))=b0:=fun h_=>(i64_w _).symm.trans (cU h_)
    have H':=bm H;clear H;go_wp2_with (first|(refine gB (some 14) Tryz.func107 #[.int .i64 a0,.int .i64 ae] rfl ?_;(with_reducible refine(pV.calls a0 ae av _ A4.out).mono ?_);rintro e w' ⟨rfl,⟨nd,rfl⟩⟩;refine⟨_,rfl,?_⟩)|(refine gB (some 17) Tryz.func107 #[.int .i64 a1,.int .i64 ae] rfl ?_;(with_reducible refine(pV.calls a1 ae aw _ A5.out).mono ?_);rintro e w' ⟨rfl,⟨nd,rfl⟩⟩;refine⟨_,rfl,?_⟩));go_roundg k1
    case measure=>have:=dK.out;omega
    case rel=>exact⟨(wrap64 (bj+(b0))),(wrap64 (ae+1)),(by first|rfl|(simp;done)|(simp only[←aG]<;>(first|rfl|simp))|(simp[*];done)),(by first|rfl|(simp;done)|(simp[*];done)),H',⟨by have:=dK.out;omega⟩,by repeat(first|exact Drawn0.refl _|apply Drawn0.step)⟩
   ·obtain rfl:=vU H;go_wp2;go_ret;exact vY
theorem qw.Bw (x y:Int):0≤shl .u64 x y:=by
 unfold shl;rw[show IntKind.u64.wrap (x*2^min y.toNat IntKind.u64.bits)=(x*2^min y.toNat IntKind.u64.bits)%18446744073709551616 from by simp[IntKind.wrap,IntKind.bits,IntKind.signed]];exact Int.emod_nonneg _ (by decide)
def qw.f (a0:Int):Option (Int):=if 0≤a0 then(some (wrap64 ((shl .i64 1 (shl .u64 1 a0)) - 1)))else(none)
theorem qw.calls (a0:Int) (r:Int) (w:World) (h:qw.f a0=some r):
  Calls Tryz.prog 105 #[.int .i64 a0] w fun e w'=>e= .returned (.int .i64 r)∧Drawn0 w w':=by
 have H:=h;clear h;unfold qw.f at H;obtain⟨ff,fg,H⟩:=vF H;obtain rfl:=vU H;clear H;have p:=qw.Bw 1 a0;obtain⟨bq,b1⟩:∃j_:Int,(shl .u64 1 a0)=j_:=⟨_,rfl⟩;rw[b1]at p⊢;have cV:(IntKind.u64.wrap (1*2^min a0.toNat 64))=bq:=b1;have eI:(IntKind.u64.wrap (2^min a0.toNat 64))=bq:=by have h_:=cV;rw[Int.one_mul]at h_;exact h_
 have fs:=vD p;have ft:decide (0≤bq)=true:=vC p;have fu:decide (bq<0)=false:=vB (by omega)
 have e5:wrap64 (2^min bq.toNat 64)=shl .i64 1 bq:=by
  unfold shl;rw[i64_w,Int.one_mul];rfl
 have E5:=bm e5;clear b1 p e5;go_enter Tryz.func105,Tryz.ntmps105;go_wp2;go_ret;rw[←E5.out];exact⟨rfl,Drawn0.refl _⟩
def qo.f (k:Nat) (a0:Int) (a1:Int):Option (Int):=(pC.f k a0 a1).bind fun ba=>(some (wrap64 ((wrap64 (a0+a1)) - ba)))
instance qo.mo {k a0 a1}:qg (qo.f k a0 a1) (qo.f (k+1) a0 a1):=by unfold qo.f;infer_instance
theorem qo.calls (k:Nat) (a0:Int) (a1:Int) (r:Int) (w:World) (h:qo.f k a0 a1=some r):
  Calls Tryz.prog 111 #[.int .i64 a0,.int .i64 a1] w fun e w'=>e= .returned (.int .i64 r)∧Drawn0 w w':=by
 have H:=h;clear h;unfold qo.f at H;obtain⟨ba,A3,H⟩:=bE H;try dsimp only at H
 obtain rfl:=vU H;go_enter Tryz.func111,Tryz.ntmps111;go_wp2_with (first|(refine gB (some 10) Tryz.func54 #[.int .i64 a0,.int .i64 a1] rfl ?_;(with_reducible refine(pC.calls k a0 a1 ba _ A3.out).mono ?_);rintro e w' ⟨rfl,⟨nd,rfl⟩⟩;refine⟨_,rfl,?_⟩));go_ret;exact vY
mutual
def jR.j0:Nat→Int→ByteArray→Int→Int→Bool→Option (Int×Int)
 |0,_,_,_,_,_=>none
 |k+1,x0,x1,x2,x8,x38=>if x38=true then(jR.l0 k x0 x1 x2 0 0)else(if 0≤x2 then(if x2<(x1.size:Int)then(if(bt x1 x2)=33 then((jR.f k x0 x1 (wrap64 (x2+1))).bind fun bh=>(if bh.2<0 then(some ((-1),(-1)))else(some (wrap64 (x8 - bh.1),bh.2))))else(if(bt x1 x2)=40 then((jR.f k x0 x1 (wrap64 (x2+1))).bind fun ar=>(if ar.2<0 then(jR.j2 k x0 x1 x8 ar.1 ar.2 true)else(jR.j2 k x0 x1 x8 ar.1 ar.2 (decide (ar.2≥(x1.size:Int))))))else(some ((-1),(-1)))))else(none))else(none))
def jR.l0:Nat→Int→ByteArray→Int→Int→Int→Option (Int×Int)
 |0,_,_,_,_,_=>none
 |k+1,x0,x1,x2,x9,x10=>if 0≤x0 then(if x10<(shl .i64 1 x0)then(if 0≤x2 then(if x2<(x1.size:Int)then(if 0≤x10 then(jR.l0 k x0 x1 x2 (wrap64 (x9+(shl .i64 (Int.tmod (shr .i64 x10 (((bt x1 x2) - 97)%256)) 2) x10))) (wrap64 (x10+1)))else(none))else(none))else(none))else(some (x9,wrap64 (x2+1))))else(none)
def jR.j2:Nat→Int→ByteArray→Int→Int→Int→Bool→Option (Int×Int)
 |0,_,_,_,_,_,_=>none
 |k+1,x0,x1,x8,zK,x14,Jo=>if Jo=true then(some ((-1),(-1)))else((jR.f k x0 x1 (wrap64 (x14+1))).bind fun af=>(if af.2<0 then(jR.j3 k x1 x8 zK x14 af.1 af.2 true)else(if af.2≥(x1.size:Int)then(jR.j3 k x1 x8 zK x14 af.1 af.2 true)else(if 0≤af.2 then(if af.2<(x1.size:Int)then(jR.j3 k x1 x8 zK x14 af.1 af.2 ((bt x1 af.2) !=41))else(none))else(none)))))
def jR.j3:Nat→ByteArray→Int→Int→Int→Int→Int→Bool→Option (Int×Int)
 |0,_,_,_,_,_,_,_=>none
 |k+1,x1,x8,zK,x14,x15,x16,Jp=>if Jp=true then(some ((-1),(-1)))else(if 0≤x14 then(if x14<(x1.size:Int)then(if(bt x1 x14)=38 then((pC.f k zK x15).bind fun b4=>(some (b4,wrap64 (x16+1))))else(if(bt x1 x14)=124 then((qo.f k zK x15).bind fun b5=>(some (b5,wrap64 (x16+1))))else(if(bt x1 x14)=62 then((qo.f k (wrap64 (x8 - zK)) x15).bind fun b6=>(some (b6,wrap64 (x16+1))))else(some ((-1),(-1))))))else(none))else(none))
def jR.f:Nat→Int→ByteArray→Int→Option (Int×Int)
 |0,_,_,_=>none
 |k+1,a0,a1,a2=>if a2≥(a1.size:Int)then(some ((-1),(-1)))else((qw.f a0).bind fun ad=>(if 0≤a2 then(if a2<(a1.size:Int)then(if(bt a1 a2)=49 then(some (ad,wrap64 (a2+1)))else(if(bt a1 a2)=48 then(some (0,wrap64 (a2+1)))else(if(bt a1 a2)≥97 then(jR.j0 k a0 a1 a2 ad (decide ((((bt a1 a2) - 97)%256)<a0)))else(jR.j0 k a0 a1 a2 ad false))))else(none))else(none)))
end
theorem jR.jQ:∀k,(∀y0 y1 y2,qg (jR.f k y0 y1 y2) (jR.f (k+1) y0 y1 y2))∧(∀y0 y1 y2 y3 y4,qg (jR.j0 k y0 y1 y2 y3 y4) (jR.j0 (k+1) y0 y1 y2 y3 y4))∧(∀y0 y1 y2 y3 y4,qg (jR.l0 k y0 y1 y2 y3 y4) (jR.l0 (k+1) y0 y1 y2 y3 y4))∧(∀y0 y1 y2 y3 y4 y5,qg (jR.j2 k y0 y1 y2 y3 y4 y5) (jR.j2 (k+1) y0 y1 y2 y3 y4 y5))∧(∀y0 y1 y2 y3 y4 y5 y6,qg (jR.j3 k y0 y1 y2 y3 y4 y5 y6) (jR.j3 (k+1) y0 y1 y2 y3 y4 y5 y6))
 |0=>⟨fun _ _ _=> .z (by simp only[jR.f]),fun _ _ _ _ _=> .z (by simp only[jR.j0]),fun _ _ _ _ _=> .z (by simp only[jR.l0]),fun _ _ _ _ _ _=> .z (by simp only[jR.j2]),fun _ _ _ _ _ _ _=> .z (by simp only[jR.j3])⟩
 |k+1=>by
  have⟨i0,i1,i2,i3,i4⟩:=jR.jQ k;exact⟨fun _ _ _=>by unfold jR.f;infer_instance,fun _ _ _ _ _=>by unfold jR.j0;infer_instance,fun _ _ _ _ _=>by unfold jR.l0;infer_instance,fun _ _ _ _ _ _=>by unfold jR.j2;infer_instance,fun _ _ _ _ _ _ _=>by unfold jR.j3;infer_instance⟩
instance jR.mo {k a0 a1 a2}:qg (jR.f k a0 a1 a2) (jR.f (k+1) a0 a1 a2):=(jR.jQ k).1 a0 a1 a2
theorem jR.calls (k:Nat):∀(a0:Int) (a1:ByteArray) (a2:Int) (r1:Int) (r2:Int) (w:World) (h:jR.f k a0 a1 a2=some (r1,r2)),
  Calls Tryz.prog 109 #[.int .i64 a0,.string a1,.int .i64 a2] w fun e w'=>e= .returned (.tuple #[.int .i64 r1,.int .i64 r2])∧Drawn0 w w':=by
 induction k using Nat.strongRecOn with
 | _ k ih=>
 intro a0 a1 a2 r1 r2 w h;cases k with
 |zero=>exact absurd h (by simp[jR.f])
 |succ k=>
 simp only[jR.f]at h;have H:(if a2≥(a1.size:Int)then(some ((-1),(-1)))else((qw.f a0).bind fun ad=>(if 0≤a2 then(if a2<(a1.size:Int)then(if(bt a1 a2)=49 then(some (ad,wrap64 (a2+1)))else(if(bt a1 a2)=48 then(some (0,wrap64 (a2+1)))else(if(bt a1 a2)≥97 then(jR.j0 k a0 a1 a2 ad (decide ((((bt a1 a2) - 97)%256)<a0)))else(jR.j0 k a0 a1 a2 ad false))))else(none))else(none))))=some (r1,r2):=h;clear h;rcases vG H with⟨dL,H⟩|⟨dL,H⟩
 ·obtain⟨rfl,rfl⟩:=s2 H;go_enter Tryz.func109,Tryz.ntmps109;go_wp2;go_ret2;exact vY
 ·obtain⟨ad,A5,H⟩:=bE H;try dsimp only at H
  obtain⟨aA,H⟩:=vE H;obtain⟨dp,H⟩:=vE H;rcases iT H with⟨c9,H⟩|⟨c9,H⟩
  ·obtain⟨dM,dN⟩:=vW c9;clear c9;obtain⟨rfl,rfl⟩:=s2 H;go_enter Tryz.func109,Tryz.ntmps109;go_wp2_with (first|(refine gB (some 22) Tryz.func105 #[.int .i64 a0] rfl ?_;(with_reducible refine(qw.calls a0 ad _ A5.out).mono ?_);rintro e w' ⟨rfl,⟨nd,rfl⟩⟩;refine⟨_,rfl,?_⟩;have p8:0≤(a2:Int):=pG;have q8:a2<(a1.size:Int):=pG;have dO:=bt_at a1 a2;replace p8:=vD p8;replace q8:=vD q8));go_ret2;exact vY
  ·obtain⟨dM,dN⟩:=vV c9;rcases iT H with⟨ay,H⟩|⟨ay,H⟩
   ·obtain⟨al,bf⟩:=vW ay;clear ay;obtain⟨rfl,rfl⟩:=s2 H;go_enter Tryz.func109,Tryz.ntmps109;go_wp2_with (first|(refine gB (some 22) Tryz.func105 #[.int .i64 a0] rfl ?_;(with_reducible refine(qw.calls a0 ad _ A5.out).mono ?_);rintro e w' ⟨rfl,⟨nd,rfl⟩⟩;refine⟨_,rfl,?_⟩;have p8:0≤(a2:Int):=pG;have q8:a2<(a1.size:Int):=pG;have dO:=bt_at a1 a2;replace p8:=vD p8;replace q8:=vD q8;have b7:0≤(a2:Int):=pG;have b8:a2<(a1.size:Int):=pG;have dP:=bt_at a1 a2;replace b7:=vD b7;replace b8:=vD b8));go_ret2;exact vY
   ·obtain⟨al,bf⟩:=vV ay;have b9:=bm H;clear H;go_enter Tryz.func109,Tryz.ntmps109;go_upto_region 8 with(first|(refine gB (some 22) Tryz.func105 #[.int .i64 a0] rfl ?_;(with_reducible refine(qw.calls a0 ad _ A5.out).mono ?_);rintro e w' ⟨rfl,⟨nd,rfl⟩⟩;refine⟨_,rfl,?_⟩;have p8:0≤(a2:Int):=pG;have q8:a2<(a1.size:Int):=pG;have dO:=bt_at a1 a2;replace p8:=vD p8;replace q8:=vD q8;have b7:0≤(a2:Int):=pG;have b8:a2<(a1.size:Int):=pG;have dP:=bt_at a1 a2;replace b7:=vD b7;replace b8:=vD b8))
    (try simp only[Act.put,qA,qB,qC]);go_cut [38] (fun eJ wc=>∃(kq:Nat) (az:Bool),eJ= .bool az∧jX (jR.j0 kq a0 a1 a2 ad az=some (r1,r2))∧jX (kq≤k)∧Drawn0 w wc)
    case first=>
     have H:=b9.out;clear b9;rcases vG H with⟨aH,H⟩|⟨aH,H⟩
     ·(first|rw[aH]|(simp only[i64_w,i32_w];rw[aH])|skip);have H':=bm H;clear H;have cb:0≤(a2:Int):=pG;have cc:a2<(a1.size:Int):=pG;have dQ:=bt_at a1 a2;replace cb:=vD cb;replace cc:=vD cc;have dR:0≤(a2:Int):=pG;have dS:a2<(a1.size:Int):=pG;have fh:=bt_at a1 a2;replace dR:=vD dR;replace dS:=vD dS;go_wp2;go_meet
      case rel=>exact⟨_,(decide ((((bt a1 a2) - 97)%256)<a0)),(by first|rfl|(simp;done)|(simp[*];done)),H',⟨by first|omega|exact Nat.le_refl _⟩,by repeat(first|exact Drawn0.refl _|apply Drawn0.step)⟩
     ·(first|rw[aH]|(simp only[i64_w,i32_w];rw[aH])|skip);have H':=bm H;clear H;have cb:0≤(a2:Int):=pG;have cc:a2<(a1.size:Int):=pG;have dQ:=bt_at a1 a2;replace cb:=vD cb;replace cc:=vD cc;go_wp2;go_meet
      case rel=>exact⟨_,(false),(by first|rfl|(simp;done)|(simp[*];done)),H',⟨by first|omega|exact Nat.le_refl _⟩,by repeat(first|exact Drawn0.refl _|apply Drawn0.step)⟩
    case rest=>
     clear b9;obtain⟨kq,az,rfl,HA,ak,⟨fi,rfl⟩⟩:=hcut;cases kq with
     |zero=>exact absurd HA.out (by simp[jR.j0])
     |succ CM=>
      have H:=HA.out;clear HA;simp only[jR.j0]at H;by_cases aC:az=true
      ·subst aC;rw[if_pos rfl]at H;have H':=bm H;clear H;go_wp2;go_loopg [9,10] CM (fun kq v9 v10 w'=>∃(bk:Int) (aa:Int),v9= .int .i64 bk∧v10= .int .i64 aa∧jX (jR.l0 kq a0 a1 a2 bk aa=some (r1,r2))∧jX (kq≤CM)∧Drawn0 w w')
       case atStart=>exact⟨(0),(0),(by first|rfl|(simp;done)|(simp[*];done)),(by first|rfl|(simp;done)|(simp[*];done)),H',⟨Nat.le_refl _⟩,by repeat(first|exact Drawn0.refl _|apply Drawn0.step)⟩
       case round=>
        clear H';obtain⟨bk,aa,rfl,rfl,HA,dT,⟨m2,rfl⟩⟩:=hrel;cases gk with
        |zero=>exact absurd HA.out (by simp[jR.l0])
        |succ k2=>
         have H:=HA.out;clear HA;simp only[jR.l0]at H;obtain⟨eK,eL,H⟩:=vF H;obtain⟨aW,aI⟩:∃j_:Int,(shl .i64 1 a0)=j_:=⟨_,rfl⟩;first|rw[aI]at H|simp only[aI]at H
         have bl:(IntKind.i64.wrap (1*2^min a0.toNat 64))=aW:=aI;have bn:a0≤64→(IntKind.i64.wrap (1*2^a0.toNat))=aW:=shl_small aI;have eo:(IntKind.i64.wrap (2^min a0.toNat 64))=aW:=by have h_:=bl;rw[Int.one_mul]at h_;exact h_
         have ep:a0≤64→(IntKind.i64.wrap (2^a0.toNat))=aW:=fun dU=>by have h_:=bn dU;rw[Int.one_mul]at h_;exact h_
         have er:(wrap64 (1*2^min a0.toNat 64))=aW:=(i64_w _).symm.trans bl;have et:a0≤64→(wrap64 (1*2^a0.toNat))=aW:=fun h_=>(i64_w _).symm.trans (bn h_)
         rcases vG H with⟨cX,H⟩|⟨cX,H⟩
         ·obtain⟨bF,H⟩:=vE H;obtain⟨eM,H⟩:=vE H;obtain⟨aJ,a7⟩:∃j_:Int,(shr .i64 aa (((bt a1 a2) - 97)%256))=j_:=⟨_,rfl⟩;first|rw[a7]at H|simp only[a7]at H
          have eu:(aa/2^min (((bt a1 a2) - 97)%256).toNat 64)=aJ:=a7;have dW:=vD (show(0:Int)≤(((bt a1 a2) - 97)%256) by omega);have dX:decide ((0:Int)≤(((bt a1 a2) - 97)%256))=true:=vC (by omega);have dY:decide ((((bt a1 a2) - 97)%256)<0)=false:=vB (by omega);have ev:(((bt a1 a2) - 97)%256)≤64→(aa/2^(((bt a1 a2) - 97)%256).toNat)=aJ:=shr_small a7;obtain⟨eN,eO,H⟩:=vF H;obtain⟨bb,aK⟩:∃j_:Int,(shl .i64 (Int.tmod (aJ) 2) aa)=j_:=⟨_,rfl⟩;first|rw[aK]at H|simp only[aK]at H
          have cu:(IntKind.i64.wrap ((Int.tmod (aJ) 2)*2^min aa.toNat 64))=bb:=aK;have cv:aa≤64→(IntKind.i64.wrap ((Int.tmod (aJ) 2)*2^aa.toNat))=bb:=shl_small aK;have ew:(wrap64 ((Int.tmod (aJ) 2)*2^min aa.toNat 64))=bb:=(i64_w _).symm.trans cu;have ey:aa≤64→(wrap64 ((Int.tmod (aJ) 2)*2^aa.toNat))=bb:=fun h_=>(i64_w _).symm.trans (cv h_)
          have H':=bm H;clear H;have dZ:0≤(a2:Int):=pG;have ea:a2<(a1.size:Int):=pG;have fj:=bt_at a1 a2;replace dZ:=vD dZ;replace ea:=vD ea;go_wp2;go_roundg k2
          case measure=>have:=ak.out;have:=dT.out;omega
          case rel=>exact⟨(wrap64 (bk+(bb))),(wrap64 (aa+1)),(by first|rfl|(simp;done)|(simp only[←aK]<;>(first|rfl|simp))|(simp[*];done)),(by first|rfl|(simp;done)|(simp[*];done)),H',⟨by have:=ak.out;have:=dT.out;omega⟩,by repeat(first|exact Drawn0.refl _|apply Drawn0.step)⟩
         ·obtain⟨rfl,rfl⟩:=s2 H;go_wp2;go_ret2;exact⟨by first|rfl|(simp;done)|(simp only[←aI]<;>(first|rfl|simp))|(simp[*];done),by repeat(first|exact Drawn0.refl _|apply Drawn0.step)⟩
      ·replace aC:=uZ aC;subst aC;rw[if_neg vM]at H;obtain⟨eP,H⟩:=vE H;obtain⟨eQ,H⟩:=vE H;rcases iT H with⟨br,H⟩|⟨br,H⟩
       ·obtain⟨c1,da⟩:=vW br;clear br;obtain⟨⟨cD,cE⟩,ed,H⟩:=bE H;try dsimp only at H
        rcases vG H with⟨db,H⟩|⟨db,H⟩
        ·obtain⟨rfl,rfl⟩:=s2 H;have aM:0≤(a2:Int):=pG;have aN:a2<(a1.size:Int):=pG;have cg:=bt_at a1 a2;replace aM:=vD aM;replace aN:=vD aN;go_wp2_with (first|(refine gB (some 82) Tryz.func109 #[.int .i64 a0,.string a1,.int .i64 (wrap64 (a2+1))] rfl ?_;(with_reducible refine(ih CM (by have:=ak.out;omega) a0 a1 (wrap64 (a2+1)) cD cE _ ed.out).mono ?_);rintro e w' ⟨rfl,⟨nd,rfl⟩⟩;refine⟨_,rfl,?_⟩));go_ret2;exact vY
        ·obtain⟨rfl,rfl⟩:=s2 H;have aM:0≤(a2:Int):=pG;have aN:a2<(a1.size:Int):=pG;have cg:=bt_at a1 a2;replace aM:=vD aM;replace aN:=vD aN;go_wp2_with (first|(refine gB (some 82) Tryz.func109 #[.int .i64 a0,.string a1,.int .i64 (wrap64 (a2+1))] rfl ?_;(with_reducible refine(ih CM (by have:=ak.out;omega) a0 a1 (wrap64 (a2+1)) cD cE _ ed.out).mono ?_);rintro e w' ⟨rfl,⟨nd,rfl⟩⟩;refine⟨_,rfl,?_⟩));go_ret2;exact vY
       ·obtain⟨c1,da⟩:=vV br;rcases iT H with⟨bs,H⟩|⟨bs,H⟩
        ·obtain⟨dc,dd⟩:=vW bs;clear bs;obtain⟨⟨an,I⟩,eR,H⟩:=bE H;try dsimp only at H
         have ch:=bm H;clear H;have aM:0≤(a2:Int):=pG;have aN:a2<(a1.size:Int):=pG;have cg:=bt_at a1 a2;replace aM:=vD aM;replace aN:=vD aN;have cj:0≤(a2:Int):=pG;have ck:a2<(a1.size:Int):=pG;have ee:=bt_at a1 a2;replace cj:=vD cj;replace ck:=vD ck;go_upto_region 22 with(first|(refine gB (some 101) Tryz.func109 #[.int .i64 a0,.string a1,.int .i64 (wrap64 (a2+1))] rfl ?_;(with_reducible refine(ih CM (by have:=ak.out;omega) a0 a1 (wrap64 (a2+1)) an I _ eR.out).mono ?_);rintro e w' ⟨rfl,⟨nd,rfl⟩⟩;refine⟨_,rfl,?_⟩))
         (try simp only[Act.put,qA,qB,qC]);go_cut [111] (fun ef wc=>∃(kq:Nat) (ao:Bool),ef= .bool ao∧jX (jR.j2 kq a0 a1 ad an I ao=some (r1,r2))∧jX (kq≤CM)∧Drawn0 w wc)
         case first=>
          have H:=ch.out;clear ch;rcases vG H with⟨aQ,H⟩|⟨aQ,H⟩
          ·(first|rw[aQ]|(simp only[i64_w,i32_w];rw[aQ])|skip);have H':=bm H;clear H;go_wp2;go_meet
           case rel=>exact⟨_,(true),(by first|rfl|(simp;done)|(simp[*];done)),H',⟨by have:=ak.out;first|omega|exact Nat.le_refl _⟩,by repeat(first|exact Drawn0.refl _|apply Drawn0.step)⟩
          ·(first|rw[aQ]|(simp only[i64_w,i32_w];rw[aQ])|skip);have H':=bm H;clear H;go_wp2;go_meet
           case rel=>exact⟨_,(decide (I≥(a1.size:Int))),(by first|rfl|(simp;done)|(simp[*];done)),H',⟨by have:=ak.out;first|omega|exact Nat.le_refl _⟩,by repeat(first|exact Drawn0.refl _|apply Drawn0.step)⟩
         case rest=>
          clear ch;obtain⟨kq,ao,rfl,HA,bo,⟨fk,rfl⟩⟩:=hcut;cases kq with
          |zero=>exact absurd HA.out (by simp[jR.j2])
          |succ Hs=>
           have H:=HA.out;clear HA;simp only[jR.j2]at H;by_cases cw:ao=true
           ·subst cw;rw[if_pos rfl]at H;obtain⟨rfl,rfl⟩:=s2 H;go_wp2;go_ret2;exact vY
           ·replace cw:=uZ cw;subst cw;rw[if_neg vM]at H;obtain⟨⟨ax,aY⟩,eS,H⟩:=bE H;try dsimp only at H
            have cm:=bm H;clear H;go_upto_region 25 with(first|(refine gB (some 117) Tryz.func109 #[.int .i64 a0,.string a1,.int .i64 (wrap64 (I+1))] rfl ?_;(with_reducible refine(ih Hs (by have:=ak.out;have:=bo.out;omega) a0 a1 (wrap64 (I+1)) ax aY _ eS.out).mono ?_);rintro e w' ⟨rfl,⟨nd,rfl⟩⟩;refine⟨_,rfl,?_⟩))
            (try simp only[Act.put,qA,qB,qC]);go_cut [133] (fun eg wc=>∃(kq:Nat) (aq:Bool),eg= .bool aq∧jX (jR.j3 kq a1 ad an I ax aY aq=some (r1,r2))∧jX (kq≤Hs)∧Drawn0 w wc)
            case first=>
             have H:=cm.out;clear cm;rcases vG H with⟨aR,H⟩|⟨aR,H⟩
             ·(first|rw[aR]|(simp only[i64_w,i32_w];rw[aR])|skip);have H':=bm H;clear H;go_wp2;go_meet
              case rel=>exact⟨_,(true),(by first|rfl|(simp;done)|(simp[*];done)),H',⟨by have:=ak.out;have:=bo.out;first|omega|exact Nat.le_refl _⟩,by repeat(first|exact Drawn0.refl _|apply Drawn0.step)⟩
             ·(first|rw[aR]|(simp only[i64_w,i32_w];rw[aR])|skip);rcases vG H with⟨de,H⟩|⟨de,H⟩
              ·have H':=bm H;clear H;go_wp2;go_meet
               case rel=>exact⟨_,(true),(by first|rfl|(simp;done)|(simp[*];done)),H',⟨by have:=ak.out;have:=bo.out;first|omega|exact Nat.le_refl _⟩,by repeat(first|exact Drawn0.refl _|apply Drawn0.step)⟩
              ·obtain⟨eT,H⟩:=vE H;obtain⟨eU,H⟩:=vE H;have H':=bm H;clear H;have ej:0≤(aY:Int):=pG;have ek:aY<(a1.size:Int):=pG;have fl:=bt_at a1 aY;replace ej:=vD ej;replace ek:=vD ek;go_wp2;go_meet
               case rel=>exact⟨_,(((bt a1 aY) !=41)),(by first|rfl|(simp;done)|(simp[*];done)),H',⟨by have:=ak.out;have:=bo.out;first|omega|exact Nat.le_refl _⟩,by repeat(first|exact Drawn0.refl _|apply Drawn0.step)⟩
            case rest=>
             clear cm;obtain⟨kq,aq,rfl,HA,fm,⟨fo,rfl⟩⟩:=hcut;cases kq with
             |zero=>exact absurd HA.out (by simp[jR.j3])
             |succ FP=>
              have H:=HA.out;clear HA;simp only[jR.j3]at H;by_cases cx:aq=true
              ·subst cx;rw[if_pos rfl]at H;obtain⟨rfl,rfl⟩:=s2 H;go_wp2;go_ret2;exact vY
              ·replace cx:=uZ cx;subst cx;rw[if_neg vM]at H;obtain⟨eV,H⟩:=vE H;obtain⟨eW,H⟩:=vE H;rcases iT H with⟨bu,H⟩|⟨bu,H⟩
               ·obtain⟨df,dh⟩:=vW bu;clear bu;obtain⟨b4,eX,H⟩:=bE H;try dsimp only at H
                obtain⟨rfl,rfl⟩:=s2 H;have aT:0≤(I:Int):=pG;have aU:I<(a1.size:Int):=pG;have cq:=bt_at a1 I;replace aT:=vD aT;replace aU:=vD aU;go_wp2_with (first|(refine gB (some 141) Tryz.func54 #[.int .i64 an,.int .i64 ax] rfl ?_;(with_reducible refine(pC.calls FP an ax b4 _ eX.out).mono ?_);rintro e w' ⟨rfl,⟨nd,rfl⟩⟩;refine⟨_,rfl,?_⟩));go_ret2;exact vY
               ·obtain⟨df,dh⟩:=vV bu;rcases iT H with⟨bw,H⟩|⟨bw,H⟩
                ·obtain⟨di,dj⟩:=vW bw;clear bw;obtain⟨b5,eY,H⟩:=bE H;try dsimp only at H
                 obtain⟨rfl,rfl⟩:=s2 H;have aT:0≤(I:Int):=pG;have aU:I<(a1.size:Int):=pG;have cq:=bt_at a1 I;replace aT:=vD aT;replace aU:=vD aU;go_wp2_with (first|(refine gB (some 148) Tryz.func111 #[.int .i64 an,.int .i64 ax] rfl ?_;(with_reducible refine(qo.calls FP an ax b5 _ eY.out).mono ?_);rintro e w' ⟨rfl,⟨nd,rfl⟩⟩;refine⟨_,rfl,?_⟩));go_ret2;exact vY
                ·obtain⟨di,dj⟩:=vV bw;rcases iT H with⟨bx,H⟩|⟨bx,H⟩
                 ·obtain⟨dk,dm⟩:=vW bx;clear bx;obtain⟨b6,eZ,H⟩:=bE H;try dsimp only at H
                  obtain⟨rfl,rfl⟩:=s2 H;have aT:0≤(I:Int):=pG;have aU:I<(a1.size:Int):=pG;have cq:=bt_at a1 I;replace aT:=vD aT;replace aU:=vD aU;go_wp2_with (first|(refine gB (some 157) Tryz.func111 #[.int .i64 (wrap64 (ad - an)),.int .i64 ax] rfl ?_;(with_reducible refine(qo.calls FP (wrap64 (ad - an)) ax b6 _ eZ.out).mono ?_);rintro e w' ⟨rfl,⟨nd,rfl⟩⟩;refine⟨_,rfl,?_⟩));go_ret2;exact vY
                 ·obtain⟨dk,dm⟩:=vV bx;obtain⟨rfl,rfl⟩:=s2 H;have aT:0≤(I:Int):=pG;have aU:I<(a1.size:Int):=pG;have cq:=bt_at a1 I;replace aT:=vD aT;replace aU:=vD aU;go_wp2;go_ret2;exact vY
        ·obtain⟨dc,dd⟩:=vV bs;obtain⟨rfl,rfl⟩:=s2 H;have aM:0≤(a2:Int):=pG;have aN:a2<(a1.size:Int):=pG;have cg:=bt_at a1 a2;replace aM:=vD aM;replace aN:=vD aN;have cj:0≤(a2:Int):=pG;have ck:a2<(a1.size:Int):=pG;have ee:=bt_at a1 a2;replace cj:=vD cj;replace ck:=vD ck;go_wp2;go_ret2;exact vY
end Go.Proofs.YtihgpkohglcijaaGreatDoor.P
