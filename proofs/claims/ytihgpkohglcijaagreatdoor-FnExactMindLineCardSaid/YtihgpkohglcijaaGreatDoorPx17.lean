import Derived.Test.YtihgpkohglcijaaGreatDoorPx0
import Derived.Test.YtihgpkohglcijaaGreatDoorPx16
namespace Go.Proofs.YtihgpkohglcijaaGreatDoor.P
open Go.RowKit Go.Proofs.YtihgpkohglcijaaGreatDoorW.PrintWords Go.Proofs.YtihgpkohglcijaaGreatDoorW.PrintLast Go.Proofs.YtihgpkohglcijaaGreatDoorW.PrintMore
attribute [local go_sem] max2_int min2_int max_two min_two max_three min_three max_four min_four   -- for this text's walks alone
set_option linter.unusedVariables false
set_option linter.unusedSimpArgs false
set_option maxHeartbeats 8000000
set_option maxRecDepth 100000
mutual
def spec_ReadDeed.j0:Nat→ByteArray→List (S58)→Option (Int×ByteArray×Bool)
 |0,_,_=>none
 |k+1,x0,x4=>if(x0.size:Int)>4 then(if 4≤(x0.size:Int)then(if x4.length<5864062014805 then(spec_ReadDeed.j1 k x0 (x4++ [(⟨1,x0.extract 4 x0.size⟩:S58)]))else(none))else(none))else(spec_ReadDeed.j1 k x0 x4)
def spec_ReadDeed.j1:Nat→ByteArray→List (S58)→Option (Int×ByteArray×Bool)
 |0,_,_=>none
 |k+1,x0,x4=>spec_ReadDeed.l0 k x0 x4 0
def spec_ReadDeed.l0:Nat→ByteArray→List (S58)→Int→Option (Int×ByteArray×Bool)
 |0,_,_,_=>none
 |k+1,x0,x4,x5=>if x5<(x4.length:Int)then(if x0.toList=([]:List UInt8)then(spec_ReadDeed.l0 k x0 x4 (wrap64 (x5+1)))else(if 0≤x5 then((spec_DeedText.f k ((rd_T58 x4 x5).f0) ((rd_T58 x4 x5).f1)).bind fun au=>(if au.toList=x0.toList then(some ((rd_T58 x4 x5).f0,(rd_T58 x4 x5).f1,true))else(spec_ReadDeed.l0 k x0 x4 (wrap64 (x5+1)))))else(none)))else(some (0,(⟨#[]⟩:ByteArray),false))
end
def spec_ReadDeed.f (k:Nat) (a0:ByteArray):Option (Int×ByteArray×Bool):=(some (([(⟨2,(⟨#[]⟩:ByteArray)⟩:S58)]:List (S58)):List (S58))).bind fun ag=>(if(a0.size:Int)>6 then(if 6≤(a0.size:Int)then(if ag.length<5864062014805 then(spec_ReadDeed.j0 k a0 (ag++ [(⟨0,a0.extract 6 a0.size⟩:S58)]))else(none))else(none))else(spec_ReadDeed.j0 k a0 ag))
theorem spec_ReadDeed.mono_l:∀k,(∀y0 y1,MoR (spec_ReadDeed.j0 k y0 y1) (spec_ReadDeed.j0 (k+1) y0 y1))∧(∀y0 y1,MoR (spec_ReadDeed.j1 k y0 y1) (spec_ReadDeed.j1 (k+1) y0 y1))∧(∀y0 y1 y2,MoR (spec_ReadDeed.l0 k y0 y1 y2) (spec_ReadDeed.l0 (k+1) y0 y1 y2))
 |0=>⟨fun _ _=> .z (by simp only[spec_ReadDeed.j0]),fun _ _=> .z (by simp only[spec_ReadDeed.j1]),fun _ _ _=> .z (by simp only[spec_ReadDeed.l0])⟩
 |k+1=>by
  have⟨i0,i1,i2⟩:=spec_ReadDeed.mono_l k;exact⟨fun _ _=>by unfold spec_ReadDeed.j0;infer_instance,fun _ _=>by unfold spec_ReadDeed.j1;infer_instance,fun _ _ _=>by unfold spec_ReadDeed.l0;infer_instance⟩
instance spec_ReadDeed.mo {k a0}:MoR (spec_ReadDeed.f k a0) (spec_ReadDeed.f (k+1) a0):=by have⟨i0,i1,i2⟩:=spec_ReadDeed.mono_l k;unfold spec_ReadDeed.f;infer_instance
theorem spec_ReadDeed.calls (k:Nat) (a0:ByteArray) (r1:Int) (r2:ByteArray) (r3:Bool) (w:World) (h:spec_ReadDeed.f k a0=some (r1,r2,r3)):
  Calls Tryz.prog 46 #[.string a0] w fun e w'=>e= .returned (.tuple #[.agg #[.int .i64 r1,.string r2],.bool r3])∧Below w.heap.size w w':=by
 have e0:=Tryz.underlying58;have HB:=Asd.mk (Below.refl w.heap.size w);have H:((some (([(⟨2,(⟨#[]⟩:ByteArray)⟩:S58)]:List (S58)):List (S58))).bind fun ag=>(if(a0.size:Int)>6 then(if 6≤(a0.size:Int)then(if ag.length<5864062014805 then(spec_ReadDeed.j0 k a0 (ag++ [(⟨0,a0.extract 6 a0.size⟩:S58)]))else(none))else(none))else(spec_ReadDeed.j0 k a0 ag)))=some (r1,r2,r3):=h;clear h;obtain⟨ag,bc⟩:∃y_:List (S58),y_=(([(⟨2,(⟨#[]⟩:ByteArray)⟩:S58)]:List (S58))):=⟨_,rfl⟩;replace H:(if(a0.size:Int)>6 then(if 6≤(a0.size:Int)then(if ag.length<5864062014805 then(spec_ReadDeed.j0 k a0 (ag++ [(⟨0,a0.extract 6 a0.size⟩:S58)]))else(none))else(none))else(spec_ReadDeed.j0 k a0 ag))=some (r1,r2,r3):=by first|(rw[bc];exact H)|exact H
 have bz:=Asd.mk bc;clear bc;have cF:=Asd.mk H;clear H;go_enter Tryz.func46,Tryz.ntmps46;go_upto_if 10 with(first|(refine bxA 2 #[.int .i64 0,.string (⟨#[]⟩:ByteArray)] 58 ?_;intro ab hg w3 cy hb;have j:=Asd.mk (cy);have ez:=bG HB hg;replace HB:=bW HB hb;clear hb cy hg)|((with_reducible refine gate_dst (N:=7) rfl ?_);refine Kd.R_lit k58 _ 58 ?hg (N:=7) ?hd (xs:=([(⟨2,(⟨#[]⟩:ByteArray)⟩:S58)]:List (S58))) (inner:=[.int .i64 2,.string (⟨#[]⟩:ByteArray)]) (ok:=fun _=>True) (okp:=fun _=>True) ?hr ?hp (fun _ hk=>hk) trivial (Below.refl _ _) (Nat.le_refl _) (by simp) ?_;(case hd=>rfl);(case hg=>rfl);(case hr=>first|(go_simp;done)|(go_simp;rfl));(case hp=>exact(Reps.c2 (show Kd.M k58 _ _ _ (⟨2,(⟨#[]⟩:ByteArray)⟩:S58) [.int .i64 2,.string (⟨#[]⟩:ByteArray)] from(k58_mkM _ _ _ (⟨2,(⟨#[]⟩:ByteArray)⟩:S58))) (Reps.none _ _)));intro dn w4 bA hb eA cG;clear eA cG;(first|rw[←bz.out]at bA|(simp only[Int.reduceToNat]at bA;rw[←bz.out]at bA));have aZ:=Asd.mk (Kd.R_lower (Kd.R_newB bA (g:=ab) (o:=.cells #[.int .i64 0,.string (⟨#[]⟩:ByteArray)] 58 (0,0)) (kS j)) (below_size (wZ HB)));replace j:=bU j hb;replace HB:=bW HB hb;clear hb bA))
 (try simp only[Act.put,qA,qB,qC]);go_cut [4] (fun v4 wc=>∃(kq:Nat) (aV:List (S58)),Asd (spec_ReadDeed.j0 kq a0 aV=some (r1,r2,r3))∧Asd (kq≤k)∧Asd (Kd.R k58 58 wc w.heap.size (fun k_=>k_≠ab) v4 aV)∧BkA wc ab #[.int .i64 0,.string (⟨#[]⟩:ByteArray)] 58∧Asd (Below w.heap.size w wc))
 case first=>
  have H:=cF.out;clear cF;rcases iT H with⟨c6,H⟩|⟨c6,H⟩
  ·have aA:=decide_eq_true c6;have cz:decide (6<a0.size)=true:=decide_eq_true (by omega);clear c6;(first|rw[aA]|(simp only[i64_w,i32_w];rw[aA])|skip);obtain⟨c7,H⟩:=iN H;have dp:=eq_true c7;have e1:=decide_eq_true c7;clear c7;obtain⟨c8,H⟩:=iN H;have dq:=Asd.mk c8;clear c8;obtain⟨cA,bd⟩:∃y_:List (S58),y_=(ag++ [(⟨0,a0.extract 6 a0.size⟩:S58)]):=⟨_,rfl⟩;replace H:(spec_ReadDeed.j0 k a0 cA)=some (r1,r2,r3):=by first|(rw[bd];exact H)|exact H
   have cH:=Asd.mk bd;clear bd;have H':=Asd.mk H;clear H;go_wp2_with (first|((with_reducible refine gate_builtin (b:=.append) (xs:= #[.tmp 11,.tmp 15]) rfl ?_);at_builtin;refine Kd.R_append k58 (w0:=w) w.heap.size rfl (.tmp 11) (.tmp 15) 50 58 (.agg #[(.int .i64 0),(.string ⟨#[]⟩)]) 24 rfl Tryz.underlying50 info58 rfl (by decide) (by omega) dn ag (⟨0,a0.extract 6 a0.size⟩:S58) [.int .i64 0,.string (a0.extract 6 a0.size)] (fun k_=>k_≠ab) (fun _=>False) rfl rfl ?aP (fun _ hk=>hk.elim) ?aF ?aO ?aB ?aS ?aL ?_;(case aP=>exact k58_mkM _ _ _ (⟨0,a0.extract 6 a0.size⟩:S58));(case aB=>exact(wZ HB));(case aF=>exact(fun k_ hk=>Kd.freshB (g:=ab) (o:=.cells #[.int .i64 0,.string (⟨#[]⟩:ByteArray)] 58 (0,0)) (kS j) k_ hk));(case aO=>exact(by(repeat apply Kd.RS);exact Kd.R_mono aZ.out (fun _ hk=>hk.2)));(case aS=>exact(below_size (wZ HB)));(case aL=>have:=dq.out;omega);intro e2 w9 ho hb hg cI;rw[←cH.out]at ho;replace j:=bN j hg (Kd.R_away aZ.out (fun _ hk=>hk.2));replace HB:=Asd.mk (hb);have cJ:=Asd.mk (ho);clear aZ;clear ho hb hg cI));go_meet
   case rel=>exact⟨_,(cA),H',⟨by first|omega|exact Nat.le_refl _⟩,⟨by(repeat apply Kd.RS);exact cJ.out⟩,⟨kS j⟩,⟨wZ HB⟩⟩
  ·have aA:=decide_eq_false c6;have cz:decide (6<a0.size)=false:=decide_eq_false (by omega);clear c6;(first|rw[aA]|(simp only[i64_w,i32_w];rw[aA])|skip);have H':=Asd.mk H;clear H;go_wp2;go_meet
   case rel=>exact⟨_,(ag),H',⟨by first|omega|exact Nat.le_refl _⟩,⟨by(repeat apply Kd.RS);exact Kd.R_mono aZ.out (fun _ hk=>hk.2)⟩,⟨kS j⟩,⟨wZ HB⟩⟩
 case rest=>
  clear cF;obtain⟨kq,aV,HA,bp,HO_4,j,HB⟩:=hcut;cases kq with
  |zero=>exact absurd HA.out (by simp[spec_ReadDeed.j0])
  |succ kj1=>
   have H:=HA.out;clear HA;simp only[spec_ReadDeed.j0]at H;have bB:=Asd.mk H;clear H;go_upto_if 19 with(fail)
   go_cut [4] (fun v4 wc=>∃(kq:Nat) (ah:List (S58)),Asd (spec_ReadDeed.j1 kq a0 ah=some (r1,r2,r3))∧Asd (kq≤kj1)∧Asd (Kd.R k58 58 wc w.heap.size (fun k_=>k_≠ab) v4 ah)∧BkA wc ab #[.int .i64 0,.string (⟨#[]⟩:ByteArray)] 58∧Asd (Below w.heap.size w wc))
   case first=>
    have H:=bB.out;clear bB;rcases iT H with⟨ay,H⟩|⟨ay,H⟩
    ·have al:=decide_eq_true ay;have bf:decide (4<a0.size)=true:=decide_eq_true (by omega);clear ay;(first|rw[al]|(simp only[i64_w,i32_w];rw[al])|skip);obtain⟨cK,H⟩:=iN H;have eB:=eq_true cK;have eC:=decide_eq_true cK;clear cK;obtain⟨dr,H⟩:=iN H;have cL:=Asd.mk dr;clear dr;obtain⟨cB,bg⟩:∃y_:List (S58),y_=(aV++ [(⟨1,a0.extract 4 a0.size⟩:S58)]):=⟨_,rfl⟩;replace H:(spec_ReadDeed.j1 kj1 a0 cB)=some (r1,r2,r3):=by first|(rw[bg];exact H)|exact H
     have cM:=Asd.mk bg;clear bg;have H':=Asd.mk H;clear H;go_wp2_with (first|((with_reducible refine gate_builtin (b:=.append) (xs:= #[.tmp 20,.tmp 24]) rfl ?_);at_builtin;refine Kd.R_append k58 (w0:=w) w.heap.size rfl (.tmp 20) (.tmp 24) 50 58 (.agg #[(.int .i64 0),(.string ⟨#[]⟩)]) 24 rfl Tryz.underlying50 info58 rfl (by decide) (by omega) u4 aV (⟨1,a0.extract 4 a0.size⟩:S58) [.int .i64 1,.string (a0.extract 4 a0.size)] (fun k_=>k_≠ab) (fun _=>False) rfl rfl ?aP (fun _ hk=>hk.elim) ?aF ?aO ?aB ?aS ?aL ?_;(case aP=>exact k58_mkM _ _ _ (⟨1,a0.extract 4 a0.size⟩:S58));(case aB=>exact(wZ HB));(case aF=>exact(fun k_ hk=>Kd.freshB (g:=ab) (o:=.cells #[.int .i64 0,.string (⟨#[]⟩:ByteArray)] 58 (0,0)) (kS j) k_ hk));(case aO=>exact(rS HO_4));(case aS=>exact(below_size (wZ HB)));(case aL=>have:=cL.out;omega);intro e3 fp ho hb hg cI;rw[←cM.out]at ho;replace j:=bN j hg (Kd.R_away HO_4.out (fun _ hk=>hk));replace HB:=Asd.mk (hb);have cN:=Asd.mk (ho);clear HO_4;clear ho hb hg cI));go_meet
     case rel=>exact⟨_,(cB),H',⟨by have:=bp.out;first|omega|exact Nat.le_refl _⟩,⟨by(repeat apply Kd.RS);exact cN.out⟩,⟨kS j⟩,⟨wZ HB⟩⟩
    ·have al:=decide_eq_false ay;have bf:decide (4<a0.size)=false:=decide_eq_false (by omega);clear ay;(first|rw[al]|(simp only[i64_w,i32_w];rw[al])|skip);have H':=Asd.mk H;clear H;go_wp2;go_meet
     case rel=>exact⟨_,(aV),H',⟨by have:=bp.out;first|omega|exact Nat.le_refl _⟩,⟨by(repeat apply Kd.RS);exact HO_4.out⟩,⟨kS j⟩,⟨wZ HB⟩⟩
   case rest=>
    clear bB;obtain⟨kq,ah,HA,cr,HO_4,j,HB⟩:=hcut;cases kq with
    |zero=>exact absurd HA.out (by simp[spec_ReadDeed.j1])
    |succ kj9=>
     have H:=HA.out;clear HA;simp only[spec_ReadDeed.j1]at H;have H':=Asd.mk H;clear H;go_wp2;go_loopg [5] kj9 (fun kq v5 w'=>∃(J:Int) (ai:Int) (aj:ByteArray),v5= .int .i64 J∧Asd (spec_ReadDeed.l0 kq a0 ah J=some (r1,r2,r3))∧Asd (kq≤kj9)∧Asd (Kd.R k58 58 w' w.heap.size (fun k_=>k_≠ab) u4 ah)∧Asd (w'.heap[ab]?=some (.cells #[.int .i64 ai,.string aj] 58 (0,0)))∧Asd (Below w.heap.size w w'))
     case atStart=>exact⟨(0),(0),((⟨#[]⟩:ByteArray)),(by first|rfl|(simp;done)|(simp[*];done)),H',⟨Nat.le_refl _⟩,⟨by(repeat apply Kd.RS);exact HO_4.out⟩,⟨kS j⟩,⟨wZ HB⟩⟩
     case round=>
      clear H';obtain⟨J,ai,aj,rfl,HA,ct,HO_4,j,HB⟩:=hrel;cases gk with
      |zero=>exact absurd HA.out (by simp[spec_ReadDeed.l0])
      |succ k3=>
       have H:=HA.out;clear HA;simp only[spec_ReadDeed.l0]at H;rcases iT H with⟨bD,H⟩|⟨bD,H⟩
       ·have cO:=decide_eq_true bD;clear bD;rcases iT H with⟨aC,H⟩|⟨aC,H⟩
        ·have cP:(a0.toList==([]:List UInt8))=true:=beq_iff_eq.mpr aC;have cQ:(a0.toList !=([]:List UInt8))=false:=bne_eq_false_iff_eq.mpr aC;clear aC;have H':=Asd.mk H;clear H;obtain⟨e4,e6,ds⟩:=Kd.R_slice HO_4.out;subst ds;go_wp2;go_roundg k3
         case measure=>have:=bp.out;have:=cr.out;have:=ct.out;omega
         case rel=>exact⟨(wrap64 (J+1)),(ai),(aj),(by first|rfl|(simp;done)|(simp[*];done)),H',⟨by have:=bp.out;have:=cr.out;have:=ct.out;omega⟩,⟨by(repeat apply Kd.RS);exact HO_4.out⟩,⟨kS j⟩,⟨wZ HB⟩⟩
        ·have cP:(a0.toList==([]:List UInt8))=false:=beq_eq_false_iff_ne.mpr aC;have cQ:(a0.toList !=([]:List UInt8))=true:=bne_iff_ne.mpr aC;obtain⟨dt,H⟩:=iN H;have eD:=decide_eq_true dt;clear dt;obtain⟨au,du,H⟩:=bE H;try dsimp only at H
         rcases iT H with⟨a6,H⟩|⟨a6,H⟩
         ·have bF:(au.toList==a0.toList)=true:=beq_iff_eq.mpr a6;have cR:(au.toList !=a0.toList)=false:=bne_eq_false_iff_eq.mpr a6;clear a6;obtain⟨rfl,rfl,rfl⟩:=s3 H;obtain⟨e7,e8,dv⟩:=Kd.R_slice HO_4.out;subst dv;have aD:0≤(J:Int):=odt;have aE:J<(ah.length:Int):=odt;obtain⟨bH,bJ,bO,bT⟩:=at_T58 (Kd.R_reads' HO_4.out).2.2 J aD aE;cases bJ;replace aD:=eq_true aD;replace aE:=eq_true aE;go_wp2_with (first|(go_at_call 95;(with_reducible refine(spec_DeedText.calls k3 ((rd_T58 ah J).f0) ((rd_T58 ah J).f1) au _ du.out).mono ?_);rintro e fq ⟨rfl,hb⟩;replace HO_4:=bR HO_4 hb;replace j:=bU j hb;replace HB:=bW HB hb;clear hb;have bV:0≤(J:Int):=odt;have bZ:J<(ah.length:Int):=odt;obtain⟨cS,dw,dx,dy⟩:=at_T58 (Kd.R_reads' HO_4.out).2.2 J bV bZ;obtain rfl:bH=cS:=(by injection dw);replace bV:=eq_true bV;replace bZ:=eq_true bZ;obtain⟨dz,dA,dB,dC⟩:=b2 j));refine bodyPost_ret (results_ct rfl _ _ ab 58 #[.int .i64 ((rd_T58 ah J).f0),.string ((rd_T58 ah J).f1)] (0,0) _ rfl (kP j) Tryz.underlying58 rfl (by kernel_rfl)) rfl ?_;exact⟨by first|rfl|(simp[*,errW_none,errW_some]<;>rfl),wZ HB⟩
         ·have bF:(au.toList==a0.toList)=false:=beq_eq_false_iff_ne.mpr a6;have cR:(au.toList !=a0.toList)=true:=bne_iff_ne.mpr a6;have H':=Asd.mk H;clear H;obtain⟨e9,fa,dD⟩:=Kd.R_slice HO_4.out;subst dD;have aD:0≤(J:Int):=odt;have aE:J<(ah.length:Int):=odt;obtain⟨bH,bJ,bO,bT⟩:=at_T58 (Kd.R_reads' HO_4.out).2.2 J aD aE;cases bJ;replace aD:=eq_true aD;replace aE:=eq_true aE;go_wp2_with (first|(go_at_call 95;(with_reducible refine(spec_DeedText.calls k3 ((rd_T58 ah J).f0) ((rd_T58 ah J).f1) au _ du.out).mono ?_);rintro e fr ⟨rfl,hb⟩;replace HO_4:=bR HO_4 hb;replace j:=bU j hb;replace HB:=bW HB hb;clear hb));go_roundg k3
          case measure=>have:=bp.out;have:=cr.out;have:=ct.out;omega
          case rel=>exact⟨(wrap64 (J+1)),(ai),(aj),(by first|rfl|(simp;done)|(simp[*];done)),H',⟨by have:=bp.out;have:=cr.out;have:=ct.out;omega⟩,⟨by(repeat apply Kd.RS);exact HO_4.out⟩,⟨kS j⟩,⟨wZ HB⟩⟩
       ·have cO:=decide_eq_false bD;clear bD;obtain⟨rfl,rfl,rfl⟩:=s3 H;obtain⟨fb,fc,dE⟩:=Kd.R_slice HO_4.out;subst dE;obtain⟨dF,dG,dH,dI⟩:=b2 j;go_wp2;refine bodyPost_ret (results_ct rfl _ _ ab 58 #[.int .i64 0,.string (⟨#[]⟩:ByteArray)] (0,0) _ rfl (kP j) Tryz.underlying58 rfl (by kernel_rfl)) rfl ?_;exact⟨by first|rfl|(simp[*,errW_none,errW_some]<;>rfl),wZ HB⟩
def spec_l1Bit.f (a0:Int) (a1:Int):Option (Int):=if 0≤a1 then(some (Int.tmod (shr .i64 a0 a1) 2))else(none)
theorem spec_l1Bit.calls (a0:Int) (a1:Int) (r:Int) (w:World) (h:spec_l1Bit.f a0 a1=some r):
  Calls Tryz.prog 107 #[.int .i64 a0,.int .i64 a1] w fun e w'=>e= .returned (.int .i64 r)∧Drawn0 w w':=by
 have H:(if 0≤a1 then(some (Int.tmod (shr .i64 a0 a1) 2))else(none))=some r:=h;clear h;obtain⟨c3,H⟩:=iN H;have cC:=eq_true c3;have fe:=decide_eq_true c3;clear c3;obtain⟨dJ,a8⟩:∃j_:Int,(shr .i64 a0 a1)=j_:=⟨_,rfl⟩;first|rw[a8]at H|simp only[a8]at H
 have eE:(a0/2^min a1.toNat 64)=dJ:=a8;have eF:a1≤64→(a0/2^a1.toNat)=dJ:=shr_small a8;obtain rfl:=Option.some.inj H;go_enter Tryz.func107,Tryz.ntmps107;go_wp2;go_ret;exact⟨by first|rfl|(simp;done)|(simp only[←a8]<;>(first|rfl|simp))|(simp[*];done),by repeat(first|exact Drawn0.refl _|apply Drawn0.step)⟩
def spec_l1Both.l0:Nat→Int→Int→Int→Int→Option (Int)
 |0,_,_,_,_=>none
 |k+1,x0,x1,x5,x6=>if x6<8 then((spec_l1Bit.f x0 x6).bind fun av=>((spec_l1Bit.f x1 x6).bind fun aw=>(if 0≤x6 then(spec_l1Both.l0 k x0 x1 (wrap64 (x5+(shl .i64 (wrap64 (av*aw)) x6))) (wrap64 (x6+1)))else(none))))else(some x5)
def spec_l1Both.f (k:Nat) (a0:Int) (a1:Int):Option (Int):=spec_l1Both.l0 k a0 a1 0 0
theorem spec_l1Both.mono_l:∀k,(∀y0 y1 y2 y3,MoR (spec_l1Both.l0 k y0 y1 y2 y3) (spec_l1Both.l0 (k+1) y0 y1 y2 y3))
 |0=>fun _ _ _ _=> .z (by simp only[spec_l1Both.l0])
 |k+1=>by
  have i0:=spec_l1Both.mono_l k;exact fun _ _ _ _=>by unfold spec_l1Both.l0;infer_instance
instance spec_l1Both.mo {k a0 a1}:MoR (spec_l1Both.f k a0 a1) (spec_l1Both.f (k+1) a0 a1):=by have i0:=spec_l1Both.mono_l k;unfold spec_l1Both.f;infer_instance
theorem spec_l1Both.calls (k:Nat) (a0:Int) (a1:Int) (r:Int) (w:World) (h:spec_l1Both.f k a0 a1=some r):
  Calls Tryz.prog 54 #[.int .i64 a0,.int .i64 a1] w fun e w'=>e= .returned (.int .i64 r)∧Drawn0 w w':=by
 have H:(spec_l1Both.l0 k a0 a1 0 0)=some r:=h;clear h;have H':=Asd.mk H;clear H;go_enter Tryz.func54,Tryz.ntmps54;go_wp2;go_loopg [5,6] k (fun kq v5 v6 w'=>∃(bj:Int) (ae:Int),v5= .int .i64 bj∧v6= .int .i64 ae∧Asd (spec_l1Both.l0 kq a0 a1 bj ae=some r)∧Asd (kq≤k)∧Drawn0 w w')
 case atStart=>exact⟨(0),(0),(by first|rfl|(simp;done)|(simp[*];done)),(by first|rfl|(simp;done)|(simp[*];done)),H',⟨Nat.le_refl _⟩,by repeat(first|exact Drawn0.refl _|apply Drawn0.step)⟩
 case round=>
  clear H';obtain⟨bj,ae,rfl,rfl,HA,dK,⟨m1,rfl⟩⟩:=hrel;cases gk with
  |zero=>exact absurd HA.out (by simp[spec_l1Both.l0])
  |succ k1=>
   have H:=HA.out;clear HA;simp only[spec_l1Both.l0]at H;rcases iT H with⟨c3,H⟩|⟨c3,H⟩
   ·have cC:=decide_eq_true c3;clear c3;obtain⟨av,A4,H⟩:=bE H;try dsimp only at H
    obtain⟨aw,A5,H⟩:=bE H;try dsimp only at H
    obtain⟨c6,H⟩:=iN H;have aA:=eq_true c6;have cz:=decide_eq_true c6;clear c6;obtain⟨b0,aG⟩:∃j_:Int,(shl .i64 (wrap64 (av*aw)) ae)=j_:=⟨_,rfl⟩;first|rw[aG]at H|simp only[aG]at H
    (try rw[aG]at A4);(try rw[aG]at A5);have cT:(IntKind.i64.wrap ((wrap64 (av*aw))*2^min ae.toNat 64))=b0:=aG;have cU:ae≤64→(IntKind.i64.wrap ((wrap64 (av*aw))*2^ae.toNat))=b0:=shl_small aG;have eG:(wrap64 ((wrap64 (av*aw))*2^min ae.toNat 64))=b0:=(i64_w _).symm.trans cT;have eH:ae≤64→(wrap64 ((wrap64 (av*aw))*2^ae.toNat))=b0:=fun h_=>(i64_w _).symm.trans (cU h_)
    have H':=Asd.mk H;clear H;go_wp2_with (first|(refine gB (some 14) Tryz.func107 #[.int .i64 a0,.int .i64 ae] rfl ?_;(with_reducible refine(spec_l1Bit.calls a0 ae av _ A4.out).mono ?_);rintro e w' ⟨rfl,⟨nd,rfl⟩⟩;refine⟨_,rfl,?_⟩)|(refine gB (some 17) Tryz.func107 #[.int .i64 a1,.int .i64 ae] rfl ?_;(with_reducible refine(spec_l1Bit.calls a1 ae aw _ A5.out).mono ?_);rintro e w' ⟨rfl,⟨nd,rfl⟩⟩;refine⟨_,rfl,?_⟩));go_roundg k1
    case measure=>have:=dK.out;omega
    case rel=>exact⟨(wrap64 (bj+(b0))),(wrap64 (ae+1)),(by first|rfl|(simp;done)|(simp only[←aG]<;>(first|rfl|simp))|(simp[*];done)),(by first|rfl|(simp;done)|(simp[*];done)),H',⟨by have:=dK.out;omega⟩,by repeat(first|exact Drawn0.refl _|apply Drawn0.step)⟩
   ·have cC:=decide_eq_false c3;clear c3;obtain rfl:=Option.some.inj H;go_wp2;go_ret;exact⟨by first|rfl|(simp;done)|(simp[*];done),by repeat(first|exact Drawn0.refl _|apply Drawn0.step)⟩
theorem spec_l1All.nonneg (x y:Int):0≤shl .u64 x y:=by
 unfold shl;rw[show IntKind.u64.wrap (x*2^min y.toNat IntKind.u64.bits)=(x*2^min y.toNat IntKind.u64.bits)%18446744073709551616 from by simp[IntKind.wrap,IntKind.bits,IntKind.signed]];exact Int.emod_nonneg _ (by decide)
def spec_l1All.f (a0:Int):Option (Int):=if 0≤a0 then(some (wrap64 ((shl .i64 1 (shl .u64 1 a0)) - 1)))else(none)
theorem spec_l1All.calls (a0:Int) (r:Int) (w:World) (h:spec_l1All.f a0=some r):
  Calls Tryz.prog 105 #[.int .i64 a0] w fun e w'=>e= .returned (.int .i64 r)∧Drawn0 w w':=by
 have H:(if 0≤a0 then(some (wrap64 ((shl .i64 1 (shl .u64 1 a0)) - 1)))else(none))=some r:=h;clear h;obtain⟨c2,H⟩:=iN H;have ff:=eq_true c2;have fg:=decide_eq_true c2;clear c2;obtain rfl:=Option.some.inj H;clear H;have p:=spec_l1All.nonneg 1 a0;obtain⟨bq,b1⟩:∃j_:Int,(shl .u64 1 a0)=j_:=⟨_,rfl⟩;rw[b1]at p⊢;have cV:(IntKind.u64.wrap (1*2^min a0.toNat 64))=bq:=b1;have eI:(IntKind.u64.wrap (2^min a0.toNat 64))=bq:=by have h_:=cV;rw[Int.one_mul]at h_;exact h_
 have fs:=eq_true p;have ft:decide (0≤bq)=true:=decide_eq_true p;have fu:decide (bq<0)=false:=decide_eq_false (by omega)
 have e5:wrap64 (2^min bq.toNat 64)=shl .i64 1 bq:=by
  unfold shl;rw[i64_w,Int.one_mul];rfl
 have E5:=Asd.mk e5;clear b1 p e5;go_enter Tryz.func105,Tryz.ntmps105;go_wp2;go_ret;rw[←E5.out];exact⟨rfl,Drawn0.refl _⟩
def spec_l1Either.f (k:Nat) (a0:Int) (a1:Int):Option (Int):=(spec_l1Both.f k a0 a1).bind fun ba=>(some (wrap64 ((wrap64 (a0+a1)) - ba)))
instance spec_l1Either.mo {k a0 a1}:MoR (spec_l1Either.f k a0 a1) (spec_l1Either.f (k+1) a0 a1):=by unfold spec_l1Either.f;infer_instance
theorem spec_l1Either.calls (k:Nat) (a0:Int) (a1:Int) (r:Int) (w:World) (h:spec_l1Either.f k a0 a1=some r):
  Calls Tryz.prog 111 #[.int .i64 a0,.int .i64 a1] w fun e w'=>e= .returned (.int .i64 r)∧Drawn0 w w':=by
 have H:((spec_l1Both.f k a0 a1).bind fun ba=>(some (wrap64 ((wrap64 (a0+a1)) - ba))))=some r:=h;clear h;obtain⟨ba,A3,H⟩:=bE H;try dsimp only at H
 obtain rfl:=Option.some.inj H;go_enter Tryz.func111,Tryz.ntmps111;go_wp2_with (first|(refine gB (some 10) Tryz.func54 #[.int .i64 a0,.int .i64 a1] rfl ?_;(with_reducible refine(spec_l1Both.calls k a0 a1 ba _ A3.out).mono ?_);rintro e w' ⟨rfl,⟨nd,rfl⟩⟩;refine⟨_,rfl,?_⟩));go_ret;exact⟨by first|rfl|(simp;done)|(simp[*];done),by repeat(first|exact Drawn0.refl _|apply Drawn0.step)⟩
mutual
def spec_l1Read.j0:Nat→Int→ByteArray→Int→Int→Bool→Option (Int×Int)
 |0,_,_,_,_,_=>none
 |k+1,x0,x1,x2,x8,x38=>if x38=true then(spec_l1Read.l0 k x0 x1 x2 0 0)else(if 0≤x2 then(if x2<(x1.size:Int)then(if(bt x1 x2)=33 then((spec_l1Read.f k x0 x1 (wrap64 (x2+1))).bind fun bh=>(if bh.2<0 then(some ((-1),(-1)))else(some (wrap64 (x8 - bh.1),bh.2))))else(if(bt x1 x2)=40 then((spec_l1Read.f k x0 x1 (wrap64 (x2+1))).bind fun ar=>(if ar.2<0 then(spec_l1Read.j2 k x0 x1 x8 ar.1 ar.2 true)else(spec_l1Read.j2 k x0 x1 x8 ar.1 ar.2 (decide (ar.2≥(x1.size:Int))))))else(some ((-1),(-1)))))else(none))else(none))
def spec_l1Read.l0:Nat→Int→ByteArray→Int→Int→Int→Option (Int×Int)
 |0,_,_,_,_,_=>none
 |k+1,x0,x1,x2,x9,x10=>if 0≤x0 then(if x10<(shl .i64 1 x0)then(if 0≤x2 then(if x2<(x1.size:Int)then(if 0≤x10 then(spec_l1Read.l0 k x0 x1 x2 (wrap64 (x9+(shl .i64 (Int.tmod (shr .i64 x10 (((bt x1 x2) - 97)%256)) 2) x10))) (wrap64 (x10+1)))else(none))else(none))else(none))else(some (x9,wrap64 (x2+1))))else(none)
def spec_l1Read.j2:Nat→Int→ByteArray→Int→Int→Int→Bool→Option (Int×Int)
 |0,_,_,_,_,_,_=>none
 |k+1,x0,x1,x8,x13,x14,x111=>if x111=true then(some ((-1),(-1)))else((spec_l1Read.f k x0 x1 (wrap64 (x14+1))).bind fun af=>(if af.2<0 then(spec_l1Read.j3 k x1 x8 x13 x14 af.1 af.2 true)else(if af.2≥(x1.size:Int)then(spec_l1Read.j3 k x1 x8 x13 x14 af.1 af.2 true)else(if 0≤af.2 then(if af.2<(x1.size:Int)then(spec_l1Read.j3 k x1 x8 x13 x14 af.1 af.2 ((bt x1 af.2) !=41))else(none))else(none)))))
def spec_l1Read.j3:Nat→ByteArray→Int→Int→Int→Int→Int→Bool→Option (Int×Int)
 |0,_,_,_,_,_,_,_=>none
 |k+1,x1,x8,x13,x14,x15,x16,x133=>if x133=true then(some ((-1),(-1)))else(if 0≤x14 then(if x14<(x1.size:Int)then(if(bt x1 x14)=38 then((spec_l1Both.f k x13 x15).bind fun b4=>(some (b4,wrap64 (x16+1))))else(if(bt x1 x14)=124 then((spec_l1Either.f k x13 x15).bind fun b5=>(some (b5,wrap64 (x16+1))))else(if(bt x1 x14)=62 then((spec_l1Either.f k (wrap64 (x8 - x13)) x15).bind fun b6=>(some (b6,wrap64 (x16+1))))else(some ((-1),(-1))))))else(none))else(none))
def spec_l1Read.f:Nat→Int→ByteArray→Int→Option (Int×Int)
 |0,_,_,_=>none
 |k+1,a0,a1,a2=>if a2≥(a1.size:Int)then(some ((-1),(-1)))else((spec_l1All.f a0).bind fun ad=>(if 0≤a2 then(if a2<(a1.size:Int)then(if(bt a1 a2)=49 then(some (ad,wrap64 (a2+1)))else(if(bt a1 a2)=48 then(some (0,wrap64 (a2+1)))else(if(bt a1 a2)≥97 then(spec_l1Read.j0 k a0 a1 a2 ad (decide ((((bt a1 a2) - 97)%256)<a0)))else(spec_l1Read.j0 k a0 a1 a2 ad false))))else(none))else(none)))
end
theorem spec_l1Read.mono_l:∀k,(∀y0 y1 y2,MoR (spec_l1Read.f k y0 y1 y2) (spec_l1Read.f (k+1) y0 y1 y2))∧(∀y0 y1 y2 y3 y4,MoR (spec_l1Read.j0 k y0 y1 y2 y3 y4) (spec_l1Read.j0 (k+1) y0 y1 y2 y3 y4))∧(∀y0 y1 y2 y3 y4,MoR (spec_l1Read.l0 k y0 y1 y2 y3 y4) (spec_l1Read.l0 (k+1) y0 y1 y2 y3 y4))∧(∀y0 y1 y2 y3 y4 y5,MoR (spec_l1Read.j2 k y0 y1 y2 y3 y4 y5) (spec_l1Read.j2 (k+1) y0 y1 y2 y3 y4 y5))∧(∀y0 y1 y2 y3 y4 y5 y6,MoR (spec_l1Read.j3 k y0 y1 y2 y3 y4 y5 y6) (spec_l1Read.j3 (k+1) y0 y1 y2 y3 y4 y5 y6))
 |0=>⟨fun _ _ _=> .z (by simp only[spec_l1Read.f]),fun _ _ _ _ _=> .z (by simp only[spec_l1Read.j0]),fun _ _ _ _ _=> .z (by simp only[spec_l1Read.l0]),fun _ _ _ _ _ _=> .z (by simp only[spec_l1Read.j2]),fun _ _ _ _ _ _ _=> .z (by simp only[spec_l1Read.j3])⟩
 |k+1=>by
  have⟨i0,i1,i2,i3,i4⟩:=spec_l1Read.mono_l k;exact⟨fun _ _ _=>by unfold spec_l1Read.f;infer_instance,fun _ _ _ _ _=>by unfold spec_l1Read.j0;infer_instance,fun _ _ _ _ _=>by unfold spec_l1Read.l0;infer_instance,fun _ _ _ _ _ _=>by unfold spec_l1Read.j2;infer_instance,fun _ _ _ _ _ _ _=>by unfold spec_l1Read.j3;infer_instance⟩
instance spec_l1Read.mo {k a0 a1 a2}:MoR (spec_l1Read.f k a0 a1 a2) (spec_l1Read.f (k+1) a0 a1 a2):=(spec_l1Read.mono_l k).1 a0 a1 a2
theorem spec_l1Read.calls (k:Nat):∀(a0:Int) (a1:ByteArray) (a2:Int) (r1:Int) (r2:Int) (w:World) (h:spec_l1Read.f k a0 a1 a2=some (r1,r2)),
  Calls Tryz.prog 109 #[.int .i64 a0,.string a1,.int .i64 a2] w fun e w'=>e= .returned (.tuple #[.int .i64 r1,.int .i64 r2])∧Drawn0 w w':=by
 induction k using Nat.strongRecOn with
 | _ k ih=>
 intro a0 a1 a2 r1 r2 w h;cases k with
 |zero=>exact absurd h (by simp[spec_l1Read.f])
 |succ k=>
 simp only[spec_l1Read.f]at h;have H:(if a2≥(a1.size:Int)then(some ((-1),(-1)))else((spec_l1All.f a0).bind fun ad=>(if 0≤a2 then(if a2<(a1.size:Int)then(if(bt a1 a2)=49 then(some (ad,wrap64 (a2+1)))else(if(bt a1 a2)=48 then(some (0,wrap64 (a2+1)))else(if(bt a1 a2)≥97 then(spec_l1Read.j0 k a0 a1 a2 ad (decide ((((bt a1 a2) - 97)%256)<a0)))else(spec_l1Read.j0 k a0 a1 a2 ad false))))else(none))else(none))))=some (r1,r2):=h;clear h;rcases iT H with⟨c4,H⟩|⟨c4,H⟩
 ·have dL:=decide_eq_true c4;clear c4;obtain⟨rfl,rfl⟩:=s2 H;go_enter Tryz.func109,Tryz.ntmps109;go_wp2;go_ret2;exact⟨by first|rfl|(simp;done)|(simp[*];done),by repeat(first|exact Drawn0.refl _|apply Drawn0.step)⟩
 ·have dL:=decide_eq_false c4;clear c4;obtain⟨ad,A5,H⟩:=bE H;try dsimp only at H
  obtain⟨c6,H⟩:=iN H;have aA:=decide_eq_true c6;clear c6;obtain⟨c7,H⟩:=iN H;have dp:=decide_eq_true c7;clear c7;rcases iT H with⟨c9,H⟩|⟨c9,H⟩
  ·have dM:((bt a1 a2)==49)=true:=beq_iff_eq.mpr c9;have dN:((bt a1 a2) !=49)=false:=bne_eq_false_iff_eq.mpr c9;clear c9;obtain⟨rfl,rfl⟩:=s2 H;go_enter Tryz.func109,Tryz.ntmps109;go_wp2_with (first|(refine gB (some 22) Tryz.func105 #[.int .i64 a0] rfl ?_;(with_reducible refine(spec_l1All.calls a0 ad _ A5.out).mono ?_);rintro e w' ⟨rfl,⟨nd,rfl⟩⟩;refine⟨_,rfl,?_⟩;have p8:0≤(a2:Int):=odt;have q8:a2<(a1.size:Int):=odt;have dO:=bt_at a1 a2;replace p8:=eq_true p8;replace q8:=eq_true q8));go_ret2;exact⟨by first|rfl|(simp;done)|(simp[*];done),by repeat(first|exact Drawn0.refl _|apply Drawn0.step)⟩
  ·have dM:((bt a1 a2)==49)=false:=beq_eq_false_iff_ne.mpr c9;have dN:((bt a1 a2) !=49)=true:=bne_iff_ne.mpr c9;rcases iT H with⟨ay,H⟩|⟨ay,H⟩
   ·have al:((bt a1 a2)==48)=true:=beq_iff_eq.mpr ay;have bf:((bt a1 a2) !=48)=false:=bne_eq_false_iff_eq.mpr ay;clear ay;obtain⟨rfl,rfl⟩:=s2 H;go_enter Tryz.func109,Tryz.ntmps109;go_wp2_with (first|(refine gB (some 22) Tryz.func105 #[.int .i64 a0] rfl ?_;(with_reducible refine(spec_l1All.calls a0 ad _ A5.out).mono ?_);rintro e w' ⟨rfl,⟨nd,rfl⟩⟩;refine⟨_,rfl,?_⟩;have p8:0≤(a2:Int):=odt;have q8:a2<(a1.size:Int):=odt;have dO:=bt_at a1 a2;replace p8:=eq_true p8;replace q8:=eq_true q8;have b7:0≤(a2:Int):=odt;have b8:a2<(a1.size:Int):=odt;have dP:=bt_at a1 a2;replace b7:=eq_true b7;replace b8:=eq_true b8));go_ret2;exact⟨by first|rfl|(simp;done)|(simp[*];done),by repeat(first|exact Drawn0.refl _|apply Drawn0.step)⟩
   ·have al:((bt a1 a2)==48)=false:=beq_eq_false_iff_ne.mpr ay;have bf:((bt a1 a2) !=48)=true:=bne_iff_ne.mpr ay;have b9:=Asd.mk H;clear H;go_enter Tryz.func109,Tryz.ntmps109;go_upto_region 8 with(first|(refine gB (some 22) Tryz.func105 #[.int .i64 a0] rfl ?_;(with_reducible refine(spec_l1All.calls a0 ad _ A5.out).mono ?_);rintro e w' ⟨rfl,⟨nd,rfl⟩⟩;refine⟨_,rfl,?_⟩;have p8:0≤(a2:Int):=odt;have q8:a2<(a1.size:Int):=odt;have dO:=bt_at a1 a2;replace p8:=eq_true p8;replace q8:=eq_true q8;have b7:0≤(a2:Int):=odt;have b8:a2<(a1.size:Int):=odt;have dP:=bt_at a1 a2;replace b7:=eq_true b7;replace b8:=eq_true b8))
    (try simp only[Act.put,qA,qB,qC]);go_cut [38] (fun eJ wc=>∃(kq:Nat) (az:Bool),eJ= .bool az∧Asd (spec_l1Read.j0 kq a0 a1 a2 ad az=some (r1,r2))∧Asd (kq≤k)∧Drawn0 w wc)
    case first=>
     have H:=b9.out;clear b9;rcases iT H with⟨ca,H⟩|⟨ca,H⟩
     ·have aH:=decide_eq_true ca;clear ca;(first|rw[aH]|(simp only[i64_w,i32_w];rw[aH])|skip);have H':=Asd.mk H;clear H;have cb:0≤(a2:Int):=odt;have cc:a2<(a1.size:Int):=odt;have dQ:=bt_at a1 a2;replace cb:=eq_true cb;replace cc:=eq_true cc;have dR:0≤(a2:Int):=odt;have dS:a2<(a1.size:Int):=odt;have fh:=bt_at a1 a2;replace dR:=eq_true dR;replace dS:=eq_true dS;go_wp2;go_meet
      case rel=>exact⟨_,(decide ((((bt a1 a2) - 97)%256)<a0)),(by first|rfl|(simp;done)|(simp[*];done)),H',⟨by first|omega|exact Nat.le_refl _⟩,by repeat(first|exact Drawn0.refl _|apply Drawn0.step)⟩
     ·have aH:=decide_eq_false ca;clear ca;(first|rw[aH]|(simp only[i64_w,i32_w];rw[aH])|skip);have H':=Asd.mk H;clear H;have cb:0≤(a2:Int):=odt;have cc:a2<(a1.size:Int):=odt;have dQ:=bt_at a1 a2;replace cb:=eq_true cb;replace cc:=eq_true cc;go_wp2;go_meet
      case rel=>exact⟨_,(false),(by first|rfl|(simp;done)|(simp[*];done)),H',⟨by first|omega|exact Nat.le_refl _⟩,by repeat(first|exact Drawn0.refl _|apply Drawn0.step)⟩
    case rest=>
     clear b9;obtain⟨kq,az,rfl,HA,ak,⟨fi,rfl⟩⟩:=hcut;cases kq with
     |zero=>exact absurd HA.out (by simp[spec_l1Read.j0])
     |succ kj11=>
      have H:=HA.out;clear HA;simp only[spec_l1Read.j0]at H;by_cases aC:az=true
      ·subst aC;rw[if_pos rfl]at H;have H':=Asd.mk H;clear H;go_wp2;go_loopg [9,10] kj11 (fun kq v9 v10 w'=>∃(bk:Int) (aa:Int),v9= .int .i64 bk∧v10= .int .i64 aa∧Asd (spec_l1Read.l0 kq a0 a1 a2 bk aa=some (r1,r2))∧Asd (kq≤kj11)∧Drawn0 w w')
       case atStart=>exact⟨(0),(0),(by first|rfl|(simp;done)|(simp[*];done)),(by first|rfl|(simp;done)|(simp[*];done)),H',⟨Nat.le_refl _⟩,by repeat(first|exact Drawn0.refl _|apply Drawn0.step)⟩
       case round=>
        clear H';obtain⟨bk,aa,rfl,rfl,HA,dT,⟨m2,rfl⟩⟩:=hrel;cases gk with
        |zero=>exact absurd HA.out (by simp[spec_l1Read.l0])
        |succ k2=>
         have H:=HA.out;clear HA;simp only[spec_l1Read.l0]at H;obtain⟨cW,H⟩:=iN H;have eK:=eq_true cW;have eL:=decide_eq_true cW;clear cW;obtain⟨aW,aI⟩:∃j_:Int,(shl .i64 1 a0)=j_:=⟨_,rfl⟩;first|rw[aI]at H|simp only[aI]at H
         have bl:(IntKind.i64.wrap (1*2^min a0.toNat 64))=aW:=aI;have bn:a0≤64→(IntKind.i64.wrap (1*2^a0.toNat))=aW:=shl_small aI;have eo:(IntKind.i64.wrap (2^min a0.toNat 64))=aW:=by have h_:=bl;rw[Int.one_mul]at h_;exact h_
         have ep:a0≤64→(IntKind.i64.wrap (2^a0.toNat))=aW:=fun dU=>by have h_:=bn dU;rw[Int.one_mul]at h_;exact h_
         have er:(wrap64 (1*2^min a0.toNat 64))=aW:=(i64_w _).symm.trans bl;have et:a0≤64→(wrap64 (1*2^a0.toNat))=aW:=fun h_=>(i64_w _).symm.trans (bn h_)
         rcases iT H with⟨cd,H⟩|⟨cd,H⟩
         ·have cX:=decide_eq_true cd;clear cd;obtain⟨a6,H⟩:=iN H;have bF:=decide_eq_true a6;clear a6;obtain⟨dV,H⟩:=iN H;have eM:=decide_eq_true dV;clear dV;obtain⟨aJ,a7⟩:∃j_:Int,(shr .i64 aa (((bt a1 a2) - 97)%256))=j_:=⟨_,rfl⟩;first|rw[a7]at H|simp only[a7]at H
          have eu:(aa/2^min (((bt a1 a2) - 97)%256).toNat 64)=aJ:=a7;have dW:=eq_true (show(0:Int)≤(((bt a1 a2) - 97)%256) by omega);have dX:decide ((0:Int)≤(((bt a1 a2) - 97)%256))=true:=decide_eq_true (by omega);have dY:decide ((((bt a1 a2) - 97)%256)<0)=false:=decide_eq_false (by omega);have ev:(((bt a1 a2) - 97)%256)≤64→(aa/2^(((bt a1 a2) - 97)%256).toNat)=aJ:=shr_small a7;obtain⟨c0,H⟩:=iN H;have eN:=eq_true c0;have eO:=decide_eq_true c0;clear c0;obtain⟨bb,aK⟩:∃j_:Int,(shl .i64 (Int.tmod (aJ) 2) aa)=j_:=⟨_,rfl⟩;first|rw[aK]at H|simp only[aK]at H
          have cu:(IntKind.i64.wrap ((Int.tmod (aJ) 2)*2^min aa.toNat 64))=bb:=aK;have cv:aa≤64→(IntKind.i64.wrap ((Int.tmod (aJ) 2)*2^aa.toNat))=bb:=shl_small aK;have ew:(wrap64 ((Int.tmod (aJ) 2)*2^min aa.toNat 64))=bb:=(i64_w _).symm.trans cu;have ey:aa≤64→(wrap64 ((Int.tmod (aJ) 2)*2^aa.toNat))=bb:=fun h_=>(i64_w _).symm.trans (cv h_)
          have H':=Asd.mk H;clear H;have dZ:0≤(a2:Int):=odt;have ea:a2<(a1.size:Int):=odt;have fj:=bt_at a1 a2;replace dZ:=eq_true dZ;replace ea:=eq_true ea;go_wp2;go_roundg k2
          case measure=>have:=ak.out;have:=dT.out;omega
          case rel=>exact⟨(wrap64 (bk+(bb))),(wrap64 (aa+1)),(by first|rfl|(simp;done)|(simp only[←aK]<;>(first|rfl|simp))|(simp[*];done)),(by first|rfl|(simp;done)|(simp[*];done)),H',⟨by have:=ak.out;have:=dT.out;omega⟩,by repeat(first|exact Drawn0.refl _|apply Drawn0.step)⟩
         ·have cX:=decide_eq_false cd;clear cd;obtain⟨rfl,rfl⟩:=s2 H;go_wp2;go_ret2;exact⟨by first|rfl|(simp;done)|(simp only[←aI]<;>(first|rfl|simp))|(simp[*];done),by repeat(first|exact Drawn0.refl _|apply Drawn0.step)⟩
      ·replace aC:=Bool.eq_false_iff.mpr aC;subst aC;rw[if_neg (show¬(false=true) by decide)]at H;obtain⟨eb,H⟩:=iN H;have eP:=decide_eq_true eb;clear eb;obtain⟨ec,H⟩:=iN H;have eQ:=decide_eq_true ec;clear ec;rcases iT H with⟨br,H⟩|⟨br,H⟩
       ·have c1:((bt a1 a2)==33)=true:=beq_iff_eq.mpr br;have da:((bt a1 a2) !=33)=false:=bne_eq_false_iff_eq.mpr br;clear br;obtain⟨⟨cD,cE⟩,ed,H⟩:=bE H;try dsimp only at H
        rcases iT H with⟨cf,H⟩|⟨cf,H⟩
        ·have db:=decide_eq_true cf;clear cf;obtain⟨rfl,rfl⟩:=s2 H;have aM:0≤(a2:Int):=odt;have aN:a2<(a1.size:Int):=odt;have cg:=bt_at a1 a2;replace aM:=eq_true aM;replace aN:=eq_true aN;go_wp2_with (first|(refine gB (some 82) Tryz.func109 #[.int .i64 a0,.string a1,.int .i64 (wrap64 (a2+1))] rfl ?_;(with_reducible refine(ih kj11 (by have:=ak.out;omega) a0 a1 (wrap64 (a2+1)) cD cE _ ed.out).mono ?_);rintro e w' ⟨rfl,⟨nd,rfl⟩⟩;refine⟨_,rfl,?_⟩));go_ret2;exact⟨by first|rfl|(simp;done)|(simp[*];done),by repeat(first|exact Drawn0.refl _|apply Drawn0.step)⟩
        ·have db:=decide_eq_false cf;clear cf;obtain⟨rfl,rfl⟩:=s2 H;have aM:0≤(a2:Int):=odt;have aN:a2<(a1.size:Int):=odt;have cg:=bt_at a1 a2;replace aM:=eq_true aM;replace aN:=eq_true aN;go_wp2_with (first|(refine gB (some 82) Tryz.func109 #[.int .i64 a0,.string a1,.int .i64 (wrap64 (a2+1))] rfl ?_;(with_reducible refine(ih kj11 (by have:=ak.out;omega) a0 a1 (wrap64 (a2+1)) cD cE _ ed.out).mono ?_);rintro e w' ⟨rfl,⟨nd,rfl⟩⟩;refine⟨_,rfl,?_⟩));go_ret2;exact⟨by first|rfl|(simp;done)|(simp[*];done),by repeat(first|exact Drawn0.refl _|apply Drawn0.step)⟩
       ·have c1:((bt a1 a2)==33)=false:=beq_eq_false_iff_ne.mpr br;have da:((bt a1 a2) !=33)=true:=bne_iff_ne.mpr br;rcases iT H with⟨bs,H⟩|⟨bs,H⟩
        ·have dc:((bt a1 a2)==40)=true:=beq_iff_eq.mpr bs;have dd:((bt a1 a2) !=40)=false:=bne_eq_false_iff_eq.mpr bs;clear bs;obtain⟨⟨an,I⟩,eR,H⟩:=bE H;try dsimp only at H
         have ch:=Asd.mk H;clear H;have aM:0≤(a2:Int):=odt;have aN:a2<(a1.size:Int):=odt;have cg:=bt_at a1 a2;replace aM:=eq_true aM;replace aN:=eq_true aN;have cj:0≤(a2:Int):=odt;have ck:a2<(a1.size:Int):=odt;have ee:=bt_at a1 a2;replace cj:=eq_true cj;replace ck:=eq_true ck;go_upto_region 22 with(first|(refine gB (some 101) Tryz.func109 #[.int .i64 a0,.string a1,.int .i64 (wrap64 (a2+1))] rfl ?_;(with_reducible refine(ih kj11 (by have:=ak.out;omega) a0 a1 (wrap64 (a2+1)) an I _ eR.out).mono ?_);rintro e w' ⟨rfl,⟨nd,rfl⟩⟩;refine⟨_,rfl,?_⟩))
         (try simp only[Act.put,qA,qB,qC]);go_cut [111] (fun ef wc=>∃(kq:Nat) (ao:Bool),ef= .bool ao∧Asd (spec_l1Read.j2 kq a0 a1 ad an I ao=some (r1,r2))∧Asd (kq≤kj11)∧Drawn0 w wc)
         case first=>
          have H:=ch.out;clear ch;rcases iT H with⟨cl,H⟩|⟨cl,H⟩
          ·have aQ:=decide_eq_true cl;clear cl;(first|rw[aQ]|(simp only[i64_w,i32_w];rw[aQ])|skip);have H':=Asd.mk H;clear H;go_wp2;go_meet
           case rel=>exact⟨_,(true),(by first|rfl|(simp;done)|(simp[*];done)),H',⟨by have:=ak.out;first|omega|exact Nat.le_refl _⟩,by repeat(first|exact Drawn0.refl _|apply Drawn0.step)⟩
          ·have aQ:=decide_eq_false cl;clear cl;(first|rw[aQ]|(simp only[i64_w,i32_w];rw[aQ])|skip);have H':=Asd.mk H;clear H;go_wp2;go_meet
           case rel=>exact⟨_,(decide (I≥(a1.size:Int))),(by first|rfl|(simp;done)|(simp[*];done)),H',⟨by have:=ak.out;first|omega|exact Nat.le_refl _⟩,by repeat(first|exact Drawn0.refl _|apply Drawn0.step)⟩
         case rest=>
          clear ch;obtain⟨kq,ao,rfl,HA,bo,⟨fk,rfl⟩⟩:=hcut;cases kq with
          |zero=>exact absurd HA.out (by simp[spec_l1Read.j2])
          |succ kj34=>
           have H:=HA.out;clear HA;simp only[spec_l1Read.j2]at H;by_cases cw:ao=true
           ·subst cw;rw[if_pos rfl]at H;obtain⟨rfl,rfl⟩:=s2 H;go_wp2;go_ret2;exact⟨by first|rfl|(simp;done)|(simp[*];done),by repeat(first|exact Drawn0.refl _|apply Drawn0.step)⟩
           ·replace cw:=Bool.eq_false_iff.mpr cw;subst cw;rw[if_neg (show¬(false=true) by decide)]at H;obtain⟨⟨ax,aY⟩,eS,H⟩:=bE H;try dsimp only at H
            have cm:=Asd.mk H;clear H;go_upto_region 25 with(first|(refine gB (some 117) Tryz.func109 #[.int .i64 a0,.string a1,.int .i64 (wrap64 (I+1))] rfl ?_;(with_reducible refine(ih kj34 (by have:=ak.out;have:=bo.out;omega) a0 a1 (wrap64 (I+1)) ax aY _ eS.out).mono ?_);rintro e w' ⟨rfl,⟨nd,rfl⟩⟩;refine⟨_,rfl,?_⟩))
            (try simp only[Act.put,qA,qB,qC]);go_cut [133] (fun eg wc=>∃(kq:Nat) (aq:Bool),eg= .bool aq∧Asd (spec_l1Read.j3 kq a1 ad an I ax aY aq=some (r1,r2))∧Asd (kq≤kj34)∧Drawn0 w wc)
            case first=>
             have H:=cm.out;clear cm;rcases iT H with⟨cn,H⟩|⟨cn,H⟩
             ·have aR:=decide_eq_true cn;clear cn;(first|rw[aR]|(simp only[i64_w,i32_w];rw[aR])|skip);have H':=Asd.mk H;clear H;go_wp2;go_meet
              case rel=>exact⟨_,(true),(by first|rfl|(simp;done)|(simp[*];done)),H',⟨by have:=ak.out;have:=bo.out;first|omega|exact Nat.le_refl _⟩,by repeat(first|exact Drawn0.refl _|apply Drawn0.step)⟩
             ·have aR:=decide_eq_false cn;clear cn;(first|rw[aR]|(simp only[i64_w,i32_w];rw[aR])|skip);rcases iT H with⟨cp,H⟩|⟨cp,H⟩
              ·have de:=decide_eq_true cp;clear cp;have H':=Asd.mk H;clear H;go_wp2;go_meet
               case rel=>exact⟨_,(true),(by first|rfl|(simp;done)|(simp[*];done)),H',⟨by have:=ak.out;have:=bo.out;first|omega|exact Nat.le_refl _⟩,by repeat(first|exact Drawn0.refl _|apply Drawn0.step)⟩
              ·have de:=decide_eq_false cp;clear cp;obtain⟨eh,H⟩:=iN H;have eT:=decide_eq_true eh;clear eh;obtain⟨ei,H⟩:=iN H;have eU:=decide_eq_true ei;clear ei;have H':=Asd.mk H;clear H;have ej:0≤(aY:Int):=odt;have ek:aY<(a1.size:Int):=odt;have fl:=bt_at a1 aY;replace ej:=eq_true ej;replace ek:=eq_true ek;go_wp2;go_meet
               case rel=>exact⟨_,(((bt a1 aY) !=41)),(by first|rfl|(simp;done)|(simp[*];done)),H',⟨by have:=ak.out;have:=bo.out;first|omega|exact Nat.le_refl _⟩,by repeat(first|exact Drawn0.refl _|apply Drawn0.step)⟩
            case rest=>
             clear cm;obtain⟨kq,aq,rfl,HA,fm,⟨fo,rfl⟩⟩:=hcut;cases kq with
             |zero=>exact absurd HA.out (by simp[spec_l1Read.j3])
             |succ kj38=>
              have H:=HA.out;clear HA;simp only[spec_l1Read.j3]at H;by_cases cx:aq=true
              ·subst cx;rw[if_pos rfl]at H;obtain⟨rfl,rfl⟩:=s2 H;go_wp2;go_ret2;exact⟨by first|rfl|(simp;done)|(simp[*];done),by repeat(first|exact Drawn0.refl _|apply Drawn0.step)⟩
              ·replace cx:=Bool.eq_false_iff.mpr cx;subst cx;rw[if_neg (show¬(false=true) by decide)]at H;obtain⟨el,H⟩:=iN H;have eV:=decide_eq_true el;clear el;obtain⟨en,H⟩:=iN H;have eW:=decide_eq_true en;clear en;rcases iT H with⟨bu,H⟩|⟨bu,H⟩
               ·have df:((bt a1 I)==38)=true:=beq_iff_eq.mpr bu;have dh:((bt a1 I) !=38)=false:=bne_eq_false_iff_eq.mpr bu;clear bu;obtain⟨b4,eX,H⟩:=bE H;try dsimp only at H
                obtain⟨rfl,rfl⟩:=s2 H;have aT:0≤(I:Int):=odt;have aU:I<(a1.size:Int):=odt;have cq:=bt_at a1 I;replace aT:=eq_true aT;replace aU:=eq_true aU;go_wp2_with (first|(refine gB (some 141) Tryz.func54 #[.int .i64 an,.int .i64 ax] rfl ?_;(with_reducible refine(spec_l1Both.calls kj38 an ax b4 _ eX.out).mono ?_);rintro e w' ⟨rfl,⟨nd,rfl⟩⟩;refine⟨_,rfl,?_⟩));go_ret2;exact⟨by first|rfl|(simp;done)|(simp[*];done),by repeat(first|exact Drawn0.refl _|apply Drawn0.step)⟩
               ·have df:((bt a1 I)==38)=false:=beq_eq_false_iff_ne.mpr bu;have dh:((bt a1 I) !=38)=true:=bne_iff_ne.mpr bu;rcases iT H with⟨bw,H⟩|⟨bw,H⟩
                ·have di:((bt a1 I)==124)=true:=beq_iff_eq.mpr bw;have dj:((bt a1 I) !=124)=false:=bne_eq_false_iff_eq.mpr bw;clear bw;obtain⟨b5,eY,H⟩:=bE H;try dsimp only at H
                 obtain⟨rfl,rfl⟩:=s2 H;have aT:0≤(I:Int):=odt;have aU:I<(a1.size:Int):=odt;have cq:=bt_at a1 I;replace aT:=eq_true aT;replace aU:=eq_true aU;go_wp2_with (first|(refine gB (some 148) Tryz.func111 #[.int .i64 an,.int .i64 ax] rfl ?_;(with_reducible refine(spec_l1Either.calls kj38 an ax b5 _ eY.out).mono ?_);rintro e w' ⟨rfl,⟨nd,rfl⟩⟩;refine⟨_,rfl,?_⟩));go_ret2;exact⟨by first|rfl|(simp;done)|(simp[*];done),by repeat(first|exact Drawn0.refl _|apply Drawn0.step)⟩
                ·have di:((bt a1 I)==124)=false:=beq_eq_false_iff_ne.mpr bw;have dj:((bt a1 I) !=124)=true:=bne_iff_ne.mpr bw;rcases iT H with⟨bx,H⟩|⟨bx,H⟩
                 ·have dk:((bt a1 I)==62)=true:=beq_iff_eq.mpr bx;have dm:((bt a1 I) !=62)=false:=bne_eq_false_iff_eq.mpr bx;clear bx;obtain⟨b6,eZ,H⟩:=bE H;try dsimp only at H
                  obtain⟨rfl,rfl⟩:=s2 H;have aT:0≤(I:Int):=odt;have aU:I<(a1.size:Int):=odt;have cq:=bt_at a1 I;replace aT:=eq_true aT;replace aU:=eq_true aU;go_wp2_with (first|(refine gB (some 157) Tryz.func111 #[.int .i64 (wrap64 (ad - an)),.int .i64 ax] rfl ?_;(with_reducible refine(spec_l1Either.calls kj38 (wrap64 (ad - an)) ax b6 _ eZ.out).mono ?_);rintro e w' ⟨rfl,⟨nd,rfl⟩⟩;refine⟨_,rfl,?_⟩));go_ret2;exact⟨by first|rfl|(simp;done)|(simp[*];done),by repeat(first|exact Drawn0.refl _|apply Drawn0.step)⟩
                 ·have dk:((bt a1 I)==62)=false:=beq_eq_false_iff_ne.mpr bx;have dm:((bt a1 I) !=62)=true:=bne_iff_ne.mpr bx;obtain⟨rfl,rfl⟩:=s2 H;have aT:0≤(I:Int):=odt;have aU:I<(a1.size:Int):=odt;have cq:=bt_at a1 I;replace aT:=eq_true aT;replace aU:=eq_true aU;go_wp2;go_ret2;exact⟨by first|rfl|(simp;done)|(simp[*];done),by repeat(first|exact Drawn0.refl _|apply Drawn0.step)⟩
        ·have dc:((bt a1 a2)==40)=false:=beq_eq_false_iff_ne.mpr bs;have dd:((bt a1 a2) !=40)=true:=bne_iff_ne.mpr bs;obtain⟨rfl,rfl⟩:=s2 H;have aM:0≤(a2:Int):=odt;have aN:a2<(a1.size:Int):=odt;have cg:=bt_at a1 a2;replace aM:=eq_true aM;replace aN:=eq_true aN;have cj:0≤(a2:Int):=odt;have ck:a2<(a1.size:Int):=odt;have ee:=bt_at a1 a2;replace cj:=eq_true cj;replace ck:=eq_true ck;go_wp2;go_ret2;exact⟨by first|rfl|(simp;done)|(simp[*];done),by repeat(first|exact Drawn0.refl _|apply Drawn0.step)⟩
end Go.Proofs.YtihgpkohglcijaaGreatDoor.P
