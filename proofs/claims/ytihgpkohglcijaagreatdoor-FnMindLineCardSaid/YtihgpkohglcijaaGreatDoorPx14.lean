import Derived.Test.YtihgpkohglcijaaGreatDoorPx0
import Derived.Test.YtihgpkohglcijaaGreatDoorPx2
import Derived.Test.YtihgpkohglcijaaGreatDoorPx11
import Derived.Test.YtihgpkohglcijaaGreatDoorPx13
namespace Go.Proofs.YtihgpkohglcijaaGreatDoor.P
open Go.RowKit YtihgpkohglcijaaGreatDoorW PrintWords PrintLast PrintMore
attribute [local go_sem] max2_int min2_int max_two min_two max_three min_three max_four min_four
set_option linter.unusedVariables false
set_option linter.unusedSimpArgs false
set_option maxHeartbeats 8000000
set_option maxRecDepth 100000
def kJ.f (k:Nat) (l0:List Int):Option (Int×List Int×(List (List Int))×ByteArray):=(nc.f l0).bind fun aU=>((jf.f k aU.1 aU.2 12).bind fun ai=>((iG.f k aU.1 ai.2.2.2 ai.1 ai.2.1 ai.2.2.1).bind fun ca=>(some (ai.1,ai.2.1,ai.2.2.1,ca.1))))
instance kJ.mo {k a0}:ku (kJ.f k a0) (kJ.f (k+1) a0):=by unfold kJ.f;infer_instance
theorem kJ.calls (k:Nat) (A0:Option Addr) (c0:Nat) (l0:List Int) (r1:Int) (r2:List Int) (r3:List (List Int)) (r4:ByteArray) (w:World) (aH:Kd.C (Kd.int .u8) w A0 l0.length l0) (aD:l0.length≤c0) (h:kJ.f k l0=some (r1,r2,r3,r4)):
  Calls Tryz.prog 8 #[.slice A0 l0.length c0] w fun e w'=>∃dr dY:Value,e= .returned (.tuple #[.agg #[.int .i64 r1,dr,dY],.string r4])∧Kd.R (Kd.int .i64) 3 w' w.heap.size (fun _=>True) dr r2∧Kd.Q (Kd.slice 3 (Kd.int .i64)) 23 w' w.heap.size (fun k_=>some k_≠(dr:Value).ownBlock) dY r3∧Below w.heap.size w w':=by
 have fo:=Tryz.underlying26;have aK:=bm aH;have ct:=bm aD;clear aH aD;have HB:=bm (Below.refl w.heap.size w);have H:=h;clear h;unfold kJ.f at H;obtain⟨⟨aW,di⟩,A2,H⟩:=bE H;try dsimp only at H
 obtain⟨⟨au,al,ao,ba⟩,A3,H⟩:=bE H;try dsimp only at H
 obtain⟨⟨dZ,ea⟩,A4,H⟩:=bE H;try dsimp only at H
 obtain⟨rfl,rfl,rfl,rfl⟩:=s4 H;go_enter Tryz.func8,Tryz.ntmps8;try go_wp2_with (first|(refine mK 2 #[.int .i64 0,.slice none 0 0,.slice none 0 0] 26 ?_;intro aI hg _ bV hb;have ab:=bm (bV);have cb:=bG HB hg;replace HB:=bW HB hb;clear hb bV hg)|(refine gB (some 7) Tryz.func40 #[.slice A0 l0.length c0] rfl ?_;(with_reducible refine(nc.calls _ _ l0 aW di w _ ?ig ?ij ?mO A2.out).mono ?_);(case ig=>repeat(with_reducible first|exact HB.out|apply mU|refine la ?_ cb.out));(case ij=>exact aK.out);(case mO=>exact ct.out);rintro e _ ⟨aG,rfl,hi,hb,cc⟩;refine⟨_,rfl,?_⟩;replace HB:=bm (hb);have J:=bm (hi);have ag:=bm (fp.wO hi (CJ (g:=aI) (o:=.cells #[.int .i64 0,.slice none 0 0,.slice none 0 0] 26 (0,0)) (kS ab) cc) (by decide));have bd:=bm (Ne.symm (fp.wO hi (CJ (g:=aI) (o:=.cells #[.int .i64 0,.slice none 0 0,.slice none 0 0] 26 (0,0)) (kS ab) cc) (by decide)));replace ab:=bm (CJ (g:=aI) (o:=.cells #[.int .i64 0,.slice none 0 0,.slice none 0 0] 26 (0,0)) (kS ab) cc);clear hb cc hi)|(refine gB (some 9) Tryz.func41 #[.pointer (some ⟨aG,0,none⟩),.int .i64 12] rfl ?_;(with_reducible refine(jf.calls k aG aW di 12 au al ao ba w _ ?ig ?ij A3.out).mono ?_);(case ig=>repeat(with_reducible first|exact J.out|apply fp.bX|apply fp.oH|refine fp.far ?_ ag.out _));(case ij=>repeat(with_reducible first|exact HB.out|apply mU|refine la ?_ (fp.ge J.out)|refine la ?_ cb.out));rintro e _ ⟨_,_,rfl,aM,eb,hi,hb,hk⟩;refine⟨_,rfl,?_⟩;replace ab:=bI ab hk bd;have aj:=bm (Kd.R_lower aM (below_size (wI HB (fp.ge J.out))));have ak:=bm (Kd.Q_lower eb (below_size (wI HB (fp.ge J.out))));replace HB:=bm (hb);replace J:=bm (hi);clear hb hk hi;(try clear aM);(try clear eb))|(refine mK 5 #[.int .i64 0,.slice none 0 0,.slice none 0 0] 26 ?_;intro I hg w8 bV hb;replace aj:=bR aj hb;replace ak:=bm (Kd.Q_below (by(with_reducible repeat(first|apply Kd.Q_alloc|apply Kd.Q_drewN|apply Kd.Q_drew));exact ak.out) hb);have ah:=bm (bV);have eQ:=bm ((by rw[hg];exact(below_size (wI HB (fp.ge J.out))):w.heap.size≤I));have dt:=bm ((by rw[hg];exact(below_size (wI HB (fp.ge J.out))):w.heap.size≤I));replace HB:=pZ HB (fp.ge J.out) hb;have aE:=bL ab hg;have aa:=bM ab hg;replace ab:=bU ab hb;have an:=bm ((by rw[hg];exact Nat.ne_of_lt (fp.lt (show fp w _ aG aW ba from by repeat(with_reducible first|exact J.out|apply fp.bX|apply fp.oH|refine fp.far ?_ ag.out _))):aG≠I));have bf:=bm ((by rw[hg];exact Nat.ne_of_gt (fp.lt (show fp w _ aG aW ba from by repeat(with_reducible first|exact J.out|apply fp.bX|apply fp.oH|refine fp.far ?_ ag.out _))):I≠aG));replace J:=bm (fp.below (by repeat(with_reducible first|exact J.out|apply fp.bX|apply fp.oH|refine fp.far ?_ ag.out _)) hb);clear hb bV hg;obtain⟨_,_,_,_⟩:=vU aa aE bf an;obtain⟨_,_,_,_,_,_⟩:=b3 ah;obtain⟨av,aw,ej⟩:=Kd.R_slice aj.out;subst ej;obtain⟨ax,ay,ek,_⟩:=Kd.Q_slice ak.out;subst ek))
 have du:gm (Kd.R (Kd.int .i64) 3 (((w8.setCell ⟨I,0,none⟩ (.int .i64 au)).setCell ⟨I,1,none⟩ (.slice av al.length aw)).setCell ⟨I,2,none⟩ (.slice ax ao.length ay)) w.heap.size (fun _=>True) (.slice av al.length aw) al):=⟨rT aj⟩;have dv:gm (Kd.Q (Kd.slice 3 (Kd.int .i64)) 23 (((w8.setCell ⟨I,0,none⟩ (.int .i64 au)).setCell ⟨I,1,none⟩ (.slice av al.length aw)).setCell ⟨I,2,none⟩ (.slice ax ao.length ay)) w.heap.size (fun k_=>some k_≠(.slice av al.length aw:Value).ownBlock) (.slice ax ao.length ay) ao):=⟨by(with_reducible repeat(first|apply Kd.Q_alloc|apply Kd.Q_drewN|apply Kd.Q_drew));exact Kd.Q_mono (Kd.Q_far (p:=⟨I,2,none⟩) (Kd.Q_far (p:=⟨I,1,none⟩) (Kd.Q_far (p:=⟨I,0,none⟩) (Kd.Q_types ak.out ah.out (by decide)) (fun _ hk=>hk.2) (.int .i64 au)) (fun _ hk=>hk.2) (.slice av al.length aw)) (fun _ hk=>hk.2) (.slice ax ao.length ay)) (fun _ hk=>hk.1)⟩;have dw:gm ((((w8.setCell ⟨I,0,none⟩ (.int .i64 au)).setCell ⟨I,1,none⟩ (.slice av al.length aw)).setCell ⟨I,2,none⟩ (.slice ax ao.length ay)).heap[aI]?=some (.cells #[.int .i64 0,.slice none 0 0,.slice none 0 0] 26 (0,0))):=⟨kS ab⟩;have dx:gm ((((w8.setCell ⟨I,0,none⟩ (.int .i64 au)).setCell ⟨I,1,none⟩ (.slice av al.length aw)).setCell ⟨I,2,none⟩ (.slice ax ao.length ay)).heap[I]?=some (.cells #[.int .i64 au,.slice av al.length aw,.slice ax ao.length ay] 26 (0,0))):=⟨kP ah⟩;have dy:gm (fp w (((w8.setCell ⟨I,0,none⟩ (.int .i64 au)).setCell ⟨I,1,none⟩ (.slice av al.length aw)).setCell ⟨I,2,none⟩ (.slice ax ao.length ay)) aG aW ba):=⟨by repeat(with_reducible first|exact J.out|apply fp.bX|apply fp.oH|refine fp.far ?_ ag.out _|refine fp.far ?_ an.out _)⟩;have dz:gm (Below w.heap.size w (((w8.setCell ⟨I,0,none⟩ (.int .i64 au)).setCell ⟨I,1,none⟩ (.slice av al.length aw)).setCell ⟨I,2,none⟩ (.slice ax ao.length ay))):=⟨wI HB (fp.ge J.out)⟩;(try clear aj);(try clear ak);(try clear ab);(try clear ah);(try clear J);(try clear HB);generalize(((w8.setCell ⟨I,0,none⟩ (.int .i64 au)).setCell ⟨I,1,none⟩ (.slice av al.length aw)).setCell ⟨I,2,none⟩ (.slice ax ao.length ay))=el at du dv dw dx dy dz⊢;have aj:=du;have ak:=dv;have ab:=dw;have ah:=dx;have J:=dy;have HB:=dz;clear du dv dw dx dy dz;replace aj:=vD aj;replace ak:=vE ak;replace ab:=vC ab;replace ah:=vC ah;replace J:=bm (fp.drew J.out);replace HB:=vH HB;refine start_ (n:=6) (S:=fun w'=>w'.cell? ⟨I,0,none⟩=some (.int .i64 au)∧w'.cell? ⟨I,1,none⟩=some (.slice av al.length aw)∧w'.cell? ⟨I,2,none⟩=some (.slice ax ao.length ay)) (ds:=[]) #[false,false,false,false,false,false] (by kernel_rfl) rfl rfl ⟨(ja ah.out 0).trans rfl,(ja ah.out 1).trans rfl,(ja ah.out 2).trans rfl⟩ (fun hHeld=>?_);generalize el.drew=fB at aj ak ab ah J HB hHeld⊢;refine pB 1 11 ?_ ?_ ?_ ?_ (tB 0 10 hHeld ?_ ?_ ?_ ?_ (tB 2 12 hHeld ?_ ?_ ?_ ?_ ?_))
 all_goals first|(rintro w' ⟨_,_,_⟩;go_simp;with_reducible rfl)|(intro w';go_simp;with_reducible rfl)|(simp only[Act.put,qA,qB,qC,i64_w,i32_w];rfl)|skip
 refine one_ (i:=3) (N:=some 13) #[true,true,true,true,false,false] rfl rfl (by kernel_rfl) (by decide) (fun K hK=>?_);refine goes_ Tryz.func42 (by kernel_rfl) rfl #[.pointer (some ⟨aG,0,none⟩),.agg #[.int .i64 au,.slice av al.length aw,.slice ax ao.length ay]] (by rfl) rfl rfl (by(try simp only[List.map_toArray,List.map_cons,List.map_nil]);first|done|rfl|(simp only[List.length_drop,List.length_take];rfl)) ?_;with_reducible refine(iG.calls k aG aW ba au _ _ al _ _ ao dZ ea w _ ?ig ?ij ?mO ?mY ?ru ?rv ?rz A4.out).mono ?_
 (case ig=>repeat(with_reducible first|exact J.out|apply fp.bX|apply fp.oH|refine fp.far ?_ ag.out _|refine fp.far ?_ an.out _));(case ij=>repeat(with_reducible first|exact HB.out|apply mU|refine la ?_ (fp.ge J.out)|refine la ?_ cb.out|refine la ?_ dt.out));(case mO=>exact cZ (Kd.R_reads' aj.out).2.2);(case mY=>exact(Kd.R_reads' aj.out).2.1);(case ru=>exact far_slice (fp.own_ne J.out aj.out (by decide)));(case rv=>exact Kd.C_foot_ownQ (fp.nI (show fp w _ aG aW ba from by repeat(with_reducible first|exact J.out|apply fp.bX|apply fp.oH|refine fp.far ?_ ag.out _|refine fp.far ?_ an.out _)) (by(with_reducible repeat(first|apply Kd.Q_alloc|apply Kd.Q_drewN|apply Kd.Q_drew));exact ak.out) (by decide)) (fun _ h_=>h_.2));(case rz=>exact(Kd.Q_reads' ak.out).2.1);rintro e _ ⟨rfl,hi,hb,hk⟩;refine⟨_,rfl,?_⟩;replace ab:=bI ab hk bd;replace aj:=bm (Kd.R_mono (Kd.R_keep (fp.apart (show fp w _ aG aW ba from by repeat(with_reducible first|exact J.out|apply fp.bX|apply fp.oH|refine fp.far ?_ ag.out _|refine fp.far ?_ an.out _)) (rS aj) (by decide)) hk (fun _ h=>h.2)) (fun _ h=>h.1));replace ak:=bm (Kd.Q_mono (Kd.Q_keep (fp.nI (show fp w _ aG aW ba from by repeat(with_reducible first|exact J.out|apply fp.bX|apply fp.oH|refine fp.far ?_ ag.out _|refine fp.far ?_ an.out _)) (by(with_reducible repeat(first|apply Kd.Q_alloc|apply Kd.Q_drewN|apply Kd.Q_drew));exact ak.out) (by decide)) hk (fun _ h=>h.2)) (fun _ h=>h.1));replace ah:=bI ah hk bf;replace HB:=bm (hb);replace J:=bm (hi);(try clear hb);(try clear cc);(try clear hk);(try clear hi);refine hK.out _ _ ⟨(ja ah.out 0).trans rfl,(ja ah.out 1).trans rfl,(ja ah.out 2).trans rfl⟩ (fun hHeld=>?_);clear hK K;refine vQ 13 ?_
 refine one_ (i:=4) (N:=none) #[true,true,true,true,true,false] rfl rfl (by kernel_rfl) (by decide) (fun K hK=>?_);have ft:=bC ab 0;have eT:=nA ab.out 0;obtain⟨_,_⟩:=vS aa aE;have fu:=bC ab 1;have eU:=nA ab.out 1;obtain⟨_,_⟩:=vS aa aE;have fv:=bC ab 2;have eV:=nA ab.out 2;obtain⟨_,_⟩:=vS aa aE;refine skip_ (w1:=?_) (by rfl) rfl ?_ ?_;rotate_left
 ·go_simp;rfl
 refine hK.out _ _ ⟨((kp aa).trans (((kp aa).trans (((kp aa).trans (hHeld.1)))))),((kp aa).trans (((kp aa).trans (((kp aa).trans (hHeld.2.1)))))),((kp aa).trans (((kp aa).trans (((kp aa).trans (hHeld.2.2))))))⟩ (fun hHeld=>?_);clear hK K;refine pB 5 3 ?_ ?_ ?_ ?_ ?_
 all_goals first|(intro w';go_simp;with_reducible rfl)|(simp only[Act.put,qA,qB,qC,i64_w,i32_w];rfl)|skip
 refine done_ (by kernel_rfl) ?_;try go_wp2
 refine bodyPost_ret (results_ct rfl _ _ aI 26 #[.int .i64 au,.slice av al.length aw,.slice ax ao.length ay] (0,0) _ rfl (kP ab) Tryz.underlying26 rfl (by kernel_rfl)) rfl ?_;exact⟨_,_,by first|rfl|(simp[*,fM,fN]<;>rfl),rT aj,by(with_reducible repeat(first|apply Kd.Q_alloc|apply Kd.Q_drewN|apply Kd.Q_drew));exact Kd.Q_mono (Kd.Q_far (p:=⟨aI,2,none⟩) (Kd.Q_far (p:=⟨aI,1,none⟩) (Kd.Q_far (p:=⟨aI,0,none⟩) (Kd.Q_types ak.out ab.out (by decide)) (fun _ hk=>hk.2) (.int .i64 au)) (fun _ hk=>hk.2) (.slice av al.length aw)) (fun _ hk=>hk.2) (.slice ax ao.length ay)) (fun _ hk=>hk.1),wI HB (fp.ge J.out)⟩
def kn.f (a0:Int):Option (Bool):=if a0≥1 then(some (decide (a0≤3)))else(some false)
theorem kn.calls (a0:Int) (r:Bool) (w:World) (h:kn.f a0=some r):
  Calls Tryz.prog 64 #[.int .i64 a0] w fun e w'=>e= .returned (.bool r)∧Drawn0 w w':=by
 have H:=h;clear h;unfold kn.f at H;rcases vL H with⟨cx,H⟩|⟨cx,H⟩
 ·obtain rfl:=vZ H;go_enter Tryz.func64,Tryz.ntmps64;go_wp2;go_ret;exact vn
 ·obtain rfl:=vZ H;go_enter Tryz.func64,Tryz.ntmps64;go_wp2;go_ret;exact vn
def iL.l0:Nat→List Int→Int→Int→Option (Int)
 |0,_,_,_=>none
 |k+1,x0,x3,x4=>if x4<(x0.length:Int)then(if 0≤x4 then(iL.l0 k x0 (mn x3 (rd x0 x4)) (wrap64 (x4+1)))else(none))else(some x3)
def iL.f (k:Nat) (l0:List Int):Option (Int):=if(l0.length:Int)<1 then(none)else(if 0<(l0.length:Int)then(iL.l0 k l0 (rd l0 0) 1)else(none))
theorem iL.gF:∀k,(∀y0 y1 y2,ku (iL.l0 k y0 y1 y2) (iL.l0 (k+1) y0 y1 y2))
 |0=>fun _ _ _=> .z (by simp only[iL.l0])
 |k+1=>by
  have i0:=iL.gF k;exact fun _ _ _=>by unfold iL.l0;infer_instance
instance iL.mo {k a0}:ku (iL.f k a0) (iL.f (k+1) a0):=by have i0:=iL.gF k;unfold iL.f;infer_instance
theorem iL.calls (k:Nat) (A0:Option Addr) (c0:Nat) (l0:List Int) (r:Int) (w:World) (aH:Kd.C (Kd.int .i64) w A0 l0.length l0) (aD:l0.length≤c0) (h:iL.f k l0=some r):
  Calls Tryz.prog 116 #[.slice A0 l0.length c0] w fun e w'=>e= .returned (.int .i64 r)∧Below w.heap.size w w':=by
 have aK:=bm aH;have ct:=bm aD;clear aH aD;have HB:=bm (Below.refl w.heap.size w);have H:=h;clear h;unfold iL.f at H;rcases iT H with⟨c2,H⟩|⟨c2,H⟩
 ·exact absurd H (by simp)
 ·have cx:=vB c2;have ev:decide (l0.length<1)=false:=vB (by omega);clear c2;obtain⟨c3,H⟩:=iN H;have bZ:=vG c3;have cy:decide (0<l0.length)=true:=vG (by omega);clear c3;have H':=bm H;clear H;have cz:0≤(0:Int):=(by omega);have cA:0<(l0.length:Int):=jK;obtain⟨dA,ew,b0⟩:=Kd.at_int aK.out 0 cz cA;cases ew;have eW:(0<l0.length)=True:=vI (by omega);(try rw[show((0:Int)).toNat=0 from rfl]at b0);(try rw[Addr.add_zero']at b0);replace cz:=vI cz;replace cA:=vI cA;go_enter Tryz.func116,Tryz.ntmps116;go_wp2;go_loopg [3,4] k (fun kq v3 v4 w'=>∃(aC:Int) (af:Int),v3= .int .i64 aC∧v4= .int .i64 af∧gm (iL.l0 kq l0 aC af=some r)∧gm (kq≤k)∧gm (Below w.heap.size w w'))
  case atStart=>exact⟨(rd l0 0),(1),(by first|rfl|(simp;done)|(simp[*];done)),(by first|rfl|(simp;done)|(simp[*];done)),H',⟨Nat.le_refl _⟩,⟨wZ HB⟩⟩
  case round=>
   clear H';obtain⟨aC,af,rfl,rfl,HA,aY,HB⟩:=hrel;cases gk with
   |zero=>exact absurd HA.out (by simp[iL.l0])
   |succ k1=>
    have H:=HA.out;clear HA;simp only[iL.l0]at H;rcases vL H with⟨bw,H⟩|⟨bw,H⟩
    ·obtain⟨cB,H⟩:=vJ H;obtain⟨cC,aZ⟩:∃j_:Int,(mn aC (rd l0 af))=j_:=⟨_,rfl⟩;first|rw[aZ]at H|simp only[aZ]at H
     have dB:(if(rd l0 af)<aC then(rd l0 af)else aC)=cC:=aZ;have H':=bm H;clear H;have cD:0≤(af:Int):=jK;have cE:af<(l0.length:Int):=jK;obtain⟨dC,ey,bg⟩:=Kd.at_int aK.out af cD cE;obtain rfl:dA=dC:=(by injection ey);replace bg:=vA HB bg;replace cD:=vI cD;replace cE:=vI cE;go_wp2;go_roundg k1
     case measure=>have:=aY.out;omega
     case rel=>exact⟨(cC),(wrap64 (af+1)),(by first|rfl|(simp;done)|(simp only[←aZ]<;>(first|rfl|simp))|(simp[*];done)),(by first|rfl|(simp;done)|(simp[*];done)),H',⟨by have:=aY.out;omega⟩,⟨wZ HB⟩⟩
    ·obtain rfl:=vZ H;go_wp2;go_ret;exact vo HB
def iQ.l0:Nat→List Int→Int→Int→Option (Int)
 |0,_,_,_=>none
 |k+1,x0,x3,x4=>if x4<(x0.length:Int)then(if 0≤x4 then(iQ.l0 k x0 (mx x3 (rd x0 x4)) (wrap64 (x4+1)))else(none))else(some x3)
def iQ.f (k:Nat) (l0:List Int):Option (Int):=if(l0.length:Int)<1 then(none)else(if 0<(l0.length:Int)then(iQ.l0 k l0 (rd l0 0) 1)else(none))
theorem iQ.gF:∀k,(∀y0 y1 y2,ku (iQ.l0 k y0 y1 y2) (iQ.l0 (k+1) y0 y1 y2))
 |0=>fun _ _ _=> .z (by simp only[iQ.l0])
 |k+1=>by
  have i0:=iQ.gF k;exact fun _ _ _=>by unfold iQ.l0;infer_instance
instance iQ.mo {k a0}:ku (iQ.f k a0) (iQ.f (k+1) a0):=by have i0:=iQ.gF k;unfold iQ.f;infer_instance
theorem iQ.calls (k:Nat) (A0:Option Addr) (c0:Nat) (l0:List Int) (r:Int) (w:World) (aH:Kd.C (Kd.int .i64) w A0 l0.length l0) (aD:l0.length≤c0) (h:iQ.f k l0=some r):
  Calls Tryz.prog 117 #[.slice A0 l0.length c0] w fun e w'=>e= .returned (.int .i64 r)∧Below w.heap.size w w':=by
 have aK:=bm aH;have ct:=bm aD;clear aH aD;have HB:=bm (Below.refl w.heap.size w);have H:=h;clear h;unfold iQ.f at H;rcases iT H with⟨c2,H⟩|⟨c2,H⟩
 ·exact absurd H (by simp)
 ·have cx:=vB c2;have ev:decide (l0.length<1)=false:=vB (by omega);clear c2;obtain⟨c3,H⟩:=iN H;have bZ:=vG c3;have cy:decide (0<l0.length)=true:=vG (by omega);clear c3;have H':=bm H;clear H;have cF:0≤(0:Int):=(by omega);have cG:0<(l0.length:Int):=jK;obtain⟨dD,ez,b1⟩:=Kd.at_int aK.out 0 cF cG;cases ez;have eX:(0<l0.length)=True:=vI (by omega);(try rw[show((0:Int)).toNat=0 from rfl]at b1);(try rw[Addr.add_zero']at b1);replace cF:=vI cF;replace cG:=vI cG;go_enter Tryz.func117,Tryz.ntmps117;go_wp2;go_loopg [3,4] k (fun kq v3 v4 w'=>∃(aC:Int) (af:Int),v3= .int .i64 aC∧v4= .int .i64 af∧gm (iQ.l0 kq l0 aC af=some r)∧gm (kq≤k)∧gm (Below w.heap.size w w'))
  case atStart=>exact⟨(rd l0 0),(1),(by first|rfl|(simp;done)|(simp[*];done)),(by first|rfl|(simp;done)|(simp[*];done)),H',⟨Nat.le_refl _⟩,⟨wZ HB⟩⟩
  case round=>
   clear H';obtain⟨aC,af,rfl,rfl,HA,aY,HB⟩:=hrel;cases gk with
   |zero=>exact absurd HA.out (by simp[iQ.l0])
   |succ k1=>
    have H:=HA.out;clear HA;simp only[iQ.l0]at H;rcases vL H with⟨bw,H⟩|⟨bw,H⟩
    ·obtain⟨cB,H⟩:=vJ H;obtain⟨cC,aZ⟩:∃j_:Int,(mx aC (rd l0 af))=j_:=⟨_,rfl⟩;first|rw[aZ]at H|simp only[aZ]at H
     have dB:(if aC<(rd l0 af)then(rd l0 af)else aC)=cC:=aZ;have H':=bm H;clear H;have cH:0≤(af:Int):=jK;have cI:af<(l0.length:Int):=jK;obtain⟨dE,eA,bh⟩:=Kd.at_int aK.out af cH cI;obtain rfl:dD=dE:=(by injection eA);replace bh:=vA HB bh;replace cH:=vI cH;replace cI:=vI cI;go_wp2;go_roundg k1
     case measure=>have:=aY.out;omega
     case rel=>exact⟨(cC),(wrap64 (af+1)),(by first|rfl|(simp;done)|(simp only[←aZ]<;>(first|rfl|simp))|(simp[*];done)),(by first|rfl|(simp;done)|(simp[*];done)),H',⟨by have:=aY.out;omega⟩,⟨wZ HB⟩⟩
    ·obtain rfl:=vZ H;go_wp2;go_ret;exact vo HB
def jG.j0:Nat→List Int→Bool→Option (Bool)
 |0,_,_=>none
 |k+1,x1,x14=>if x14=true then(some false)else((iL.f k x1).bind fun bb=>(if bb=0 then((iQ.f k x1).bind fun cJ=>(some (decide (cJ≤9))))else(some false)))
def jG.f (k:Nat) (a0:Int) (l1:List Int):Option (Bool):=(kn.f a0).bind fun b4=>(if b4=true then(if 0≤a0 then(jG.j0 k l1 ((l1.length:Int) !=(shl .i64 1 a0)))else(none))else(jG.j0 k l1 true))
theorem jG.gF:∀k,(∀y0 y1,ku (jG.j0 k y0 y1) (jG.j0 (k+1) y0 y1))
 |0=>fun _ _=> .z (by simp only[jG.j0])
 |k+1=>by
  have i0:=jG.gF k;exact fun _ _=>by unfold jG.j0;infer_instance
instance jG.mo {k a0 a1}:ku (jG.f k a0 a1) (jG.f (k+1) a0 a1):=by have i0:=jG.gF k;unfold jG.f;infer_instance
theorem jG.calls (k:Nat) (a0:Int) (A1:Option Addr) (c1:Nat) (l1:List Int) (r:Bool) (w:World) (b5:Kd.C (Kd.int .i64) w A1 l1.length l1) (b6:l1.length≤c1) (h:jG.f k a0 l1=some r):
  Calls Tryz.prog 66 #[.int .i64 a0,.slice A1 l1.length c1] w fun e w'=>e= .returned (.bool r)∧Below w.heap.size w w':=by
 have aV:=bm b5;have bH:=bm b6;clear b5 b6;have HB:=bm (Below.refl w.heap.size w);have H:=h;clear h;unfold jG.f at H;have dF:=bm H;clear H;go_enter Tryz.func66,Tryz.ntmps66;go_upto_region 1 with(fail)
 go_cut [14] (fun eY wc=>∃(kq:Nat) (bJ:Bool),eY= .bool bJ∧gm (jG.j0 kq l1 bJ=some r)∧gm (kq≤k)∧gm (Below w.heap.size w wc))
 case first=>
  have H:=dF.out;clear dF;obtain⟨b4,A4,H⟩:=bE H;try dsimp only at H
  by_cases c5:b4=true
  ·subst c5;rw[if_pos rfl]at H;obtain⟨cK,dj,H⟩:=vK H;obtain⟨cd,bx⟩:∃j_:Int,(shl .i64 1 a0)=j_:=⟨_,rfl⟩;first|rw[bx]at H|simp only[bx]at H
   (try rw[bx]at A4);have cL:(IntKind.i64.wrap (1*2^min a0.toNat 64))=cd:=bx;have cM:a0≤64→(IntKind.i64.wrap (1*2^a0.toNat))=cd:=shl_small bx;have eZ:(IntKind.i64.wrap (2^min a0.toNat 64))=cd:=by have h_:=cL;rw[Int.one_mul]at h_;exact h_
   have e0:a0≤64→(IntKind.i64.wrap (2^a0.toNat))=cd:=fun eB=>by have h_:=cM eB;rw[Int.one_mul]at h_;exact h_
   have e3:(wrap64 (1*2^min a0.toNat 64))=cd:=(i64_w _).symm.trans cL;have e4:a0≤64→(wrap64 (1*2^a0.toNat))=cd:=fun h_=>(i64_w _).symm.trans (cM h_)
   have H':=bm H;clear H;go_wp2_with (first|(refine gB (some 6) Tryz.func64 #[.int .i64 a0] rfl ?_;(with_reducible refine(kn.calls a0 true _ A4.out).mono ?_);rintro e w' ⟨rfl,⟨nd,rfl⟩⟩;refine⟨_,rfl,?_⟩));go_meet
   case rel=>exact⟨_,(((l1.length:Int) !=(cd))),(by first|rfl|(simp;done)|(simp only[←bx]<;>(first|rfl|simp))|(simp[*];done)),H',⟨by first|omega|exact Nat.le_refl _⟩,⟨wZ HB⟩⟩
  ·replace c5:=uZ c5;subst c5;rw[if_neg vR]at H;have H':=bm H;clear H;go_wp2_with (first|(refine gB (some 6) Tryz.func64 #[.int .i64 a0] rfl ?_;(with_reducible refine(kn.calls a0 false _ A4.out).mono ?_);rintro e w' ⟨rfl,⟨nd,rfl⟩⟩;refine⟨_,rfl,?_⟩));go_meet
   case rel=>exact⟨_,(true),(by first|rfl|(simp;done)|(simp[*];done)),H',⟨by first|omega|exact Nat.le_refl _⟩,⟨wZ HB⟩⟩
 case rest=>
  clear dF;obtain⟨kq,bJ,rfl,HA,fD,HB⟩:=hcut;cases kq with
  |zero=>exact absurd HA.out (by simp[jG.j0])
  |succ Aa=>
   have H:=HA.out;clear HA;simp only[jG.j0]at H;by_cases c8:bJ=true
   ·subst c8;rw[if_pos rfl]at H;obtain rfl:=vZ H;go_wp2;go_ret;exact vo HB
   ·replace c8:=uZ c8;subst c8;rw[if_neg vR]at H;obtain⟨bb,A9,H⟩:=bE H;try dsimp only at H
    rcases iT H with⟨c10,H⟩|⟨c10,H⟩
    ·obtain⟨dG,dH⟩:=vl c10;clear c10;obtain⟨cJ,e5,H⟩:=bE H;try dsimp only at H
     obtain rfl:=vZ H;go_wp2_with (first|(refine gB (some 16) Tryz.func116 #[.slice A1 l1.length c1] rfl ?_;(with_reducible refine(iL.calls Aa _ _ l1 bb _ ?_ ?_ A9.out).mono ?_);exact cY aV HB;exact bH.out;rintro e _ ⟨rfl,hb⟩;refine⟨_,rfl,?_⟩;replace HB:=bW HB hb;clear hb)|(go_at_call 117;(with_reducible refine(iQ.calls Aa _ _ l1 cJ _ ?_ ?_ e5.out).mono ?_);exact cY aV HB;exact bH.out;rintro e _ ⟨rfl,hb⟩;replace HB:=bW HB hb;clear hb));go_ret;exact vo HB
    ·obtain⟨dG,dH⟩:=vk c10;obtain rfl:=vZ H;go_wp2_with (first|(refine gB (some 16) Tryz.func116 #[.slice A1 l1.length c1] rfl ?_;(with_reducible refine(iL.calls Aa _ _ l1 bb _ ?_ ?_ A9.out).mono ?_);exact cY aV HB;exact bH.out;rintro e _ ⟨rfl,hb⟩;refine⟨_,rfl,?_⟩;replace HB:=bW HB hb;clear hb));go_ret;exact vo HB
def ie.l0:Nat→List Int→List Int→Int→Int→Option (Bool)
 |0,_,_,_,_=>none
 |k+1,x0,x1,x12,tU=>if tU<x12 then(if 0≤tU then(if tU<(x0.length:Int)then(if tU<(x1.length:Int)then(if(rd x0 tU)=(rd x1 tU)then(ie.l0 k x0 x1 x12 (wrap64 (tU+1)))else(some false))else(none))else(none))else(none))else(some true)
def ie.f (k:Nat) (l0:List Int) (l1:List Int):Option (Bool):=if(l0.length:Int)=(l1.length:Int)then(ie.l0 k l0 l1 (l0.length:Int) 0)else(some false)
theorem ie.gF:∀k,(∀y0 y1 y2 y3,ku (ie.l0 k y0 y1 y2 y3) (ie.l0 (k+1) y0 y1 y2 y3))
 |0=>fun _ _ _ _=> .z (by simp only[ie.l0])
 |k+1=>by
  have i0:=ie.gF k;exact fun _ _ _ _=>by unfold ie.l0;infer_instance
instance ie.mo {k a0 a1}:ku (ie.f k a0 a1) (ie.f (k+1) a0 a1):=by have i0:=ie.gF k;unfold ie.f;infer_instance
theorem ie.calls (k:Nat) (A0:Option Addr) (c0:Nat) (l0:List Int) (A1:Option Addr) (c1:Nat) (l1:List Int) (r:Bool) (w:World) (aH:Kd.C (Kd.int .i64) w A0 l0.length l0) (aD:l0.length≤c0) (b5:Kd.C (Kd.int .i64) w A1 l1.length l1) (b6:l1.length≤c1) (h:ie.f k l0 l1=some r):
  Calls Tryz.prog 123 #[.slice A0 l0.length c0,.slice A1 l1.length c1] w fun e w'=>e= .returned (.bool r)∧Drawn0 w w':=by
 have aK:=bm aH;have ct:=bm aD;clear aH aD;have aV:=bm b5;have bH:=bm b6;clear b5 b6;have H:=h;clear h;unfold ie.f at H;rcases iT H with⟨c3,H⟩|⟨c3,H⟩
 ·obtain⟨bZ,cy⟩:=vl c3;have eC:(l0.length==l1.length)=true:=by first|simpa using c3|(simp at c3⊢;omega)
  clear c3;have H':=bm H;clear H;go_enter Tryz.func123,Tryz.ntmps123;go_wp2;repeat(go_quiet (fail);try go_wp2)
  go_loopg [13] k (fun kq e6 w'=>∃(ae:Int),e6= .int .i64 ae∧gm (ie.l0 kq l0 l1 (l0.length:Int) ae=some r)∧gm (kq≤k)∧Drawn0 w w')
  case atStart=>exact⟨(0),(by first|rfl|(simp;done)|(simp[*];done)),H',⟨Nat.le_refl _⟩,by repeat(first|exact Drawn0.refl _|apply Drawn0.step)⟩
  case round=>
   clear H';obtain⟨ae,rfl,HA,aY,⟨m1,rfl⟩⟩:=hrel;cases gk with
   |zero=>exact absurd HA.out (by simp[ie.l0])
   |succ k1=>
    have H:=HA.out;clear HA;simp only[ie.l0]at H;rcases vL H with⟨bw,H⟩|⟨bw,H⟩
    ·obtain⟨cB,H⟩:=vJ H;obtain⟨cK,H⟩:=vJ H;obtain⟨fw,H⟩:=vJ H;rcases iT H with⟨c8,H⟩|⟨c8,H⟩
     ·obtain⟨eD,eE⟩:=vl c8;clear c8;have H':=bm H;clear H;have bj:0≤(ae:Int):=jK;have bk:ae<(l0.length:Int):=jK;obtain⟨dI,cN,cO⟩:=Kd.at_int aK.out ae bj bk;cases cN;replace bj:=vI bj;replace bk:=vI bk;have bl:0≤(ae:Int):=jK;have bn:ae<(l1.length:Int):=jK;obtain⟨dJ,cP,cQ⟩:=Kd.at_int aV.out ae bl bn;cases cP;replace bl:=vI bl;replace bn:=vI bn;go_wp2;repeat(go_quiet (fail);try go_wp2)
      go_roundg k1
      case measure=>have:=aY.out;omega
      case rel=>exact⟨(wrap64 (ae+1)),(by first|rfl|(simp;done)|(simp[*];done)),H',⟨by have:=aY.out;omega⟩,by repeat(first|exact Drawn0.refl _|apply Drawn0.step)⟩
     ·obtain⟨eD,eE⟩:=vk c8;obtain rfl:=vZ H;have bj:0≤(ae:Int):=jK;have bk:ae<(l0.length:Int):=jK;obtain⟨dI,cN,cO⟩:=Kd.at_int aK.out ae bj bk;cases cN;replace bj:=vI bj;replace bk:=vI bk;have bl:0≤(ae:Int):=jK;have bn:ae<(l1.length:Int):=jK;obtain⟨dJ,cP,cQ⟩:=Kd.at_int aV.out ae bl bn;cases cP;replace bl:=vI bl;replace bn:=vI bn;go_wp2;repeat(go_quiet (fail);try go_wp2)
      go_ret;exact vn
    ·obtain rfl:=vZ H;go_wp2;repeat(go_quiet (fail);try go_wp2)
     go_ret;exact vn
 ·obtain⟨bZ,cy⟩:=vk c3;have eC:(l0.length==l1.length)=false:=by first|simpa using c3|(simp at c3⊢;omega)
  obtain rfl:=vZ H;go_enter Tryz.func123,Tryz.ntmps123;go_wp2;repeat(go_quiet (fail);try go_wp2)
  go_ret;exact vn
def lH.f (l0:List Int):Option (List Int):=if l0.length≤1000 then some (l0.mergeSort fun x y=>decide (x≤y))else none
theorem lH.calls (bO:Nat→Prop) (aJ:Value) (l0:List Int) (r:List Int) (w0 w:World) (hB:Below w0.heap.size w0 w) (aM:Kd.R (Kd.int .i64) 3 w w0.heap.size bO aJ l0) (h:lH.f l0=some r):
  Calls Tryz.prog 145 #[aJ] w fun e w'=>e= .returned (.tuple #[])∧Kd.R (Kd.int .i64) 3 w' w0.heap.size (fun k_=>(bO k_∨w.heap.size≤k_)) aJ r∧Below w0.heap.size w0 w'∧Kept w w' (fun k_=>bO k_):=by
 unfold lH.f at h;by_cases hs:l0.length≤1000
 ·rw[if_pos hs]at h;obtain rfl:=vZ h;by_cases hp:l0.length=0
  ·obtain⟨A,c,rfl,_,_⟩:=Kd.R_reads aM;obtain rfl:l0= []:=List.eq_nil_of_length_eq_zero hp;refine(Tryz.slices_Sort_int_none A c w).mono ?_;rintro e w' ⟨rfl,rfl⟩;exact⟨rfl,by rw[show(([]:List Int).mergeSort fun x y=>decide (x≤y))= [] from by simp];exact Kd.R_mono aM (fun k hk=>Or.inl hk),hB,Kept.refl _ _⟩
  ·obtain⟨cR,inner,cp,bo⟩:=aM;rcases cp.2 with⟨rfl,h0⟩|⟨g,cap,cur,rfl,cf,hb,h1,h2,h3,h4⟩
   ·exact absurd h0 hp
   ·have dK:inner=l0.map (Value.int .i64):=by
     have hl:=bo.1;have b7:=bo.2;apply List.ext_getElem
     ·rw[hl,List.length_map];exact Nat.mul_one _
     ·intro j hj hj';rw[List.length_map]at hj';have:=b7 j l0[j] (List.getElem?_eq_getElem hj');have e1:(inner.drop (j*1)).take 1= [inner[j]]:=by rw[Nat.mul_one,List.drop_eq_getElem_cons hj];rfl
      have e2:(inner.drop (j*1)).take 1= [Value.int .i64 l0[j]]:=this;rw[e1]at e2;rw[List.getElem_map];exact List.head_eq_of_cons_eq e2
    have dL:cur.toList.take l0.length=l0.map (Value.int .i64):=by rw[←dK,←h4];show _=cur.toList.take (l0.length*1);rw[Nat.mul_one]
    have hH:=holds_of_blockI hb dL;refine(Tryz.slices_Sort_int g 0 cap l0 w hH (Array.getElem?_eq_some_iff.1 hb).1 (by omega)).mono ?_;rintro e w' ⟨rfl,n,os,rfl⟩;obtain⟨ts,cu⟩:∃ts,ts=l0.mergeSort fun x y=>decide (x≤y):=⟨_,rfl⟩
    have hlen:ts.length=l0.length:=by rw[cu,List.length_mergeSort]
    rw[←cu];have hs:=ownsRow_sortedI (w:=w) (n:=n) (os:=os) (base:=w0.heap.size) (cap:=cap) hlen cf hb h1 h2 h3;have hg:=grownBy_sortedI (w:=w) (g:=g) (n:=n) (os:=os) ts.toArray
    have Et:Kd.R (Kd.int .i64) 3 (Sort.grow (Sort.putRow (Value.int .i64) (Sort.ahead w n) g 0 ts.toArray) os) w0.heap.size bO (.slice (some ⟨g,0,none⟩) l0.length cap) ts:=by
     refine⟨cR,_,by rw[hlen];exact hs,⟨by rw[List.length_map];exact(Nat.mul_one _).symm,fun j p hj=>?_⟩⟩;obtain⟨hj',rfl⟩:=List.getElem?_eq_some_iff.1 hj
     show(((ts.map (Value.int .i64)).drop (j*1)).take 1)= [Value.int .i64 ts[j]]
     rw[Nat.mul_one,List.drop_eq_getElem_cons (by rw[List.length_map];exact hj'),List.getElem_map];rfl
    refine⟨rfl,Kd.R_mono Et (fun k hk=>Or.inl hk),pw_below_grown hB (some g) hB.size hg (fun k hk=>by injection hk with hk;omega),hg.size,fun i hi dM=>hg.block i hi (fun e=>dM ?_)⟩;injection e with e
    subst e;exact cR _ rfl
 ·rw[if_neg hs]at h;cases h
def kK.f (l0:List Int):Option (List Int):=some (Lib.compact l0)
theorem kK.len (l:List Int):(Lib.compact l).length≤l.length:=by
 unfold Lib.compact Lib.compactUpTo;rw[List.length_map];exact Nat.le_trans (List.length_filter_le _ _) (by simp)
theorem kK.calls (bO:Nat→Prop) (aJ:Value) (l0:List Int) (r:List Int) (w0 w:World) (hB:Below w0.heap.size w0 w) (aM:Kd.R (Kd.int .i64) 3 w w0.heap.size bO aJ l0) (h:kK.f l0=some r):
  Calls Tryz.prog 146 #[aJ] w fun e w'=>∃cS:Value,e= .returned (cS)∧Kd.R (Kd.int .i64) 3 w' w0.heap.size (fun k_=>(bO k_∨w.heap.size≤k_)) cS r∧Below w0.heap.size w0 w'∧Kept w w' (fun k_=>bO k_):=by
 obtain rfl:=vZ h;by_cases hp:l0.length=0
 ·obtain⟨A,c,rfl,_,_⟩:=Kd.R_reads aM;obtain rfl:l0= []:=List.eq_nil_of_length_eq_zero hp;refine(Tryz.slices_Compact_int_empty A c w).mono ?_;rintro e w' ⟨rfl,rfl⟩;exact⟨_,rfl,Kd.R_mono aM (fun k hk=>Or.inl hk),hB,Kept.refl _ _⟩
 ·obtain⟨cR,inner,cp,bo⟩:=aM;have e7:=cp;rcases cp.2 with⟨rfl,h0⟩|⟨g,cap,cur,rfl,cf,hb,h1,h2,h3,h4⟩
  ·exact absurd h0 hp
  ·have dK:inner=l0.map (Value.int .i64):=by
    have hl:=bo.1;have b7:=bo.2;apply List.ext_getElem
    ·rw[hl,List.length_map];exact Nat.mul_one _
    ·intro j hj hj';rw[List.length_map]at hj';have:=b7 j l0[j] (List.getElem?_eq_getElem hj');have e1:(inner.drop (j*1)).take 1= [inner[j]]:=by rw[Nat.mul_one,List.drop_eq_getElem_cons hj];rfl
     have e2:(inner.drop (j*1)).take 1= [Value.int .i64 l0[j]]:=this;rw[e1]at e2;rw[List.getElem_map];exact List.head_eq_of_cons_eq e2
   have dL:cur.toList.take l0.length=l0.map (Value.int .i64):=by rw[←dK,←h4];show _=cur.toList.take (l0.length*1);rw[Nat.mul_one]
   have hH:=holds_of_blockI hb dL;have hm:l0.length≤9223372036854775807:=Nat.le_trans h1 h2;have e8:=kK.len l0;refine(Tryz.slices_Compact_int g 0 cap l0 w hH hm h1).mono ?_;rintro e w' ⟨rfl,n,rfl⟩;obtain⟨ts,cu⟩:∃ts,ts=Lib.compact l0++List.replicate (l0.length - (Lib.compact l0).length) 0:=⟨_,rfl⟩;have hlen:ts.length=l0.length:=by rw[cu,List.length_append,List.length_replicate];omega
   rw[←cu];have hs:=ownsRow_sortedI (w:=w) (n:=n) (os:= #[]) (base:=w0.heap.size) (cap:=cap) hlen cf hb h1 h2 h3;have hg:=grownBy_sortedI (w:=w) (g:=g) (n:=n) (os:= #[]) ts.toArray;rw[Sort.grow_empty]at hs hg
   have Et:Kd.R (Kd.int .i64) 3 (Sort.putRow (Value.int .i64) (Sort.ahead w n) g 0 ts.toArray) w0.heap.size bO (.slice (some ⟨g,0,none⟩) l0.length cap) ts:=by
    refine⟨cR,_,by rw[hlen];exact hs,⟨by rw[List.length_map];exact(Nat.mul_one _).symm,fun j p hj=>?_⟩⟩;obtain⟨hj',rfl⟩:=List.getElem?_eq_some_iff.1 hj
    show(((ts.map (Value.int .i64)).drop (j*1)).take 1)= [Value.int .i64 ts[j]]
    rw[Nat.mul_one,List.drop_eq_getElem_cons (by rw[List.length_map];exact hj'),List.getElem_map];rfl
   have hT:=Kd.R_take (m:=(Lib.compact l0).length) Et (by rw[hlen];exact e8);have e9:ts.take (Lib.compact l0).length=Lib.compact l0:=by rw[cu,List.take_left]
   rw[e9]at hT;refine⟨_,rfl,Kd.R_mono hT (fun k hk=>Or.inl hk),pw_below_grown hB (some g) hB.size hg (fun k hk=>by injection hk with hk;omega),hg.size,fun i hi dM=>hg.block i hi (fun e=>dM ?_)⟩;injection e with e
   subst e;exact cR _ rfl
def iD.l0:Nat→List Int→Int→Int→Int→Option (Int)
 |0,_,_,_,_=>none
 |k+1,x0,x1,x7,x8=>if x8<x7 then(if 0≤x8 then(if x8<(x0.length:Int)then(if x1=(rd x0 x8)then(some x8)else(iD.l0 k x0 x1 x7 (wrap64 (x8+1))))else(none))else(none))else(some (-1))
def iD.f (k:Nat) (l0:List Int) (a1:Int):Option (Int):=iD.l0 k l0 a1 (l0.length:Int) 0
theorem iD.gF:∀k,(∀y0 y1 y2 y3,ku (iD.l0 k y0 y1 y2 y3) (iD.l0 (k+1) y0 y1 y2 y3))
 |0=>fun _ _ _ _=> .z (by simp only[iD.l0])
 |k+1=>by
  have i0:=iD.gF k;exact fun _ _ _ _=>by unfold iD.l0;infer_instance
instance iD.mo {k a0 a1}:ku (iD.f k a0 a1) (iD.f (k+1) a0 a1):=by have i0:=iD.gF k;unfold iD.f;infer_instance
theorem iD.calls (k:Nat) (A0:Option Addr) (c0:Nat) (l0:List Int) (a1:Int) (r:Int) (w:World) (aH:Kd.C (Kd.int .i64) w A0 l0.length l0) (aD:l0.length≤c0) (h:iD.f k l0 a1=some r):
  Calls Tryz.prog 147 #[.slice A0 l0.length c0,.int .i64 a1] w fun e w'=>e= .returned (.int .i64 r)∧Drawn0 w w':=by
 have aK:=bm aH;have ct:=bm aD;clear aH aD;have H:=h;clear h;unfold iD.f at H;have H':=bm H;clear H;go_enter Tryz.func147,Tryz.ntmps147;go_wp2;go_loopg [8] k (fun kq v8 w'=>∃(az:Int),v8= .int .i64 az∧gm (iD.l0 kq l0 a1 (l0.length:Int) az=some r)∧gm (kq≤k)∧Drawn0 w w')
 case atStart=>exact⟨(0),(by first|rfl|(simp;done)|(simp[*];done)),H',⟨Nat.le_refl _⟩,by repeat(first|exact Drawn0.refl _|apply Drawn0.step)⟩
 case round=>
  clear H';obtain⟨az,rfl,HA,aY,⟨m1,rfl⟩⟩:=hrel;cases gk with
  |zero=>exact absurd HA.out (by simp[iD.l0])
  |succ k1=>
   have H:=HA.out;clear HA;simp only[iD.l0]at H;rcases vL H with⟨bZ,H⟩|⟨bZ,H⟩
   ·obtain⟨bw,H⟩:=vJ H;obtain⟨cB,H⟩:=vJ H;rcases iT H with⟨c6,H⟩|⟨c6,H⟩
    ·obtain⟨cK,dj⟩:=vl c6;clear c6;obtain rfl:=vZ H;have bp:0≤(az:Int):=jK;have bq:az<(l0.length:Int):=jK;obtain⟨dN,cT,cU⟩:=Kd.at_int aK.out az bp bq;cases cT;replace bp:=vI bp;replace bq:=vI bq;go_wp2;go_ret;exact vn
    ·obtain⟨cK,dj⟩:=vk c6;have H':=bm H;clear H;have bp:0≤(az:Int):=jK;have bq:az<(l0.length:Int):=jK;obtain⟨dN,cT,cU⟩:=Kd.at_int aK.out az bp bq;cases cT;replace bp:=vI bp;replace bq:=vI bq;go_wp2;go_roundg k1
     case measure=>have:=aY.out;omega
     case rel=>exact⟨(wrap64 (az+1)),(by first|rfl|(simp;done)|(simp[*];done)),H',⟨by have:=aY.out;omega⟩,by repeat(first|exact Drawn0.refl _|apply Drawn0.step)⟩
   ·obtain rfl:=vZ H;go_wp2;go_ret;exact vn
def kr.l0:Nat→List Int→List Int→List Int→Int→Int→Option (List Int)
 |0,_,_,_,_,_=>none
 |k+1,x3,x4,x15,x16,x17=>if x17<x16 then(if 0≤x17 then(if x17<(x15.length:Int)then((iD.f k x3 (rd x15 x17)).bind fun bz=>(if x4.length<17592186044416 then(kr.l0 k x3 (x4++ [bz]) x15 x16 (wrap64 (x17+1)))else(none)))else(none))else(none))else(some x4)
def kr.f (k:Nat) (l0:List Int):Option (List Int):=(some (([]:List Int):List Int)).bind fun aN=>(if aN.length+l0.length<17592186044416 then((lH.f (aN++l0)).bind fun aQ=>((kK.f aQ).bind fun ar=>(kr.l0 k ar (([]:List Int)) l0 (l0.length:Int) 0)))else(none))
theorem kr.gF:∀k,(∀y0 y1 y2 y3 y4,ku (kr.l0 k y0 y1 y2 y3 y4) (kr.l0 (k+1) y0 y1 y2 y3 y4))
 |0=>fun _ _ _ _ _=> .z (by simp only[kr.l0])
 |k+1=>by
  have i0:=kr.gF k;exact fun _ _ _ _ _=>by unfold kr.l0;infer_instance
instance kr.mo {k a0}:ku (kr.f k a0) (kr.f (k+1) a0):=by have i0:=kr.gF k;unfold kr.f;infer_instance
theorem kr.calls (k:Nat) (A0:Option Addr) (c0:Nat) (l0:List Int) (r:List Int) (w:World) (aH:Kd.C (Kd.int .i64) w A0 l0.length l0) (aD:l0.length≤c0) (h:kr.f k l0=some r):
  Calls Tryz.prog 126 #[.slice A0 l0.length c0] w fun e w'=>∃cS:Value,e= .returned (cS)∧Kd.R (Kd.int .i64) 3 w' w.heap.size (fun _=>True) cS r∧Below w.heap.size w w':=by
 have aK:=bm aH;have ct:=bm aD;clear aH aD;have HB:=bm (Below.refl w.heap.size w);have H:=h;clear h;unfold kr.f at H;obtain⟨aN,cg⟩:∃y_:List Int,y_=(([]:List Int)):=⟨_,rfl⟩;replace H:(if aN.length+l0.length<17592186044416 then((lH.f (aN++l0)).bind fun aQ=>((kK.f aQ).bind fun ar=>(kr.l0 k ar (([]:List Int)) l0 (l0.length:Int) 0)))else(none))=some r:=by first|(rw[cg];exact H)|exact H
 have cV:=bm cg;clear cg;obtain⟨c2,H⟩:=iN H;have eF:=bm c2;clear c2;obtain⟨bc,ch⟩:∃y_:List Int,y_=(aN++l0):=⟨_,rfl⟩;rw[←ch]at H
 have dO:=bm ch;clear ch;obtain⟨aQ,A3,H⟩:=bE H;try dsimp only at H
 obtain⟨ar,A4,H⟩:=bE H;try dsimp only at H
 obtain⟨dk,cj⟩:∃y_:List Int,y_=(([]:List Int)):=⟨_,rfl⟩;replace H:(kr.l0 k ar dk l0 (l0.length:Int) 0)=some r:=by first|(rw[cj];exact H)|exact H
 have cW:=bm cj;clear cj;have H':=bm H;clear H;go_enter Tryz.func126,Tryz.ntmps126;go_wp2_with (first|((with_reducible refine gate_dst (N:=7) rfl ?_);refine Kd.R_lit (Kd.int .i64) _ 3 ?hg (N:=7) ?hd (xs:=([]:List Int)) (inner:=[]) (ok:=fun _=>True) (okp:=fun _=>True) ?hr ?hp (fun _ hk=>hk) trivial (Below.refl _ _) (Nat.le_refl _) (by simp) ?_;(case hd=>rfl);(case hg=>rfl);(case hr=>first|(go_simp;done)|(go_simp;rfl));(case hp=>exact(Reps.none _ _));intro eG _ cX hb dP ck;clear dP ck;(first|rw[←cV.out]at cX|(simp only[Int.reduceToNat]at cX;rw[←cV.out]at cX));have da:=vm cX HB;replace HB:=bW HB hb;clear hb cX)|((with_reducible refine gate_builtin (b:=.append) (xs:= #[.tmp 7,.tmp 8]) rfl ?_);at_builtin;refine Kd.R_append_rows (Kd.int .i64) (w0:=w) w.heap.size rfl (.tmp 7) (.tmp 8) 23 3 (.int .i64 0) 8 rfl Tryz.underlying23 info3 rfl (by decide) (by omega) eG aN l0 _ _ _ (fun _=>True) (fun _=>False) rfl rfl ?aO ?aR (fun _ _ h=>h) (fun _ h=>h.elim) ?aF ?aB ?aS ?aL ?_;(case aR=>repeat(first|exact(Kd.C_below aK.out HB.out)|(with_reducible refine Kd.C_alloc ?_ _)|(with_reducible refine Kd.C_drewN ?_ _)|(with_reducible refine Kd.C_drew ?_)));(case aB=>exact(wZ HB));(case aF=>exact(fun _ _=>trivial));(case aO=>exact(rS da));(case aS=>exact(below_size (wZ HB)));(case aL=>have:=eF.out;omega);intro _ _ ho hb hg b7;rw[←dO.out]at ho;replace HB:=bm (hb);have a8:=bm (ho);clear da;clear ho hb hg b7;obtain⟨cv,cw,fa⟩:=Kd.R_slice a8.out;subst fa)|(refine gB (some 11) Tryz.func145 #[.slice cv bc.length cw] rfl ?_;(with_reducible refine(lH.calls (fun k_=>some k_=(.slice cv bc.length cw:Value).ownBlock) (.slice cv bc.length cw) bc aQ w _ ?ig ?ij A3.out).mono ?_);(case ig=>repeat(with_reducible first|exact HB.out|apply mU));(case ij=>exact Kd.R_tight rfl a8.out);rintro e _ ⟨rfl,eH,hb,dQ⟩;refine⟨_,rfl,?_⟩;replace a8:=bm (Kd.R_reok rfl eH (fun k_ e_=>a8.out.1 k_ e_));replace HB:=bm (hb);(try clear hb);(try clear dQ);(try clear eH))|(refine gB (some 13) Tryz.func146 #[.slice cv bc.length cw] rfl ?_;(with_reducible refine(kK.calls (fun k_=>some k_=(.slice cv bc.length cw:Value).ownBlock) (.slice cv bc.length cw) aQ ar w _ ?ig ?ij A4.out).mono ?_);(case ig=>repeat(with_reducible first|exact HB.out|apply mU));(case ij=>exact Kd.R_tight rfl a8.out);rintro e _ ⟨dm,rfl,aM,hb,dQ⟩;refine⟨_,rfl,?_⟩;have bT:=bm (Kd.R_mono (ok':=fun k_=>True) aM (fun k_ fG=>trivial));replace HB:=bm (hb);clear a8;(try clear hb);(try clear dQ);(try clear aM))|((with_reducible refine gate_dst (N:=14) rfl ?_);refine Kd.R_lit (Kd.int .i64) _ 3 ?hg (N:=14) ?hd (xs:=([]:List Int)) (inner:=[]) (ok:=fun _=>True) (okp:=fun _=>True) ?hr ?hp (fun _ hk=>hk) trivial (Below.refl _ _) (Nat.le_refl _) (by simp) ?_;(case hd=>rfl);(case hg=>rfl);(case hr=>first|(go_simp;done)|(go_simp;rfl));(case hp=>exact(Reps.none _ _));intro _ _ bA hb dP ck;clear dP ck;(first|rw[←cW.out]at bA|(simp only[Int.reduceToNat]at bA;rw[←cW.out]at bA));have dR:=bm (Kd.R_lower (Kd.R_new' bA (Kd.R_lt (rS bT))) (below_size (wZ HB)));replace bT:=bm (Kd.R_elder' (rS bT) (Kd.R_base bA) hb);replace HB:=bW HB hb;clear hb bA));go_loopg [4,17] k (fun kq v4 fc w'=>∃(af:List Int) (aA:Int),fc= .int .i64 aA∧gm (kr.l0 kq ar af l0 (l0.length:Int) aA=some r)∧gm (kq≤k)∧gm (Kd.R (Kd.int .i64) 3 w' w.heap.size (fun k_=>some k_≠(v4:Value).ownBlock) dm ar)∧gm (Kd.R (Kd.int .i64) 3 w' w.heap.size (fun k_=>some k_≠(dm:Value).ownBlock) v4 af)∧gm (Below w.heap.size w w'))
 case atStart=>exact⟨(dk),(0),(by first|rfl|(simp;done)|(simp[*];done)),H',⟨Nat.le_refl _⟩,⟨by(repeat apply Kd.RS);exact Kd.R_mono bT.out (fun _ hk=>hk.2)⟩,⟨by(repeat apply Kd.RS);exact Kd.R_mono dR.out (fun _ hk=>hk.2)⟩,⟨wZ HB⟩⟩
 case round=>
  clear H';obtain⟨af,aA,rfl,HA,aY,mX,oD,HB⟩:=hrel;cases gk with
  |zero=>exact absurd HA.out (by simp[kr.l0])
  |succ k1=>
   have H:=HA.out;clear HA;simp only[kr.l0]at H;rcases vL H with⟨dS,H⟩|⟨dS,H⟩
   ·obtain⟨fe,H⟩:=vJ H;obtain⟨ff,H⟩:=vJ H;obtain⟨bz,fg,H⟩:=bE H;try dsimp only at H
    obtain⟨eK,H⟩:=iN H;have dT:=bm eK;clear eK;obtain⟨dn,cl⟩:∃y_:List Int,y_=(af++ [bz]):=⟨_,rfl⟩;rw[←cl]at H
    have dU:=bm cl;clear cl;have H':=bm H;clear H;have dc:0≤(aA:Int):=jK;have dd:aA<(l0.length:Int):=jK;obtain⟨fh,eL,br⟩:=Kd.at_int aK.out aA dc dd;cases eL;replace br:=vA HB br;replace dc:=vI dc;replace dd:=vI dd;obtain⟨dp,dq,eM⟩:=Kd.R_slice mX.out;subst eM;go_wp2_with (first|(refine gB (some 24) Tryz.func147 #[.slice dp ar.length dq,.int .i64 (rd l0 aA)] rfl ?_;(with_reducible refine(iD.calls k1 _ _ ar (rd l0 aA) bz _ ?_ ?_ fg.out).mono ?_);exact cZ (Kd.R_reads' mX.out).2.2;exact(Kd.R_reads' mX.out).2.1;rintro e w' ⟨rfl,⟨nd,rfl⟩⟩;refine⟨_,rfl,?_⟩)|((with_reducible refine gate_builtin (b:=.append) (xs:= #[.tmp 21,.tmp 25]) rfl ?_);at_builtin;refine Kd.R_append (Kd.int .i64) (w0:=w) w.heap.size rfl (.tmp 21) (.tmp 25) 23 3 (.int .i64 0) 8 rfl Tryz.underlying23 info3 rfl (by decide) (by omega) u4 af bz [.int .i64 bz] (fun k_=>some k_≠(.slice dp ar.length dq:Value).ownBlock) (fun _=>False) rfl rfl ?aP (fun _ hk=>hk.elim) ?aF ?aO ?aB ?aS ?aL ?_;(case aP=>exact rfl);(case aB=>exact(wZ HB));(case aF=>exact(fun k_ hk=>Kd.fresh' (Kd.R_lt (rS mX)) k_ hk));(case aO=>exact(rS oD));(case aS=>exact(below_size (wZ HB)));(case aL=>have:=dT.out;omega);intro _ _ ho hb hg b7;rw[←dU.out]at ho;replace mX:=bm (Kd.R_after (ok:=(fun _=>True)) (by(repeat apply Kd.RS);exact Kd.R_mono mX.out (fun _ hk=>⟨trivial,hk⟩)) hg b7);replace HB:=bm (hb);have dV:=bm (ho);clear oD;clear ho hb hg b7));go_roundg k1
    case measure=>have:=aY.out;omega
    case rel=>exact⟨(dn),(wrap64 (aA+1)),(by first|rfl|(simp;done)|(simp[*];done)),H',⟨by have:=aY.out;omega⟩,⟨by(repeat apply Kd.RS);exact Kd.R_mono mX.out (fun _ hk=>hk.2)⟩,⟨by(repeat apply Kd.RS);exact dV.out⟩,⟨wZ HB⟩⟩
   ·obtain rfl:=vZ H;go_wp2;go_ret;exact⟨_,by first|rfl|(simp[*,fM,fN]<;>rfl),by(repeat apply Kd.RS);exact Kd.R_mono oD.out (fun _ hk=>trivial),wZ HB⟩
def kL.f (k:Nat) (a0:Int) (l1:List Int):Option (Bool):=(jG.f k a0 l1).bind fun b8=>(if b8=true then((kr.f k l1).bind fun bB=>((ie.f k bB l1).bind fun b9=>(some b9)))else(some false))
instance kL.mo {k a0 a1}:ku (kL.f k a0 a1) (kL.f (k+1) a0 a1):=by unfold kL.f;infer_instance
theorem kL.mono:∀a0 a1 k,LeO (kL.f k a0 a1) (kL.f (k+1) a0 a1):=fun _ _ _=>kL.mo.h
theorem kL.calls (k:Nat) (a0:Int) (A1:Option Addr) (c1:Nat) (l1:List Int) (r:Bool) (w:World) (b5:Kd.C (Kd.int .i64) w A1 l1.length l1) (b6:l1.length≤c1) (h:kL.f k a0 l1=some r):
  Calls Tryz.prog 96 #[.int .i64 a0,.slice A1 l1.length c1] w fun e w'=>e= .returned (.bool r)∧Below w.heap.size w w':=by
 have aV:=bm b5;have bH:=bm b6;clear b5 b6;have HB:=bm (Below.refl w.heap.size w);have H:=h;clear h;unfold kL.f at H;obtain⟨b8,A3,H⟩:=bE H;try dsimp only at H
 by_cases c4:b8=true
 ·subst c4;rw[if_pos rfl]at H;obtain⟨bB,A5,H⟩:=bE H;try dsimp only at H
  obtain⟨b9,A6,H⟩:=bE H;try dsimp only at H
  obtain rfl:=vZ H;go_enter Tryz.func96,Tryz.ntmps96;go_wp2_with (first|(refine gB (some 7) Tryz.func66 #[.int .i64 a0,.slice A1 l1.length c1] rfl ?_;(with_reducible refine(jG.calls k a0 _ _ l1 true _ ?_ ?_ A3.out).mono ?_);exact cZ aV.out;exact bH.out;rintro e _ ⟨rfl,hb⟩;refine⟨_,rfl,?_⟩;replace HB:=bW HB hb;clear hb)|(go_at_call 126;(with_reducible refine(kr.calls k _ _ l1 bB _ ?_ ?_ A5.out).mono ?_);exact cY aV HB;exact bH.out;rintro e _ ⟨_,rfl,aM,hb⟩;have cm:=vm aM HB;replace HB:=bW HB hb;clear hb;(try clear aM);obtain⟨fJ,fK,fi⟩:=Kd.R_slice cm.out;subst fi)|(go_at_call 123;(with_reducible refine(ie.calls k _ _ bB _ _ l1 b9 _ ?_ ?_ ?_ ?_ A6.out).mono ?_);exact cZ (Kd.R_reads' cm.out).2.2;exact(Kd.R_reads' cm.out).2.1;exact cY aV HB;exact bH.out;rintro e w' ⟨rfl,⟨nd,rfl⟩⟩));go_ret;exact vo HB
 ·replace c4:=uZ c4;subst c4;rw[if_neg vR]at H;obtain rfl:=vZ H;go_enter Tryz.func96,Tryz.ntmps96;go_wp2_with (first|(refine gB (some 7) Tryz.func66 #[.int .i64 a0,.slice A1 l1.length c1] rfl ?_;(with_reducible refine(jG.calls k a0 _ _ l1 false _ ?_ ?_ A3.out).mono ?_);exact cZ aV.out;exact bH.out;rintro e _ ⟨rfl,hb⟩;refine⟨_,rfl,?_⟩;replace HB:=bW HB hb;clear hb));go_ret;exact vo HB
def wT (g:Nat) (lb:Array Value) (p:List Int→Option Bool) (w:World):Prop:=
 ∀(W:World) (A:Option Addr) (c:Nat) (l:List Int) (b:Bool),Below w.heap.size w W→Kd.C (Kd.int .i64) W A l.length l→l.length≤c→p l=some b→
  Calls Tryz.prog g (#[.slice A l.length c]++lb) W fun e w'=>e= .returned (.bool b)∧Below W.heap.size W w'
theorem BM {w:World} {A:Option Addr} {n:Nat} {xs:List (List Int)} (h:Kd.C (Kd.slice 3 (Kd.int .i64)) w A n xs) (i:Int) (h0:0≤i) (h1:i<n):
  ∃ad A0 c0,A=some ad∧w.cell? (ad.add i.toNat)=some (.slice A0 (xs.getD i.toNat []).length c0)∧(xs.getD i.toNat []).length≤c0∧Kd.C (Kd.int .i64) w A0 (xs.getD i.toNat []).length (xs.getD i.toNat []):=by
 obtain⟨ad,c,e,_,hK,aD⟩:=Kd.C_get h ([]:List Int) i h0 h1;have hc:∀j u,c[j]?=some u→w.cell? (ad.add (i.toNat*1+j))=some u:=aD;obtain⟨A0,c0,rfl,l0,g0⟩:=hK;exact⟨ad,A0,c0,e,by have hq:=hc 0 _ rfl;rwa [Nat.mul_one,Nat.add_zero]at hq,l0,g0⟩
theorem yt {p:List Int→Option Bool} {l:List (List Int)} {x:Int} (h0:0≤x) (h1:x<(l.length:Int)):
  Hof.si p (l.drop x.toNat) x=(p (l.getD x.toNat [])).bind fun b=>if b=true then some x else Hof.si p (l.drop (x+1).toNat) (x+1):=by
 have hl:x.toNat<l.length:=by omega
 rw[List.drop_eq_getElem_cons hl,show(x+1).toNat=x.toNat+1 from by omega,List.getD_eq_getElem?_getD,List.getElem?_eq_getElem hl];rfl
theorem rJ (g:Nat) (lb:Array Value) (eg:∀args w,(callFunc g args).run Tryz.prog w= .ok (.enter g args) w) (p:List Int→Option Bool)
  (A:Option Addr) (c:Nat) (l:List (List Int)) (r:Int) (w:World) (hr:Kd.C (Kd.slice 3 (Kd.int .i64)) w A l.length l) (hp:wT g lb p w) (h:Hof.si p l 0=some r):
  Calls Tryz.prog 127 #[.slice A l.length c,.func (.func g) #[] lb] w fun e w'=>e= .returned (.int .i64 r)∧Below w.heap.size w w':=by
 have HR:=bm hr;have HP:=bm hp;have HH:gm (Hof.si p (l.drop (0:Int).toNat) 0=some r):=bm h;have hlen:(l.length:Int)≤9223372036854775807:=by have:=hr.2.1;omega
 clear hr hp h;go_enter Tryz.func127,Tryz.ntmps127;go_wp2;go_loopg [5,8] l.length (fun gg _ s8 wr=>∃x:Int,0≤x∧x≤(l.length:Int)∧(l.length:Int) - x≤gg∧s8= .int .i64 x∧gm (Below w.heap.size w wr)∧gm (Hof.si p (l.drop x.toNat) x=some r))
 case atStart=>exact⟨0,by omega,by omega,by omega,rfl,⟨Below.refl _ _⟩,HH⟩
 case round=>
  clear HH;obtain⟨x,eN,fL,hg,rfl,HB,HA⟩:=hrel;by_cases eO:x<(l.length:Int)
  ·obtain⟨ad,A0,c0,e,hx,dW,eP⟩:=BM HR.out x eN eO;cases e;replace hx:=vA HB hx;have dX:=Kd.C_below eP HB.out;obtain⟨b,hb,bs⟩:=Option.bind_eq_some_iff.mp ((yt eN eO).symm.trans HA.out);clear HA;obtain⟨y,hy⟩:∃y,y=l.getD x.toNat []:=⟨_,rfl⟩;rw[←hy]at hx dW dX hb;have bu:=HP.out wr A0 c0 y b HB.out dX dW hb;have sF:=bm bs;clear bs hb HR HP eP dX dW hy;cases b with
   |true=>
    go_wp2_with fail;refine bu.mono ?_;rintro e w' ⟨rfl,hb'⟩;go_wp2_with fail;obtain rfl:x=r:=by have:=sF.out;simpa using this
    go_ret;exact⟨rfl,below_then HB.out HB.out.size hb'⟩
   |false=>
    go_wp2_with fail;refine bu.mono ?_;rintro e w' ⟨rfl,hb'⟩;go_wp2_with fail;go_roundg (l.length - (x+1).toNat)
    case measure=>omega
    case rel=>exact⟨x+1,by omega,by omega,by omega,by go_num,⟨below_then HB.out HB.out.size hb'⟩,⟨by have:=sF.out;simpa using this⟩⟩
  ·have fj:x=(l.length:Int):=by omega
   have e2:(-1:Int)=r:=by
    have:=HA.out;rw[fj,show((l.length:Int)).toNat=l.length from by omega,List.drop_length]at this;simpa [Hof.si] using this
   clear HA;subst e2;go_wp2;go_ret;exact⟨rfl,HB.out⟩
theorem qH (g:Nat) (lb:Array Value) (eg:∀args w,(callFunc g args).run Tryz.prog w= .ok (.enter g args) w) (p:List Int→Option Bool)
  (A:Option Addr) (c:Nat) (l:List (List Int)) (r:Bool) (w:World) (hr:Kd.C (Kd.slice 3 (Kd.int .i64)) w A l.length l) (hp:wT g lb p w) (h:Hof.yP p l=some r):
  Calls Tryz.prog 97 #[.slice A l.length c,.func (.func g) #[] lb] w fun e w'=>e= .returned (.bool r)∧Below w.heap.size w w':=by
 obtain⟨i,hi,hr'⟩:=Option.bind_eq_some_iff.mp h;obtain rfl:=vZ hr';clear h;have bu:=rJ g lb eg p A c l i w hr hp hi;clear hi hp hr hr';have HC:=bm bu;clear bu;go_enter Tryz.func97,Tryz.ntmps97;go_wp2_with (go_at_call 127;refine HC.out.mono ?_;rintro e w' ⟨rfl,hb'⟩);go_ret;exact⟨rfl,hb'⟩
def jW.no (k:Nat) (a0:Int) (x:List Int):Option Bool:=(kL.f k a0 x).bind fun b=>some (!b)
def jW.f (k:Nat) (aT:Int) (a6:List Int) (aq:List (List Int)):Option Bool:=(kL.f k aT a6).bind fun t=>if t=true then(if(aq.length:Int)≤10 then(Hof.yP (jW.no k aT) aq).bind fun b=>some (!b)else some false)else some false
theorem uj {α:Type} {p q:α→Option Bool} (h:∀x,LeO (p x) (q x)):∀(l:List α) (i:Int),LeO (Hof.si p l i) (Hof.si q l i)
 | [],_=>LeO.refl _
 |x::l,i=>by
  unfold Hof.si;refine LeO.bind (h x) (fun b=>?_);split
  ·exact LeO.refl _
  ·exact uj h l (i+1)
theorem jW.mono:∀a0 a1 a2 k,LeO (jW.f k a0 a1 a2) (jW.f (k+1) a0 a1 a2):=by
 intro a0 a1 a2 k;unfold jW.f;refine LeO.bind (kL.mono _ _ _) (fun t=>LeO.ite (LeO.ite (LeO.bind ?_ (fun b=>LeO.refl _)) (LeO.refl _)) (LeO.refl _));unfold Hof.yP;refine LeO.bind (uj (fun x=>?_) _ _) (fun b=>LeO.refl _);unfold jW.no;exact LeO.bind (kL.mono _ _ _) (fun b=>LeO.refl _)
instance jW.mo {k a0 a1 a2}:ku (jW.f k a0 a1 a2) (jW.f (k+1) a0 a1 a2):=⟨jW.mono a0 a1 a2 k⟩
theorem jW.gives (k:Nat) (w:World) (B:Nat) (a0:Int) (hB:B<w.heap.size) (hc:w.cell? ⟨B,0,none⟩=some (.int .i64 a0)):wT 98 #[.pointer (some ⟨B,0,none⟩)] (jW.no k a0) w:=fun W A c l b hb hC hl hp=>by
 have hc':=(hb.cell (p:=⟨B,0,none⟩) hB).trans hc;obtain⟨t,ht,bs⟩:=Option.bind_eq_some_iff.mp hp;obtain rfl:=vZ bs;have HS:=bm (kL.calls k a0 A c l t W hC hl ht);clear hc hb hp ht bs hC hl;have hu:=Tryz.underlying26;go_enter Tryz.func98,Tryz.ntmps98;go_wp2_with fail;refine HS.out.mono ?_;rintro e w1 ⟨rfl,a7⟩;go_wp2;go_ret;exact⟨rfl,a7⟩
theorem jW.calls (k:Nat) (aT:Int) (cq:Option Addr) (cr:Nat) (a6:List Int) (bD:Option Addr) (bF:Nat) (aq:List (List Int)) (r:Bool) (w:World) (de:Kd.C (Kd.int .i64) w cq a6.length a6) (df:a6.length≤cr) (dh:Kd.C (Kd.slice 3 (Kd.int .i64)) w bD aq.length aq) (fk:aq.length≤bF) (h:jW.f k aT a6 aq=some r):
  Calls Tryz.prog 43 #[.agg #[.int .i64 aT,.slice cq a6.length cr,.slice bD aq.length bF]] w fun e w'=>e= .returned (.bool r)∧Below w.heap.size w w':=by
 have hu:=Tryz.underlying26;obtain⟨t,ht,h⟩:=Option.bind_eq_some_iff.mp h;have aV:=bm de;have fl:=bm dh;have HB:=bm (Below.refl w.heap.size w);have HA:=bm (xA HB.out (.cells #[.int .i64 aT,.slice cq a6.length cr,.slice bD aq.length bF] 26));have HT:=bm (fun W hR=>kL.calls k aT cq cr a6 t W hR df ht);clear de dh ht df;cases t with
 |false=>
  obtain rfl:false=r:=by simpa using h
  clear h;go_enter Tryz.func43,Tryz.ntmps43;go_wp2_with fail;refine(HT.out _ (Kd.C_below aV.out HA.out)).mono ?_;rintro e w1 ⟨rfl,a7⟩;have cn:=bm (below_then HA.out HA.out.size a7);clear a7;go_wp2;go_ret;exact⟨rfl,cn.out⟩
 |true=>
  rw[if_pos rfl]at h;by_cases hl:(aq.length:Int)≤10
  ·rw[if_pos hl]at h;obtain⟨b,hb,h⟩:=Option.bind_eq_some_iff.mp h;obtain rfl:=vZ h;have HC:=bm (fun W hR hp=>qH 98 #[.pointer (some ⟨w.heap.size,0,none⟩)] (Hof.enters Tryz.func98 (by kernel_rfl) rfl) (jW.no k aT) bD bF aq b W hR hp hb);clear h hb;have hl':decide ((aq.length:Int)≤10)=true:=vG hl;have fm:decide (aq.length≤10)=true:=vG (by omega);clear hl;go_enter Tryz.func43,Tryz.ntmps43;go_wp2_with fail;refine(HT.out _ (Kd.C_below aV.out HA.out)).mono ?_;rintro e w1 ⟨rfl,a7⟩;have k0:w1.cell? ⟨w.heap.size,0,none⟩=some (.int .i64 aT):=(a7.cell (p:=⟨w.heap.size,0,none⟩) (by simp)).trans (by simp);have k2:w1.cell? ⟨w.heap.size,2,none⟩=some (.slice bD aq.length bF):=(a7.cell (p:=⟨w.heap.size,2,none⟩) (by simp)).trans (by simp);have hz:w.heap.size<w1.heap.size:=Nat.lt_of_lt_of_le (by simp) a7.size;have cn:=bm (below_then HA.out HA.out.size a7);have HG:=bm (jW.gives k w1 w.heap.size aT hz k0);clear a7 hz;go_wp2_with fail;refine(HC.out _ (Kd.C_below fl.out cn.out) HG.out).mono ?_;rintro e _ ⟨rfl,cc⟩;go_wp2;go_ret;exact⟨rfl,below_then cn.out cn.out.size cc⟩
  ·rw[if_neg hl]at h;obtain rfl:=vZ h;clear h;have hl':decide ((aq.length:Int)≤10)=false:=vB hl;have fm:decide (aq.length≤10)=false:=vB (by omega);clear hl;go_enter Tryz.func43,Tryz.ntmps43;go_wp2_with fail;refine(HT.out _ (Kd.C_below aV.out HA.out)).mono ?_;rintro e w1 ⟨rfl,a7⟩;have k2:w1.cell? ⟨w.heap.size,2,none⟩=some (.slice bD aq.length bF):=(a7.cell (p:=⟨w.heap.size,2,none⟩) (by simp)).trans (by simp);have cn:=bm (below_then HA.out HA.out.size a7);clear a7;go_wp2;go_ret;exact⟨rfl,cn.out⟩
end Go.Proofs.YtihgpkohglcijaaGreatDoor.P
