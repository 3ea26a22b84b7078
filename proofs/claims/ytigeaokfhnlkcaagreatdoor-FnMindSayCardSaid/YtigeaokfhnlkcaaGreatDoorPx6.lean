import Derived.Test.YtigeaokfhnlkcaaGreatDoorPx0
import Derived.Test.YtigeaokfhnlkcaaGreatDoorPx2
import Derived.Test.YtigeaokfhnlkcaaGreatDoorPx4
import Derived.Test.YtigeaokfhnlkcaaGreatDoorPx5
namespace Go.Proofs.YtigeaokfhnlkcaaGreatDoor.P
open Go.RowKit YtigeaokfhnlkcaaGreatDoorW PrintWords PrintLast PrintMore
attribute [local go_sem] max2_int min2_int max_two min_two max_three min_three max_four min_four
set_option linter.unusedVariables false
set_option linter.unusedSimpArgs false
set_option maxHeartbeats 8000000
set_option maxRecDepth 100000
mutual
def iQ.l0:Nat→LI→LI→Int→Option LI
 |0,_,_,_=>none
 |k+1,x0,x3,x4=>if x4<(x0.length:Int)then(iQ.l1 k x0 x3 x4 (([]:LI)) 0)else(some x3)
def iQ.l1:Nat→LI→LI→Int→LI→Int→Option LI
 |0,_,_,_,_,_=>none
 |k+1,x0,x3,x4,x5,x6=>if x6<(x0.length:Int)then(if 0≤x6 then(if 0≤x4 then(if x4<(x0.length:Int)then(iQ.l2 k x0 x3 x4 x5 x6 (decide ((rd x0 x6)≥(rd x0 x4))) 0)else(none))else(none))else(none))else(if x3.length<17592186044416 then(iQ.l0 k x0 (x3++ [(x5.length:Int)]) (wrap64 (x4+1)))else(none))
def iQ.l2:Nat→LI→LI→Int→LI→Int→Bool→Int→Option LI
 |0,_,_,_,_,_,_,_=>none
 |k+1,x0,x3,x4,x5,x6,x7,x8=>if x8<(x5.length:Int)then(if x7=true then(iQ.l2 k x0 x3 x4 x5 x6 true (wrap64 (x8+1)))else(if 0≤x8 then(if 0≤x6 then(if x6<(x0.length:Int)then(iQ.l2 k x0 x3 x4 x5 x6 ((rd x5 x8)==(rd x0 x6)) (wrap64 (x8+1)))else(none))else(none))else(none)))else(if x7=true then(iQ.l1 k x0 x3 x4 x5 (wrap64 (x6+1)))else(if 0≤x6 then(if x6<(x0.length:Int)then(if x5.length<17592186044416 then(iQ.l1 k x0 x3 x4 (x5++ [rd x0 x6]) (wrap64 (x6+1)))else(none))else(none))else(none)))
end
def iQ.f (k:Nat) (l0:LI):Option LI:=iQ.l0 k l0 (([]:LI)) 0
theorem iQ.hZ:∀k,(∀y0 y1 y2,lS (iQ.l0 k y0 y1 y2) (iQ.l0 (k+1) y0 y1 y2))∧(∀y0 y1 y2 y3 y4,lS (iQ.l1 k y0 y1 y2 y3 y4) (iQ.l1 (k+1) y0 y1 y2 y3 y4))∧(∀y0 y1 y2 y3 y4 y5 y6,lS (iQ.l2 k y0 y1 y2 y3 y4 y5 y6) (iQ.l2 (k+1) y0 y1 y2 y3 y4 y5 y6))
 |0=>⟨fun _ _ _=> .z (by simp only[iQ.l0]),fun _ _ _ _ _=> .z (by simp only[iQ.l1]),fun _ _ _ _ _ _ _=> .z (by simp only[iQ.l2])⟩
 |k+1=>by
  have⟨i0,i1,i2⟩:=iQ.hZ k;exact⟨fun _ _ _=>by unfold iQ.l0;infer_instance,fun _ _ _ _ _=>by unfold iQ.l1;infer_instance,fun _ _ _ _ _ _ _=>by unfold iQ.l2;infer_instance⟩
instance iQ.mo {k a0}:lS (iQ.f k a0) (iQ.f (k+1) a0):=by have⟨i0,i1,i2⟩:=iQ.hZ k;unfold iQ.f;infer_instance
theorem iQ.calls (k:Nat) (A0:Option Addr) (c0:Nat) (l0:LI) (r:LI) (w:World) (b1:Kd.C KI w A0 l0.length l0) (b4:l0.length≤c0) (h:iQ.f k l0=some r):
  Calls Tryz.prog 132 #[.slice A0 l0.length c0] w fun e w'=>∃aY:Value,e= .returned (aY)∧Kd.R KI 3 w' w.heap.size (fun _=>True) aY r∧Below w.heap.size w w':=by
 have bV:=bm b1;have dT:=bm b4;clear b1 b4;have HB:=bm (Below.refl w.heap.size w);have H:=h;clear h;unfold iQ.f at H;obtain⟨cC,bd⟩:∃y_:LI,y_=(([]:LI)):=⟨_,rfl⟩;replace H:(iQ.l0 k l0 cC 0)=some r:=by first|(rw[bd];exact H)|exact H
 have aw:=bm bd;clear bd;have H':=bm H;clear H;go_enter Tryz.func132,Tryz.ntmps132;go_wp2_with (first|((with_reducible refine gate_dst (N:=9) rfl ?_);refine Kd.R_lit KI _ 3 ?hg (N:=9) ?hd (xs:=([]:LI)) (inner:=[]) (ok:=fun _=>True) (okp:=fun _=>True) ?hr ?hp (fun _ hk=>hk) trivial (Below.refl _ _) (Nat.le_refl _) (by simp) ?_;(case hd=>rfl);(case hg=>rfl);(case hr=>first|(go_simp;done)|(go_simp;rfl));(case hp=>exact(Reps.none _ _));intro _ _ al hb ar aa;clear ar aa;(first|rw[←aw.out]at al|(simp only[Int.reduceToNat]at al;rw[←aw.out]at al));have bf:=rL al HB;replace HB:=bW HB hb;clear hb al));repeat(go_quiet (first|((with_reducible refine gate_dst (N:=9) rfl ?_);refine Kd.R_lit KI _ 3 ?hg (N:=9) ?hd (xs:=([]:LI)) (inner:=[]) (ok:=fun _=>True) (okp:=fun _=>True) ?hr ?hp (fun _ hk=>hk) trivial (Below.refl _ _) (Nat.le_refl _) (by simp) ?_;(case hd=>rfl);(case hg=>rfl);(case hr=>first|(go_simp;done)|(go_simp;rfl));(case hp=>exact(Reps.none _ _));intro _ _ al hb ar aa;clear ar aa;(first|rw[←aw.out]at al|(simp only[Int.reduceToNat]at al;rw[←aw.out]at al));have bf:=rL al HB;replace HB:=bW HB hb;clear hb al));try go_wp2_with (first|((with_reducible refine gate_dst (N:=9) rfl ?_);refine Kd.R_lit KI _ 3 ?hg (N:=9) ?hd (xs:=([]:LI)) (inner:=[]) (ok:=fun _=>True) (okp:=fun _=>True) ?hr ?hp (fun _ hk=>hk) trivial (Below.refl _ _) (Nat.le_refl _) (by simp) ?_;(case hd=>rfl);(case hg=>rfl);(case hr=>first|(go_simp;done)|(go_simp;rfl));(case hp=>exact(Reps.none _ _));intro _ _ al hb ar aa;clear ar aa;(first|rw[←aw.out]at al|(simp only[Int.reduceToNat]at al;rw[←aw.out]at al));have bf:=rL al HB;replace HB:=bW HB hb;clear hb al)))
 go_loopg [3,4] k (fun kq v3 v4 w'=>∃(af:LI) (ag:Int),v4= .int .i64 ag∧hJ (iQ.l0 kq l0 af ag=some r)∧hJ (kq≤k)∧hJ (Kd.R KI 3 w' w.heap.size (fun _=>True) v3 af)∧hJ (Below w.heap.size w w'))
 case atStart=>exact⟨(cC),(0),eA,H',⟨Nat.le_refl _⟩,⟨rS bf⟩,⟨wZ HB⟩⟩
 case round=>
  clear H';obtain⟨af,ag,rfl,HA,ax,qV,HB⟩:=hrel;cases gk with
  |zero=>exact absurd HA.out (by simp[iQ.l0])
  |succ k1=>
   have H:=HA.out;clear HA;simp only[iQ.l0]at H;rcases pP H with⟨dh,H⟩|⟨dh,H⟩
   ·obtain⟨cE,bg⟩:∃y_:LI,y_=(([]:LI)):=⟨_,rfl⟩;replace H:(iQ.l1 k1 l0 af ag cE 0)=some r:=by first|(rw[bg];exact H)|exact H
    have ay:=bm bg;clear bg;have H':=bm H;clear H;go_wp2_with (first|((with_reducible refine gate_dst (N:=16) rfl ?_);refine Kd.R_lit KI _ 3 ?hg (N:=16) ?hd (xs:=([]:LI)) (inner:=[]) (ok:=fun _=>True) (okp:=fun _=>True) ?hr ?hp (fun _ hk=>hk) trivial (Below.refl _ _) (Nat.le_refl _) (by simp) ?_;(case hd=>rfl);(case hg=>rfl);(case hr=>first|(go_simp;done)|(go_simp;rfl));(case hp=>exact(Reps.none _ _));intro _ _ ah hb ar aa;clear ar aa;(first|rw[←ay.out]at ah|(simp only[Int.reduceToNat]at ah;rw[←ay.out]at ah));have bh:=bm (Kd.R_lower (Kd.R_new' ah (Kd.R_lt (rS qV))) (below_size (wZ HB)));replace qV:=bm (Kd.R_elder' (rS qV) (Kd.R_base ah) hb);replace HB:=bW HB hb;clear hb ah));repeat(go_quiet (first|((with_reducible refine gate_dst (N:=16) rfl ?_);refine Kd.R_lit KI _ 3 ?hg (N:=16) ?hd (xs:=([]:LI)) (inner:=[]) (ok:=fun _=>True) (okp:=fun _=>True) ?hr ?hp (fun _ hk=>hk) trivial (Below.refl _ _) (Nat.le_refl _) (by simp) ?_;(case hd=>rfl);(case hg=>rfl);(case hr=>first|(go_simp;done)|(go_simp;rfl));(case hp=>exact(Reps.none _ _));intro _ _ ah hb ar aa;clear ar aa;(first|rw[←ay.out]at ah|(simp only[Int.reduceToNat]at ah;rw[←ay.out]at ah));have bh:=bm (Kd.R_lower (Kd.R_new' ah (Kd.R_lt (rS qV))) (below_size (wZ HB)));replace qV:=bm (Kd.R_elder' (rS qV) (Kd.R_base ah) hb);replace HB:=bW HB hb;clear hb ah));try go_wp2_with (first|((with_reducible refine gate_dst (N:=16) rfl ?_);refine Kd.R_lit KI _ 3 ?hg (N:=16) ?hd (xs:=([]:LI)) (inner:=[]) (ok:=fun _=>True) (okp:=fun _=>True) ?hr ?hp (fun _ hk=>hk) trivial (Below.refl _ _) (Nat.le_refl _) (by simp) ?_;(case hd=>rfl);(case hg=>rfl);(case hr=>first|(go_simp;done)|(go_simp;rfl));(case hp=>exact(Reps.none _ _));intro _ _ ah hb ar aa;clear ar aa;(first|rw[←ay.out]at ah|(simp only[Int.reduceToNat]at ah;rw[←ay.out]at ah));have bh:=bm (Kd.R_lower (Kd.R_new' ah (Kd.R_lt (rS qV))) (below_size (wZ HB)));replace qV:=bm (Kd.R_elder' (rS qV) (Kd.R_base ah) hb);replace HB:=bW HB hb;clear hb ah)))
    go_loopg [5,6] k1 (fun kq v5 v6 w'=>∃(j:LI) (o:Int),v6= .int .i64 o∧hJ (iQ.l1 kq l0 af ag j o=some r)∧hJ (kq≤k1)∧hJ (Kd.R KI 3 w' w.heap.size (fun k_=>some k_≠(v5:Value).ownBlock) u3 af)∧hJ (Kd.R KI 3 w' w.heap.size (fun k_=>some k_≠(u3:Value).ownBlock) v5 j)∧hJ (Below w.heap.size w w'))
    case atStart=>exact⟨(cE),(0),eA,H',⟨Nat.le_refl _⟩,⟨by(repeat apply Kd.RS);exact Kd.R_mono qV.out (fun _ hk=>hk.2)⟩,⟨by(repeat apply Kd.RS);exact Kd.R_mono bh.out (fun _ hk=>hk.2)⟩,⟨wZ HB⟩⟩
    case round=>
     clear H';obtain⟨j,o,rfl,HA,az,qV,oT,HB⟩:=hrel;cases gk with
     |zero=>exact absurd HA.out (by simp[iQ.l1])
     |succ k2=>
      have H:=HA.out;clear HA;simp only[iQ.l1]at H;rcases pP H with⟨di,H⟩|⟨di,H⟩
      ·obtain⟨ei,H⟩:=pN H;obtain⟨ej,H⟩:=pN H;obtain⟨aA,H⟩:=pN H;have H':=bm H;clear H;have b5:0≤(o:Int):=ko;have b6:o<(l0.length:Int):=ko;obtain⟨bj,dj,aG⟩:=Kd.at_int bV.out o b5 b6;cases dj;replace aG:=pE HB aG;replace b5:=pM b5;replace b6:=pM b6;have b7:0≤(ag:Int):=ko;have b8:ag<(l0.length:Int):=ko;obtain⟨cK,dk,aH⟩:=Kd.at_int bV.out ag b7 b8;obtain rfl:bj=cK:=(by injection dk);replace aH:=pE HB aH;replace b7:=pM b7;replace b8:=pM b8;go_wp2;repeat(go_quiet (fail);try go_wp2)
       go_loopg [7,8] k2 (fun kq v7 v8 w'=>∃(aZ:Bool) (av:Int),v7= .bool aZ∧v8= .int .i64 av∧hJ (iQ.l2 kq l0 af ag j o aZ av=some r)∧hJ (kq≤k2)∧hJ (Kd.R KI 3 w' w.heap.size (fun k_=>some k_≠(u5:Value).ownBlock) u3 af)∧hJ (Kd.R KI 3 w' w.heap.size (fun k_=>some k_≠(u3:Value).ownBlock) u5 j)∧hJ (Below w.heap.size w w'))
       case atStart=>exact⟨(decide ((rd l0 o)≥(rd l0 ag))),(0),eA,eA,H',⟨Nat.le_refl _⟩,⟨rS qV⟩,⟨rS oT⟩,⟨wZ HB⟩⟩
       case round=>
        clear H';obtain⟨aZ,av,rfl,rfl,HA,a6,qV,oT,HB⟩:=hrel;cases gk with
        |zero=>exact absurd HA.out (by simp[iQ.l2])
        |succ k3=>
         have H:=HA.out;clear HA;simp only[iQ.l2]at H;rcases pP H with⟨cL,H⟩|⟨cL,H⟩
         ·by_cases cB:aZ=true
          ·subst cB;rw[if_pos rfl]at H;have H':=bm H;clear H;obtain⟨ek,el,dm⟩:=Kd.R_slice oT.out;subst dm;go_wp2;repeat(go_quiet (fail);try go_wp2)
           go_roundg k3
           case measure=>have:=ax.out;have:=az.out;have:=a6.out;omega
           case rel=>exact⟨(true),(wrap64 (av+1)),eA,eA,H',⟨by have:=ax.out;have:=az.out;have:=a6.out;omega⟩,⟨rS qV⟩,⟨rS oT⟩,⟨wZ HB⟩⟩
          ·replace cB:=pD cB;subst cB;rw[if_neg pV]at H;obtain⟨dU,H⟩:=pN H;obtain⟨dV,H⟩:=pN H;obtain⟨b9,H⟩:=pN H;have H':=bm H;clear H;obtain⟨en,eo,dq⟩:=Kd.R_slice oT.out;subst dq;have ca:0≤(av:Int):=ko;have cb:av<(j.length:Int):=ko;obtain⟨dW,dr,dt⟩:=Kd.at_int (Kd.R_reads' oT.out).2.2 av ca cb;cases dr;replace ca:=pM ca;replace cb:=pM cb;have cc:0≤(o:Int):=ko;have cd:o<(l0.length:Int):=ko;obtain⟨cM,du,aI⟩:=Kd.at_int bV.out o cc cd;obtain rfl:bj=cM:=(by injection du);replace aI:=pE HB aI;replace cc:=pM cc;replace cd:=pM cd;go_wp2;repeat(go_quiet (fail);try go_wp2)
           go_roundg k3
           case measure=>have:=ax.out;have:=az.out;have:=a6.out;omega
           case rel=>exact⟨(((rd j av)==(rd l0 o))),(wrap64 (av+1)),eA,eA,H',⟨by have:=ax.out;have:=az.out;have:=a6.out;omega⟩,⟨rS qV⟩,⟨rS oT⟩,⟨wZ HB⟩⟩
         ·by_cases bk:aZ=true
          ·subst bk;rw[if_pos rfl]at H;have H':=bm H;clear H;obtain⟨ep,er,dv⟩:=Kd.R_slice oT.out;subst dv;go_wp2;repeat(go_quiet (fail);try go_wp2)
           go_roundg k3
           case measure=>have:=ax.out;have:=az.out;have:=a6.out;omega
           case rel=>exact⟨(j),(wrap64 (o+1)),eA,H',⟨by have:=ax.out;have:=az.out;have:=a6.out;omega⟩,⟨rS qV⟩,⟨rS oT⟩,⟨wZ HB⟩⟩
          ·replace bk:=pD bk;subst bk;rw[if_neg pV]at H;obtain⟨dX,H⟩:=pN H;obtain⟨dY,H⟩:=pN H;obtain⟨dy,H⟩:=iN H;have bl:=bm dy;clear dy;obtain⟨cF,bn⟩:∃y_:LI,y_=(j++ [rd l0 o]):=⟨_,rfl⟩;rw[←bn]at H
           have bo:=bm bn;clear bn;have H':=bm H;clear H;obtain⟨bH,bJ,cf⟩:=Kd.R_slice oT.out;subst cf;have cg:0≤(o:Int):=ko;have ch:o<(l0.length:Int):=ko;obtain⟨cN,dz,aJ⟩:=Kd.at_int bV.out o cg ch;obtain rfl:bj=cN:=(by injection dz);replace aJ:=pE HB aJ;replace cg:=pM cg;replace ch:=pM ch;go_wp2_with (first|((with_reducible refine gate_builtin (b:=.append) (xs:= #[.tmp 52,.tmp 57]) rfl ?_);at_builtin;refine Kd.R_append KI (w0:=w) w.heap.size rfl (.tmp 52) (.tmp 57) 23 3 (.int .i64 0) 8 rfl Tryz.underlying23 info3 rfl (by decide) (by omega) (.slice bH j.length bJ) j (rd l0 o) [.int .i64 (rd l0 o)] (fun k_=>some k_≠(u3:Value).ownBlock) (fun _=>False) rfl rfl ?aP (fun _ hk=>hk.elim) ?aF ?aO ?aB ?aS ?aL ?_;(case aP=>exact rfl);(case aB=>exact(wZ HB));(case aF=>exact(fun k_ hk=>Kd.fresh' (Kd.R_lt (rS qV)) k_ hk));(case aO=>exact(rS oT));(case aS=>exact(below_size (wZ HB)));(case aL=>have:=bl.out;omega);intro _ _ ho hb hg ak;rw[←bo.out]at ho;replace qV:=bm (Kd.R_after (ok:=(fun _=>True)) (by(repeat apply Kd.RS);exact Kd.R_mono qV.out (fun _ hk=>⟨trivial,hk⟩)) hg ak);replace HB:=bm (hb);have bp:=bm (ho);clear oT;clear ho hb hg ak));repeat(go_quiet (first|((with_reducible refine gate_builtin (b:=.append) (xs:= #[.tmp 52,.tmp 57]) rfl ?_);at_builtin;refine Kd.R_append KI (w0:=w) w.heap.size rfl (.tmp 52) (.tmp 57) 23 3 (.int .i64 0) 8 rfl Tryz.underlying23 info3 rfl (by decide) (by omega) (.slice bH j.length bJ) j (rd l0 o) [.int .i64 (rd l0 o)] (fun k_=>some k_≠(u3:Value).ownBlock) (fun _=>False) rfl rfl ?aP (fun _ hk=>hk.elim) ?aF ?aO ?aB ?aS ?aL ?_;(case aP=>exact rfl);(case aB=>exact(wZ HB));(case aF=>exact(fun k_ hk=>Kd.fresh' (Kd.R_lt (rS qV)) k_ hk));(case aO=>exact(rS oT));(case aS=>exact(below_size (wZ HB)));(case aL=>have:=bl.out;omega);intro _ _ ho hb hg ak;rw[←bo.out]at ho;replace qV:=bm (Kd.R_after (ok:=(fun _=>True)) (by(repeat apply Kd.RS);exact Kd.R_mono qV.out (fun _ hk=>⟨trivial,hk⟩)) hg ak);replace HB:=bm (hb);have bp:=bm (ho);clear oT;clear ho hb hg ak));try go_wp2_with (first|((with_reducible refine gate_builtin (b:=.append) (xs:= #[.tmp 52,.tmp 57]) rfl ?_);at_builtin;refine Kd.R_append KI (w0:=w) w.heap.size rfl (.tmp 52) (.tmp 57) 23 3 (.int .i64 0) 8 rfl Tryz.underlying23 info3 rfl (by decide) (by omega) (.slice bH j.length bJ) j (rd l0 o) [.int .i64 (rd l0 o)] (fun k_=>some k_≠(u3:Value).ownBlock) (fun _=>False) rfl rfl ?aP (fun _ hk=>hk.elim) ?aF ?aO ?aB ?aS ?aL ?_;(case aP=>exact rfl);(case aB=>exact(wZ HB));(case aF=>exact(fun k_ hk=>Kd.fresh' (Kd.R_lt (rS qV)) k_ hk));(case aO=>exact(rS oT));(case aS=>exact(below_size (wZ HB)));(case aL=>have:=bl.out;omega);intro _ _ ho hb hg ak;rw[←bo.out]at ho;replace qV:=bm (Kd.R_after (ok:=(fun _=>True)) (by(repeat apply Kd.RS);exact Kd.R_mono qV.out (fun _ hk=>⟨trivial,hk⟩)) hg ak);replace HB:=bm (hb);have bp:=bm (ho);clear oT;clear ho hb hg ak)))
           go_roundg k3
           case measure=>have:=ax.out;have:=az.out;have:=a6.out;omega
           case rel=>exact⟨(cF),(wrap64 (o+1)),eA,H',⟨by have:=ax.out;have:=az.out;have:=a6.out;omega⟩,⟨by(repeat apply Kd.RS);exact Kd.R_mono qV.out (fun _ hk=>hk.2)⟩,⟨rS bp⟩,⟨wZ HB⟩⟩
      ·obtain⟨dB,H⟩:=iN H;have bq:=bm dB;clear dB;obtain⟨cH,br⟩:∃y_:LI,y_=(af++ [(j.length:Int)]):=⟨_,rfl⟩;rw[←br]at H
       have bs:=bm br;clear br;have H':=bm H;clear H;obtain⟨cj,ck,dC⟩:=Kd.R_slice oT.out;subst dC;go_wp2_with (first|((with_reducible refine gate_builtin (b:=.append) (xs:= #[.tmp 59,.tmp 62]) rfl ?_);at_builtin;refine Kd.R_append KI (w0:=w) w.heap.size rfl (.tmp 59) (.tmp 62) 23 3 (.int .i64 0) 8 rfl Tryz.underlying23 info3 rfl (by decide) (by omega) u3 af (j.length:Int) [.int .i64 (j.length:Int)] (fun k_=>some k_≠(.slice cj j.length ck:Value).ownBlock) (fun _=>False) rfl rfl ?aP (fun _ hk=>hk.elim) ?aF ?aO ?aB ?aS ?aL ?_;(case aP=>exact rfl);(case aB=>exact(wZ HB));(case aF=>exact(fun k_ hk=>Kd.fresh' (Kd.R_lt (rS oT)) k_ hk));(case aO=>exact(rS qV));(case aS=>exact(below_size (wZ HB)));(case aL=>have:=bq.out;omega);intro _ _ ho hb hg ak;rw[←bs.out]at ho;replace oT:=bm (Kd.R_after (ok:=(fun _=>True)) (by(repeat apply Kd.RS);exact Kd.R_mono oT.out (fun _ hk=>⟨trivial,hk⟩)) hg ak);replace HB:=bm (hb);have bu:=bm (ho);clear qV;clear ho hb hg ak));repeat(go_quiet (first|((with_reducible refine gate_builtin (b:=.append) (xs:= #[.tmp 59,.tmp 62]) rfl ?_);at_builtin;refine Kd.R_append KI (w0:=w) w.heap.size rfl (.tmp 59) (.tmp 62) 23 3 (.int .i64 0) 8 rfl Tryz.underlying23 info3 rfl (by decide) (by omega) u3 af (j.length:Int) [.int .i64 (j.length:Int)] (fun k_=>some k_≠(.slice cj j.length ck:Value).ownBlock) (fun _=>False) rfl rfl ?aP (fun _ hk=>hk.elim) ?aF ?aO ?aB ?aS ?aL ?_;(case aP=>exact rfl);(case aB=>exact(wZ HB));(case aF=>exact(fun k_ hk=>Kd.fresh' (Kd.R_lt (rS oT)) k_ hk));(case aO=>exact(rS qV));(case aS=>exact(below_size (wZ HB)));(case aL=>have:=bq.out;omega);intro _ _ ho hb hg ak;rw[←bs.out]at ho;replace oT:=bm (Kd.R_after (ok:=(fun _=>True)) (by(repeat apply Kd.RS);exact Kd.R_mono oT.out (fun _ hk=>⟨trivial,hk⟩)) hg ak);replace HB:=bm (hb);have bu:=bm (ho);clear qV;clear ho hb hg ak));try go_wp2_with (first|((with_reducible refine gate_builtin (b:=.append) (xs:= #[.tmp 59,.tmp 62]) rfl ?_);at_builtin;refine Kd.R_append KI (w0:=w) w.heap.size rfl (.tmp 59) (.tmp 62) 23 3 (.int .i64 0) 8 rfl Tryz.underlying23 info3 rfl (by decide) (by omega) u3 af (j.length:Int) [.int .i64 (j.length:Int)] (fun k_=>some k_≠(.slice cj j.length ck:Value).ownBlock) (fun _=>False) rfl rfl ?aP (fun _ hk=>hk.elim) ?aF ?aO ?aB ?aS ?aL ?_;(case aP=>exact rfl);(case aB=>exact(wZ HB));(case aF=>exact(fun k_ hk=>Kd.fresh' (Kd.R_lt (rS oT)) k_ hk));(case aO=>exact(rS qV));(case aS=>exact(below_size (wZ HB)));(case aL=>have:=bq.out;omega);intro _ _ ho hb hg ak;rw[←bs.out]at ho;replace oT:=bm (Kd.R_after (ok:=(fun _=>True)) (by(repeat apply Kd.RS);exact Kd.R_mono oT.out (fun _ hk=>⟨trivial,hk⟩)) hg ak);replace HB:=bm (hb);have bu:=bm (ho);clear qV;clear ho hb hg ak)))
       go_roundg k2
       case measure=>have:=ax.out;have:=az.out;omega
       case rel=>exact⟨(cH),(wrap64 (ag+1)),eA,H',⟨by have:=ax.out;have:=az.out;omega⟩,⟨by(repeat apply Kd.RS);exact Kd.R_mono bu.out (fun _ hk=>trivial)⟩,⟨wZ HB⟩⟩
   ·obtain rfl:=pd H;go_wp2;repeat(go_quiet (fail);try go_wp2)
    go_ret;exact⟨_,eF,by(repeat apply Kd.RS);exact qV.out,wZ HB⟩
def jN.l0:Nat→LI→Int→LI→Int→Option LI
 |0,_,_,_,_=>none
 |k+1,x0,x1,x5,x6=>if x6<(x0.length:Int)then(if 0≤x6 then((kz.f x1 x6).bind fun t243=>(if x5.length<17592186044416 then(jN.l0 k x0 x1 (x5++ [wrap64 ((rd x0 x6)+(wrap64 ((wrap64 (1 - t243))*10)))]) (wrap64 (x6+1)))else(none)))else(none))else((iQ.f k x5).bind fun t247=>(some t247))
def jN.f (k:Nat) (l0:LI) (a1:Int):Option LI:=jN.l0 k l0 a1 (([]:LI)) 0
theorem jN.hZ:∀k,(∀y0 y1 y2 y3,lS (jN.l0 k y0 y1 y2 y3) (jN.l0 (k+1) y0 y1 y2 y3))
 |0=>fun _ _ _ _=> .z (by simp only[jN.l0])
 |k+1=>by
  have i0:=jN.hZ k;exact fun _ _ _ _=>by unfold jN.l0;infer_instance
instance jN.mo {k a0 a1}:lS (jN.f k a0 a1) (jN.f (k+1) a0 a1):=by have i0:=jN.hZ k;unfold jN.f;infer_instance
def jN.T5:Bool×List (List Nat×List Nat):=(true,[([],[]),([],[]),([],[]),([1,2],[1,2]),([3],[3]),([],[]),([],[]),([5,6],[5,6]),([7],[7]),([8],[8]),([4,9],[4,9]),([10],[10]),([0,11,7],[0,11]),([12,12,0,1,2,3,4,5,6,7,8,9,10,11,12],[0,12])])
def jN.B5:List Nat:=[0,0,0,6,14,0,0,96,224,480,1022,2046,4095,8191]
theorem jN.xH:rtab .any (opsOf Tryz.f108 5)=jN.T5:=by kernel_rfl
theorem jN.uD:waitsOk jN.T5.2 jN.B5=true:=by kernel_rfl
theorem jN.calls (k:Nat) (A0:Option Addr) (c0:Nat) (l0:LI) (a1:Int) (r:LI) (w:World) (b1:Kd.C KI w A0 l0.length l0) (b4:l0.length≤c0) (h:jN.f k l0 a1=some r):
  Calls Tryz.prog 108 #[.slice A0 l0.length c0,.int .i64 a1] w fun e w'=>∃aY:Value,e= .returned (aY)∧Kd.R KI 3 w' w.heap.size (fun _=>True) aY r∧Below w.heap.size w w':=by
 have bV:=bm b1;have dT:=bm b4;clear b1 b4;have HB:=bm (Below.refl w.heap.size w);have H:=h;clear h;unfold jN.f at H;obtain⟨cI,bw⟩:∃y_:LI,y_=(([]:LI)):=⟨_,rfl⟩;replace H:(jN.l0 k l0 a1 cI 0)=some r:=by first|(rw[bw];exact H)|exact H
 have cl:=bm bw;clear bw;have H':=bm H;clear H;go_enter Tryz.func108,Tryz.ntmps108;go_wp2_with (first|((with_reducible refine gate_dst (N:=7) rfl ?_);refine Kd.R_lit KI _ 3 ?hg (N:=7) ?hd (xs:=([]:LI)) (inner:=[]) (ok:=fun _=>True) (okp:=fun _=>True) ?hr ?hp (fun _ hk=>hk) trivial (Below.refl _ _) (Nat.le_refl _) (by simp) ?_;(case hd=>rfl);(case hg=>rfl);(case hr=>first|(go_simp;done)|(go_simp;rfl));(case hp=>exact(Reps.none _ _));intro _ _ cm hb ar aa;clear ar aa;(first|rw[←cl.out]at cm|(simp only[Int.reduceToNat]at cm;rw[←cl.out]at cm));have cO:=rL cm HB;replace HB:=bW HB hb;clear hb cm));go_loopg [5,6] k (fun kq v5 v6 w'=>∃(aK:LI) (ae:Int),v6= .int .i64 ae∧hJ (jN.l0 kq l0 a1 aK ae=some r)∧hJ (kq≤k)∧hJ (Kd.R KI 3 w' w.heap.size (fun _=>True) v5 aK)∧hJ (Below w.heap.size w w'))
 case atStart=>exact⟨(cI),(0),eA,H',⟨Nat.le_refl _⟩,⟨rS cO⟩,⟨wZ HB⟩⟩
 case round=>
  clear H';obtain⟨aK,ae,rfl,HA,ax,oT,HB⟩:=hrel;cases gk with
  |zero=>exact absurd HA.out (by simp[jN.l0])
  |succ k1=>
   have H:=HA.out;clear HA;simp only[jN.l0]at H;rcases pP H with⟨dE,H⟩|⟨dE,H⟩
   ·obtain⟨eu,H⟩:=pN H;obtain⟨t243,A7,H⟩:=bE H;try dsimp only at H
    obtain⟨c8,H⟩:=iN H;have dF:=bm c8;clear c8;obtain⟨cJ,bx⟩:∃y_:LI,y_=(aK++ [wrap64 ((rd l0 ae)+(wrap64 ((wrap64 (1 - t243))*10)))]):=⟨_,rfl⟩;rw[←bx]at H
    have cP:=bm bx;clear bx;have H':=bm H;clear H;try go_wp2
    replace oT:=pH oT;replace HB:=pL HB;have cn:0≤(ae:Int):=ko;have cp:ae<(l0.length:Int):=ko;obtain⟨cQ,dG,an⟩:=Kd.at_int bV.out ae cn cp;have J:=an;cases dG;replace an:=pE HB an;replace cn:=pM cn;replace cp:=pM cp;refine start_ (n:=14) (S:=fun w'=>w'.cell? (cQ.add (ae).toNat)=some (.int .i64 (rd l0 ae))) (ds:=[]) #[false,false,false,false,false,false,false,false,false,false,false,false,false,false] (by kernel_rfl) rfl rfl (((HB.out.cell (World.block_lt_of_cell? w _ J)).trans J)) (fun hHeld=>?_);refine with_tabW jN.xH jN.uD (fun au dZ=>?_);generalize wr.drew=w9 at oT HB an hHeld⊢;refine pure_ (i:=0) (N:=some 14) (v:=?_) (a':=?_) #[true,false,false,false,false,false,false,false,false,false,false,false,false,false] rfl rfl (any_of au.out (by kernel_rfl)) (fun _ _ _ h=>h) (Or.inl ⟨by rfl,?_⟩) ?_ ?_;rotate_left
    ·intro w';go_simp;with_reducible rfl
    rotate_left
    ·simp only[Act.put,qA,qB,qC,i64_w,i32_w];rfl
    refine pure_ (i:=1) (N:=some 15) (v:=?_) (a':=?_) #[true,true,false,false,false,false,false,false,false,false,false,false,false,false] rfl rfl (any_of au.out (by kernel_rfl)) (fun _ _ _ h=>h) (Or.inl ⟨by rfl,?_⟩) ?_ ?_;rotate_left
    ·intro w';go_simp;with_reducible rfl
    rotate_left
    ·simp only[Act.put,qA,qB,qC,i64_w,i32_w];rfl
    refine pure_ (i:=2) (N:=some 16) (v:=?_) (a':=?_) #[true,true,true,false,false,false,false,false,false,false,false,false,false,false] rfl rfl (any_of au.out (by kernel_rfl)) (fun _ _ _ h=>h) (Or.inl ⟨by rfl,?_⟩) ?_ ?_;rotate_left
    ·intro w';go_simp;with_reducible rfl
    rotate_left
    ·simp only[Act.put,qA,qB,qC,i64_w,i32_w];rfl
    refine pure_ (i:=3) (N:=some 17) (v:=?_) (a':=?_) #[true,true,true,true,false,false,false,false,false,false,false,false,false,false] rfl rfl (any_of au.out (by kernel_rfl)) (fun _ _ _ h=>h) (Or.inl ⟨by rfl,?_⟩) ?_ ?_;rotate_left
    ·intro w';go_simp;with_reducible rfl
    rotate_left
    ·simp only[Act.put,qA,qB,qC,i64_w,i32_w];rfl
    refine pure_ (i:=5) (N:=some 19) (v:=?_) (a':=?_) #[true,true,true,true,false,true,false,false,false,false,false,false,false,false] rfl rfl (any_of au.out (by kernel_rfl)) (fun _ _ _ h=>h) (Or.inl ⟨by rfl,?_⟩) ?_ ?_;rotate_left
    ·intro w';go_simp;with_reducible rfl
    rotate_left
    ·simp only[Act.put,qA,qB,qC,i64_w,i32_w];rfl
    refine pure_ (i:=6) (N:=some 20) (v:=?_) (a':=?_) #[true,true,true,true,false,true,true,false,false,false,false,false,false,false] rfl rfl (any_of au.out (by kernel_rfl)) (fun _ _ _ h=>h) (Or.inl ⟨by rfl,?_⟩) ?_ ?_;rotate_left
    ·intro w';go_simp;with_reducible rfl
    rotate_left
    ·simp only[Act.put,qA,qB,qC,i64_w,i32_w];rfl
    refine take_ (i:=4) (N:=some 18) (v:=?_) (a':=?_) #[true,true,true,true,true,true,true,false,false,false,false,false,false,false] rfl rfl (take_ofW au.out dZ.out (by kernel_rfl)) (fun _ _ _ h=>h) (Or.inl ⟨by rfl,?_⟩) hHeld ?_ ?_;rotate_left
    ·intro w' _;go_simp;with_reducible rfl
    rotate_left
    ·simp only[Act.put,qA,qB,qC,i64_w,i32_w];rfl
    refine one_ (i:=7) (N:=some 21) #[true,true,true,true,true,true,true,true,false,false,false,false,false,false] rfl rfl (one_of au.out (by kernel_rfl)) (by decide) (fun K hK=>?_);refine gO Tryz.func98 #[.int .i64 a1,.int .i64 ae] rfl ?_;refine(kz.calls a1 ae t243 _ A7.out).mono ?_;rintro e w' ⟨rfl,⟨nd,rfl⟩⟩;refine⟨_,rfl,?_⟩;refine hK.out _ _ (((HB.out.cell (World.block_lt_of_cell? w _ J)).trans J)) (fun hHeld=>?_);clear hK K;refine pU 21 ?_
    refine pure_ (i:=8) (N:=some 22) (v:=?_) (a':=?_) #[true,true,true,true,true,true,true,true,true,false,false,false,false,false] rfl rfl (any_of au.out (by kernel_rfl)) (fun _ _ _ h=>h) (Or.inl ⟨by rfl,?_⟩) ?_ ?_;rotate_left
    ·intro w';go_simp;with_reducible rfl
    rotate_left
    ·simp only[Act.put,qA,qB,qC,i64_w,i32_w];rfl
    refine pure_ (i:=9) (N:=some 23) (v:=?_) (a':=?_) #[true,true,true,true,true,true,true,true,true,true,false,false,false,false] rfl rfl (any_of au.out (by kernel_rfl)) (fun _ _ _ h=>h) (Or.inl ⟨by rfl,?_⟩) ?_ ?_;rotate_left
    ·intro w';go_simp;with_reducible rfl
    rotate_left
    ·simp only[Act.put,qA,qB,qC,i64_w,i32_w];rfl
    refine pure_ (i:=10) (N:=some 24) (v:=?_) (a':=?_) #[true,true,true,true,true,true,true,true,true,true,true,false,false,false] rfl rfl (any_of au.out (by kernel_rfl)) (fun _ _ _ h=>h) (Or.inl ⟨by rfl,?_⟩) ?_ ?_;rotate_left
    ·intro w';go_simp;with_reducible rfl
    rotate_left
    ·simp only[Act.put,qA,qB,qC,i64_w,i32_w];rfl
    refine one_ (i:=11) (N:=some 25) #[true,true,true,true,true,true,true,true,true,true,true,true,false,false] rfl rfl (one_of au.out (by kernel_rfl)) (by decide) (fun K hK=>?_);refine value_ (w1:=?_) (v:=?_) (by rfl) rfl ?_ ?_;rotate_left 2
    ·go_simp;constructor
     ·rfl
     ·rfl
    refine hK.out _ _ ((World.cell?_alloc_lt _ _ _ (World.block_lt_of_cell? _ _ (((HB.out.cell (World.block_lt_of_cell? w _ J)).trans J)))).trans (((HB.out.cell (World.block_lt_of_cell? w _ J)).trans J))) (fun hHeld=>?_);clear hK K;refine pU 25 ?_
    refine one_ (i:=12) (N:=some 26) #[true,true,true,true,true,true,true,true,true,true,true,true,true,false] rfl rfl (one_of au.out (by kernel_rfl)) (by decide) (fun K hK=>?_);refine Kd.R_append_step KI (w0:=w) w.heap.size (by rfl) (.tmp 14) (.tmp 25) 23 3 (.int .i64 0) 8 rfl Tryz.underlying23 info3 rfl (by decide) (by omega) u5 aK (wrap64 ((rd l0 ae)+(wrap64 ((wrap64 (1 - t243))*10)))) [.int .i64 (wrap64 ((rd l0 ae)+(wrap64 ((wrap64 (1 - t243))*10))))] (fun _=>True) (fun _=>False) rfl rfl ?aP (fun _ hk=>hk.elim) ?aF ?aO ?aB ?aS ?aL ?_;(case aP=>exact rfl);(case aB=>exact(wZ HB));(case aF=>exact(fun _ _=>trivial));(case aO=>exact(rS oT));(case aS=>exact(below_size (wZ HB)));(case aL=>have:=dF.out;omega);intro _ _ ho hb hg ak
    rw[←cP.out]at ho;replace HB:=bm (hb);have cS:=bm (ho);clear oT ho hb hg ak
    refine hK.out _ _ (((HB.out.cell (World.block_lt_of_cell? w _ J)).trans J)) (fun hHeld=>?_);clear hK K;refine pU 26 ?_
    refine pure_ (i:=13) (N:=some 5) (v:=?_) (a':=?_) #[true,true,true,true,true,true,true,true,true,true,true,true,true,true] rfl rfl (any_of au.out (by kernel_rfl)) (fun _ _ _ h=>h) (Or.inl ⟨by rfl,?_⟩) ?_ ?_;rotate_left
    ·intro w';go_simp;with_reducible rfl
    rotate_left
    ·simp only[Act.put,qA,qB,qC,i64_w,i32_w];rfl
    refine done_ (done_of au.out (by kernel_rfl)) ?_;try go_wp2
    go_roundg k1
    case measure=>have:=ax.out;omega
    case rel=>exact⟨(cJ),(wrap64 (ae+1)),eA,H',⟨by have:=ax.out;omega⟩,⟨rS cS⟩,⟨wZ HB⟩⟩
   ·obtain⟨t247,ea,H⟩:=bE H;try dsimp only at H
    obtain rfl:=pd H;obtain⟨dH,dI,dJ⟩:=Kd.R_slice oT.out;subst dJ;go_wp2_with (first|(refine gB (some 28) Tryz.func132 #[.slice dH aK.length dI] rfl ?_;(refine(iQ.calls k1 _ _ aK t247 _ ?_ ?_ ea.out).mono ?_);exact cZ (Kd.R_reads' oT.out).2.2;exact(Kd.R_reads' oT.out).2.1;rintro e _ ⟨_,rfl,ab,hb⟩;refine⟨_,rfl,?_⟩;have cT:=bm (Kd.R_lower (Kd.R_new' ab (Kd.R_lt (rS oT))) (below_size (wZ HB)));replace oT:=bm (Kd.R_elder' (rS oT) (Kd.R_base ab) hb);replace HB:=bW HB hb;clear hb;(try clear ab)));go_ret;exact⟨_,eF,by(repeat apply Kd.RS);exact Kd.R_mono cT.out (fun _ hk=>trivial),wZ HB⟩
def jX.j0:Nat→LI→Int→Int→Bool→Option (List Int×Bool)
 |0,_,_,_,_=>none
 |k+1,x1,x2,x3,x28=>if x28=true then(some ((([]:LI)),false))else(if x2=0 then((gZ.f k x1 x3).bind fun a7=>((jN.f k x1 a7).bind fun cq=>(some (cq,true))))else((jN.f k x1 x3).bind fun cr=>(some (cr,true))))
def jX.f (k:Nat) (a0:Int) (l1:LI) (a2:Int) (a3:Int):Option (List Int×Bool):=(iv.f k a0 l1).bind fun a8=>(if a8=true then((kc.f a0 a3).bind fun ba=>(if ba=true then(if a3=0 then(jX.j0 k l1 a2 a3 true)else((lR.f a2 0 1).bind fun aU=>(jX.j0 k l1 a2 a3 (!aU))))else(jX.j0 k l1 a2 a3 true)))else(jX.j0 k l1 a2 a3 true))
theorem jX.hZ:∀k,(∀y0 y1 y2 y3,lS (jX.j0 k y0 y1 y2 y3) (jX.j0 (k+1) y0 y1 y2 y3))
 |0=>fun _ _ _ _=> .z (by simp only[jX.j0])
 |k+1=>by
  have i0:=jX.hZ k;exact fun _ _ _ _=>by unfold jX.j0;infer_instance
instance jX.mo {k a0 a1 a2 a3}:lS (jX.f k a0 a1 a2 a3) (jX.f (k+1) a0 a1 a2 a3):=by have i0:=jX.hZ k;unfold jX.f;infer_instance
theorem jX.calls (k:Nat) (a0:Int) (A1:Option Addr) (c1:Nat) (l1:LI) (a2:Int) (a3:Int) (r1:LI) (r2:Bool) (w:World) (ct:Kd.C KI w A1 l1.length l1) (cu:l1.length≤c1) (h:jX.f k a0 l1 a2 a3=some (r1,r2)):
  Calls Tryz.prog 78 #[.int .i64 a0,.slice A1 l1.length c1,.int .i64 a2,.int .i64 a3] w fun e w'=>∃aY:Value,e= .returned (.tuple #[aY,.bool r2])∧Kd.R KI 3 w' w.heap.size (fun _=>True) aY r1∧Below w.heap.size w w':=by
 have ao:=bm ct;have aq:=bm cu;clear ct cu;have HB:=bm (Below.refl w.heap.size w);have H:=h;clear h;unfold jX.f at H;have cU:=bm H;clear H;go_enter Tryz.func78,Tryz.ntmps78;go_upto_region 1 with(fail)
 go_cut [28] (fun v28 wc=>∃(kq:Nat) (aV:Bool),v28= .bool aV∧hJ (jX.j0 kq l1 a2 a3 aV=some (r1,r2))∧hJ (kq≤k)∧hJ (Below w.heap.size w wc))
 case first=>
  have H:=cU.out;clear cU;obtain⟨a8,A6,H⟩:=bE H;try dsimp only at H
  by_cases c7:a8=true
  ·subst c7;rw[if_pos rfl]at H;obtain⟨ba,A8,H⟩:=bE H;try dsimp only at H
   by_cases c9:ba=true
   ·subst c9;rw[if_pos rfl]at H;rcases iT H with⟨c10,H⟩|⟨c10,H⟩
    ·obtain⟨aA,cV⟩:=pf c10;clear c10;(first|rw[aA]|(simp only[i64_w,i32_w];rw[aA])|skip);have H':=bm H;clear H;go_wp2_with (first|(refine gB (some 12) Tryz.func68 #[.int .i64 a0,.slice A1 l1.length c1] rfl ?_;(refine(iv.calls k a0 _ _ l1 true _ ?_ ?_ A6.out).mono ?_);exact cY ao HB;exact aq.out;rintro e _ ⟨rfl,hb⟩;refine⟨_,rfl,?_⟩;replace HB:=bW HB hb;clear hb)|(go_at_call 97;(with_reducible refine(kc.calls a0 a3 true _ A8.out).mono ?_);rintro e w' ⟨rfl,⟨nd,rfl⟩⟩));go_meet
     case rel=>exact⟨_,(true),eA,H',⟨by first|omega|exact Nat.le_refl _⟩,⟨wZ HB⟩⟩
    ·obtain⟨aA,cV⟩:=pe c10;(first|rw[aA]|(simp only[i64_w,i32_w];rw[aA])|skip);obtain⟨aU,cv,H⟩:=bE H;try dsimp only at H
     have H':=bm H;clear H;go_wp2_with (first|(refine gB (some 12) Tryz.func68 #[.int .i64 a0,.slice A1 l1.length c1] rfl ?_;(refine(iv.calls k a0 _ _ l1 true _ ?_ ?_ A6.out).mono ?_);exact cY ao HB;exact aq.out;rintro e _ ⟨rfl,hb⟩;refine⟨_,rfl,?_⟩;replace HB:=bW HB hb;clear hb)|(go_at_call 97;(with_reducible refine(kc.calls a0 a3 true _ A8.out).mono ?_);rintro e w' ⟨rfl,⟨nd,rfl⟩⟩)|(go_at_call 77;(with_reducible refine(lR.calls a2 0 1 aU _ cv.out).mono ?_);rintro e w' ⟨rfl,⟨nd,rfl⟩⟩));go_meet
     case rel=>exact⟨_,(!aU),eA,H',⟨by first|omega|exact Nat.le_refl _⟩,⟨wZ HB⟩⟩
   ·replace c9:=pD c9;subst c9;rw[if_neg pV]at H;have H':=bm H;clear H;go_wp2_with (first|(refine gB (some 12) Tryz.func68 #[.int .i64 a0,.slice A1 l1.length c1] rfl ?_;(refine(iv.calls k a0 _ _ l1 true _ ?_ ?_ A6.out).mono ?_);exact cY ao HB;exact aq.out;rintro e _ ⟨rfl,hb⟩;refine⟨_,rfl,?_⟩;replace HB:=bW HB hb;clear hb)|(go_at_call 97;(with_reducible refine(kc.calls a0 a3 false _ A8.out).mono ?_);rintro e w' ⟨rfl,⟨nd,rfl⟩⟩));go_meet
    case rel=>exact⟨_,(true),eA,H',⟨by first|omega|exact Nat.le_refl _⟩,⟨wZ HB⟩⟩
  ·replace c7:=pD c7;subst c7;rw[if_neg pV]at H;have H':=bm H;clear H;go_wp2_with (first|(refine gB (some 12) Tryz.func68 #[.int .i64 a0,.slice A1 l1.length c1] rfl ?_;(refine(iv.calls k a0 _ _ l1 false _ ?_ ?_ A6.out).mono ?_);exact cY ao HB;exact aq.out;rintro e _ ⟨rfl,hb⟩;refine⟨_,rfl,?_⟩;replace HB:=bW HB hb;clear hb));go_meet
   case rel=>exact⟨_,(true),eA,H',⟨by first|omega|exact Nat.le_refl _⟩,⟨wZ HB⟩⟩
 case rest=>
  clear cU;obtain⟨kq,aV,rfl,HA,eM,HB⟩:=hcut;cases kq with
  |zero=>exact absurd HA.out (by simp[jX.j0])
  |succ uR=>
   have H:=HA.out;clear HA;simp only[jX.j0]at H;by_cases aC:aV=true
   ·subst aC;rw[if_pos rfl]at H;obtain⟨dK,bA⟩:∃y_:LI,y_=(([]:LI)):=⟨_,rfl⟩;replace H:(some (dK,false))=some (r1,r2):=by first|(rw[bA];exact H)|exact H
    have cw:=bm bA;clear bA;obtain⟨rfl,rfl⟩:=s2 H;go_wp2_with (first|((with_reducible refine gate_dst (N:=29) rfl ?_);refine Kd.R_lit KI _ 3 ?hg (N:=29) ?hd (xs:=([]:LI)) (inner:=[]) (ok:=fun _=>True) (okp:=fun _=>True) ?hr ?hp (fun _ hk=>hk) trivial (Below.refl _ _) (Nat.le_refl _) (by simp) ?_;(case hd=>rfl);(case hg=>rfl);(case hr=>first|(go_simp;done)|(go_simp;rfl));(case hp=>exact(Reps.none _ _));intro _ _ bb hb ar aa;clear ar aa;(first|rw[←cw.out]at bb|(simp only[Int.reduceToNat]at bb;rw[←cw.out]at bb));have da:=rL bb HB;replace HB:=bW HB hb;clear hb bb));go_ret2;exact⟨_,eF,by(repeat apply Kd.RS);exact da.out,wZ HB⟩
   ·replace aC:=pD aC;subst aC;rw[if_neg pV]at H;rcases iT H with⟨aD,H⟩|⟨aD,H⟩
    ·obtain⟨bB,bD⟩:=pf aD;clear aD;obtain⟨a7,ec,H⟩:=bE H;try dsimp only at H
     obtain⟨cq,ed,H⟩:=bE H;try dsimp only at H
     obtain⟨rfl,rfl⟩:=s2 H;go_wp2_with (first|(refine gB (some 35) Tryz.func95 #[.slice A1 l1.length c1,.int .i64 a3] rfl ?_;(refine(gZ.calls uR _ _ l1 a3 a7 _ ?_ ?_ ec.out).mono ?_);exact cY ao HB;exact aq.out;rintro e _ ⟨rfl,hb⟩;refine⟨_,rfl,?_⟩;replace HB:=bW HB hb;clear hb)|(refine gB (some 36) Tryz.func108 #[.slice A1 l1.length c1,.int .i64 a7] rfl ?_;(refine(jN.calls uR _ _ l1 a7 cq _ ?_ ?_ ed.out).mono ?_);exact cY ao HB;exact aq.out;rintro e _ ⟨_,rfl,ab,hb⟩;refine⟨_,rfl,?_⟩;have db:=rL ab HB;replace HB:=bW HB hb;clear hb;(try clear ab)));go_ret2;exact⟨_,eF,by(repeat apply Kd.RS);exact db.out,wZ HB⟩
    ·obtain⟨bB,bD⟩:=pe aD;obtain⟨cr,ee,H⟩:=bE H;try dsimp only at H
     obtain⟨rfl,rfl⟩:=s2 H;go_wp2_with (first|(refine gB (some 39) Tryz.func108 #[.slice A1 l1.length c1,.int .i64 a3] rfl ?_;(refine(jN.calls uR _ _ l1 a3 cr _ ?_ ?_ ee.out).mono ?_);exact cY ao HB;exact aq.out;rintro e _ ⟨_,rfl,ab,hb⟩;refine⟨_,rfl,?_⟩;have dc:=rL ab HB;replace HB:=bW HB hb;clear hb;(try clear ab)));go_ret2;exact⟨_,eF,by(repeat apply Kd.RS);exact dc.out,wZ HB⟩
mutual
def iZ.j0:Nat→Int→LI→LI→Bool→Option (Bool)
 |0,_,_,_,_=>none
 |k+1,x0,x1,x2,x19=>if x19=true then(some false)else((gA.f k x0 x1).bind fun ai=>((gA.f k x0 x2).bind fun aj=>(iZ.l0 k ai aj 0)))
def iZ.l0:Nat→LI→LI→Int→Option (Bool)
 |0,_,_,_=>none
 |k+1,x7,x8,x9=>if x9<(x7.length:Int)then(if 0≤x9 then(if x9<(x8.length:Int)then(if(rd x7 x9)=(rd x8 x9)then(iZ.l0 k x7 x8 (wrap64 (x9+1)))else(some false))else(none))else(none))else(some true)
end
def iZ.f (k:Nat) (a0:Int) (l1:LI) (l2:LI):Option (Bool):=(iv.f k a0 l1).bind fun bc=>(if bc=true then((iv.f k a0 l2).bind fun aE=>(iZ.j0 k a0 l1 l2 (!aE)))else(iZ.j0 k a0 l1 l2 true))
theorem iZ.hZ:∀k,(∀y0 y1 y2 y3,lS (iZ.j0 k y0 y1 y2 y3) (iZ.j0 (k+1) y0 y1 y2 y3))∧(∀y0 y1 y2,lS (iZ.l0 k y0 y1 y2) (iZ.l0 (k+1) y0 y1 y2))
 |0=>⟨fun _ _ _ _=> .z (by simp only[iZ.j0]),fun _ _ _=> .z (by simp only[iZ.l0])⟩
 |k+1=>by
  have⟨i0,i1⟩:=iZ.hZ k;exact⟨fun _ _ _ _=>by unfold iZ.j0;infer_instance,fun _ _ _=>by unfold iZ.l0;infer_instance⟩
instance iZ.mo {k a0 a1 a2}:lS (iZ.f k a0 a1 a2) (iZ.f (k+1) a0 a1 a2):=by have⟨i0,i1⟩:=iZ.hZ k;unfold iZ.f;infer_instance
theorem iZ.calls (k:Nat) (a0:Int) (A1:Option Addr) (c1:Nat) (l1:LI) (A2:Option Addr) (c2:Nat) (l2:LI) (r:Bool) (w:World) (ct:Kd.C KI w A1 l1.length l1) (cu:l1.length≤c1) (dL:Kd.C KI w A2 l2.length l2) (dM:l2.length≤c2) (h:iZ.f k a0 l1 l2=some r):
  Calls Tryz.prog 79 #[.int .i64 a0,.slice A1 l1.length c1,.slice A2 l2.length c2] w fun e w'=>e= .returned (.bool r)∧Below w.heap.size w w':=by
 have ao:=bm ct;have aq:=bm cu;clear ct cu;have bZ:=bm dL;have b0:=bm dM;clear dL dM;have HB:=bm (Below.refl w.heap.size w);have H:=h;clear h;unfold iZ.f at H;have dd:=bm H;clear H;go_enter Tryz.func79,Tryz.ntmps79;go_upto_region 1 with(fail)
 repeat(go_quiet (fail);go_upto_region 1 with(fail))
 go_cut [19] (fun ef wc=>∃(kq:Nat) (aW:Bool),ef= .bool aW∧hJ (iZ.j0 kq a0 l1 l2 aW=some r)∧hJ (kq≤k)∧hJ (Below w.heap.size w wc))
 case first=>
  have H:=dd.out;clear dd;obtain⟨bc,A5,H⟩:=bE H;try dsimp only at H
  by_cases c6:bc=true
  ·subst c6;rw[if_pos rfl]at H;obtain⟨aE,A7,H⟩:=bE H;try dsimp only at H
   have H':=bm H;clear H;go_wp2_with (first|(go_at_call 68;(with_reducible refine(iv.calls k a0 _ _ l1 true _ ?_ ?_ A5.out).mono ?_);exact cY ao HB;exact aq.out;rintro e _ ⟨rfl,hb⟩;replace HB:=bW HB hb;clear hb)|(go_at_call 68;(with_reducible refine(iv.calls k a0 _ _ l2 aE _ ?_ ?_ A7.out).mono ?_);exact cY bZ HB;exact b0.out;rintro e _ ⟨rfl,hb⟩;replace HB:=bW HB hb;clear hb));repeat(go_quiet (first|(go_at_call 68;(with_reducible refine(iv.calls k a0 _ _ l1 true _ ?_ ?_ A5.out).mono ?_);exact cY ao HB;exact aq.out;rintro e _ ⟨rfl,hb⟩;replace HB:=bW HB hb;clear hb)|(go_at_call 68;(with_reducible refine(iv.calls k a0 _ _ l2 aE _ ?_ ?_ A7.out).mono ?_);exact cY bZ HB;exact b0.out;rintro e _ ⟨rfl,hb⟩;replace HB:=bW HB hb;clear hb));try go_wp2_with (first|(go_at_call 68;(with_reducible refine(iv.calls k a0 _ _ l1 true _ ?_ ?_ A5.out).mono ?_);exact cY ao HB;exact aq.out;rintro e _ ⟨rfl,hb⟩;replace HB:=bW HB hb;clear hb)|(go_at_call 68;(with_reducible refine(iv.calls k a0 _ _ l2 aE _ ?_ ?_ A7.out).mono ?_);exact cY bZ HB;exact b0.out;rintro e _ ⟨rfl,hb⟩;replace HB:=bW HB hb;clear hb)))
   go_meet
   case rel=>exact⟨_,(!aE),eA,H',⟨by first|omega|exact Nat.le_refl _⟩,⟨wZ HB⟩⟩
  ·replace c6:=pD c6;subst c6;rw[if_neg pV]at H;have H':=bm H;clear H;go_wp2_with (first|(go_at_call 68;(with_reducible refine(iv.calls k a0 _ _ l1 false _ ?_ ?_ A5.out).mono ?_);exact cY ao HB;exact aq.out;rintro e _ ⟨rfl,hb⟩;replace HB:=bW HB hb;clear hb));repeat(go_quiet (first|(go_at_call 68;(with_reducible refine(iv.calls k a0 _ _ l1 false _ ?_ ?_ A5.out).mono ?_);exact cY ao HB;exact aq.out;rintro e _ ⟨rfl,hb⟩;replace HB:=bW HB hb;clear hb));try go_wp2_with (first|(go_at_call 68;(with_reducible refine(iv.calls k a0 _ _ l1 false _ ?_ ?_ A5.out).mono ?_);exact cY ao HB;exact aq.out;rintro e _ ⟨rfl,hb⟩;replace HB:=bW HB hb;clear hb)))
   go_meet
   case rel=>exact⟨_,(true),eA,H',⟨by first|omega|exact Nat.le_refl _⟩,⟨wZ HB⟩⟩
 case rest=>
  clear dd;obtain⟨kq,aW,rfl,HA,dN,HB⟩:=hcut;cases kq with
  |zero=>exact absurd HA.out (by simp[iZ.j0])
  |succ sO=>
   have H:=HA.out;clear HA;simp only[iZ.j0]at H;by_cases aT:aW=true
   ·subst aT;rw[if_pos rfl]at H;obtain rfl:=pd H;go_wp2;repeat(go_quiet (fail);try go_wp2)
    go_ret;exact⟨eF,wZ HB⟩
   ·replace aT:=pD aT;subst aT;rw[if_neg pV]at H;obtain⟨ai,cv,H⟩:=bE H;try dsimp only at H
    obtain⟨aj,de,H⟩:=bE H;try dsimp only at H
    have H':=bm H;clear H;go_wp2_with (first|(go_at_call 69;(with_reducible refine(gA.calls sO a0 _ _ l1 ai _ ?_ ?_ cv.out).mono ?_);exact cY ao HB;exact aq.out;rintro e _ ⟨bO,rfl,ab,hb⟩;have ad:=rL ab HB;replace HB:=bW HB hb;clear hb;(try clear ab))|(go_at_call 69;(with_reducible refine(gA.calls sO a0 _ _ l2 aj _ ?_ ?_ de.out).mono ?_);exact cY bZ HB;exact b0.out;rintro e _ ⟨bT,rfl,ab,hb⟩;have bF:=bm (Kd.R_lower (Kd.R_new' ab (Kd.R_lt (rS ad))) (below_size (wZ HB)));replace ad:=bm (Kd.R_elder' (rS ad) (Kd.R_base ab) hb);replace HB:=bW HB hb;clear hb;(try clear ab)));repeat(go_quiet (first|(go_at_call 69;(with_reducible refine(gA.calls sO a0 _ _ l1 ai _ ?_ ?_ cv.out).mono ?_);exact cY ao HB;exact aq.out;rintro e _ ⟨bO,rfl,ab,hb⟩;have ad:=rL ab HB;replace HB:=bW HB hb;clear hb;(try clear ab))|(go_at_call 69;(with_reducible refine(gA.calls sO a0 _ _ l2 aj _ ?_ ?_ de.out).mono ?_);exact cY bZ HB;exact b0.out;rintro e _ ⟨bT,rfl,ab,hb⟩;have bF:=bm (Kd.R_lower (Kd.R_new' ab (Kd.R_lt (rS ad))) (below_size (wZ HB)));replace ad:=bm (Kd.R_elder' (rS ad) (Kd.R_base ab) hb);replace HB:=bW HB hb;clear hb;(try clear ab)));try go_wp2_with (first|(go_at_call 69;(with_reducible refine(gA.calls sO a0 _ _ l1 ai _ ?_ ?_ cv.out).mono ?_);exact cY ao HB;exact aq.out;rintro e _ ⟨bO,rfl,ab,hb⟩;have ad:=rL ab HB;replace HB:=bW HB hb;clear hb;(try clear ab))|(go_at_call 69;(with_reducible refine(gA.calls sO a0 _ _ l2 aj _ ?_ ?_ de.out).mono ?_);exact cY bZ HB;exact b0.out;rintro e _ ⟨bT,rfl,ab,hb⟩;have bF:=bm (Kd.R_lower (Kd.R_new' ab (Kd.R_lt (rS ad))) (below_size (wZ HB)));replace ad:=bm (Kd.R_elder' (rS ad) (Kd.R_base ab) hb);replace HB:=bW HB hb;clear hb;(try clear ab))))
    go_loopg [9] sO (fun kq v9 w'=>∃(I:Int),v9= .int .i64 I∧hJ (iZ.l0 kq ai aj I=some r)∧hJ (kq≤sO)∧hJ (Kd.R KI 3 w' w.heap.size (fun k_=>some k_≠(bT:Value).ownBlock) bO ai)∧hJ (Kd.R KI 3 w' w.heap.size (fun k_=>some k_≠(bO:Value).ownBlock) bT aj)∧hJ (Below w.heap.size w w'))
    case atStart=>exact⟨(0),eA,H',⟨Nat.le_refl _⟩,⟨by(repeat apply Kd.RS);exact Kd.R_mono ad.out (fun _ hk=>hk.2)⟩,⟨by(repeat apply Kd.RS);exact Kd.R_mono bF.out (fun _ hk=>hk.2)⟩,⟨wZ HB⟩⟩
    case round=>
     clear H';obtain⟨I,rfl,HA,az,nh,AH,HB⟩:=hrel;cases gk with
     |zero=>exact absurd HA.out (by simp[iZ.l0])
     |succ k2=>
      have H:=HA.out;clear HA;simp only[iZ.l0]at H;rcases pP H with⟨b9,H⟩|⟨b9,H⟩
      ·obtain⟨eg,H⟩:=pN H;obtain⟨eh,H⟩:=pN H;rcases iT H with⟨aD,H⟩|⟨aD,H⟩
       ·obtain⟨bB,bD⟩:=pf aD;clear aD;have H':=bm H;clear H;obtain⟨eC,eD,dP⟩:=Kd.R_slice nh.out;subst dP;have aM:0≤(I:Int):=ko;have aN:I<(ai.length:Int):=ko;obtain⟨df,cx,cy⟩:=Kd.at_int (Kd.R_reads' nh.out).2.2 I aM aN;cases cx;replace aM:=pM aM;replace aN:=pM aN;obtain⟨eE,eG,dQ⟩:=Kd.R_slice AH.out;subst dQ;have aQ:0≤(I:Int):=ko;have aR:I<(aj.length:Int):=ko;obtain⟨dg,cz,cA⟩:=Kd.at_int (Kd.R_reads' AH.out).2.2 I aQ aR;cases cz;replace aQ:=pM aQ;replace aR:=pM aR;go_wp2;repeat(go_quiet (fail);try go_wp2)
        go_roundg k2
        case measure=>have:=dN.out;have:=az.out;omega
        case rel=>exact⟨(wrap64 (I+1)),eA,H',⟨by have:=dN.out;have:=az.out;omega⟩,⟨rS nh⟩,⟨rS AH⟩,⟨wZ HB⟩⟩
       ·obtain⟨bB,bD⟩:=pe aD;obtain rfl:=pd H;obtain⟨eH,eI,dR⟩:=Kd.R_slice nh.out;subst dR;have aM:0≤(I:Int):=ko;have aN:I<(ai.length:Int):=ko;obtain⟨df,cx,cy⟩:=Kd.at_int (Kd.R_reads' nh.out).2.2 I aM aN;cases cx;replace aM:=pM aM;replace aN:=pM aN;obtain⟨bH,bJ,cf⟩:=Kd.R_slice AH.out;subst cf;have aQ:0≤(I:Int):=ko;have aR:I<(aj.length:Int):=ko;obtain⟨dg,cz,cA⟩:=Kd.at_int (Kd.R_reads' AH.out).2.2 I aQ aR;cases cz;replace aQ:=pM aQ;replace aR:=pM aR;go_wp2;repeat(go_quiet (fail);try go_wp2)
        go_ret;exact⟨eF,wZ HB⟩
      ·obtain rfl:=pd H;obtain⟨eJ,eK,dS⟩:=Kd.R_slice nh.out;subst dS;go_wp2;repeat(go_quiet (fail);try go_wp2)
       go_ret;exact⟨eF,wZ HB⟩
end Go.Proofs.YtigeaokfhnlkcaaGreatDoor.P
