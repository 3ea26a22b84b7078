import Derived.Test.YtigeaokfhnlkcaaGreatDoorPx0
import Derived.Test.YtigeaokfhnlkcaaGreatDoorPx2
import Derived.Test.YtigeaokfhnlkcaaGreatDoorPx12
import Derived.Test.YtigeaokfhnlkcaaGreatDoorPx13
namespace Go.Proofs.YtigeaokfhnlkcaaGreatDoor.P
open Go.RowKit YtigeaokfhnlkcaaGreatDoorW PrintWords PrintLast PrintMore
attribute [local go_sem] max2_int min2_int max_two min_two max_three min_three max_four min_four
set_option linter.unusedVariables false
set_option linter.unusedSimpArgs false
set_option maxHeartbeats 8000000
set_option maxRecDepth 100000
mutual
def lg.l0:Nat→List Int→List Int→Int→Option (List Int)
 |0,_,_,_=>none
 |k+1,x0,x3,x4=>if x4<(x0.length:Int)then(lg.l1 k x0 x3 x4 (([]:List Int)) 0)else(some x3)
def lg.l1:Nat→List Int→List Int→Int→List Int→Int→Option (List Int)
 |0,_,_,_,_,_=>none
 |k+1,x0,x3,x4,x5,x6=>if x6<(x0.length:Int)then(if 0≤x6 then(if 0≤x4 then(if x4<(x0.length:Int)then(lg.l2 k x0 x3 x4 x5 x6 (decide ((rd x0 x6)≥(rd x0 x4))) 0)else(none))else(none))else(none))else(if x3.length<17592186044416 then(lg.l0 k x0 (x3++ [(x5.length:Int)]) (wrap64 (x4+1)))else(none))
def lg.l2:Nat→List Int→List Int→Int→List Int→Int→Bool→Int→Option (List Int)
 |0,_,_,_,_,_,_,_=>none
 |k+1,x0,x3,x4,x5,x6,x7,x8=>if x8<(x5.length:Int)then(if x7=true then(lg.l2 k x0 x3 x4 x5 x6 true (wrap64 (x8+1)))else(if 0≤x8 then(if 0≤x6 then(if x6<(x0.length:Int)then(lg.l2 k x0 x3 x4 x5 x6 ((rd x5 x8)==(rd x0 x6)) (wrap64 (x8+1)))else(none))else(none))else(none)))else(if x7=true then(lg.l1 k x0 x3 x4 x5 (wrap64 (x6+1)))else(if 0≤x6 then(if x6<(x0.length:Int)then(if x5.length<17592186044416 then(lg.l1 k x0 x3 x4 (x5++ [rd x0 x6]) (wrap64 (x6+1)))else(none))else(none))else(none)))
end
def lg.f (k:Nat) (l0:List Int):Option (List Int):=lg.l0 k l0 (([]:List Int)) 0
theorem lg.kU:∀k,(∀y0 y1 y2,ph (lg.l0 k y0 y1 y2) (lg.l0 (k+1) y0 y1 y2))∧(∀y0 y1 y2 y3 y4,ph (lg.l1 k y0 y1 y2 y3 y4) (lg.l1 (k+1) y0 y1 y2 y3 y4))∧(∀y0 y1 y2 y3 y4 y5 y6,ph (lg.l2 k y0 y1 y2 y3 y4 y5 y6) (lg.l2 (k+1) y0 y1 y2 y3 y4 y5 y6))
 |0=>⟨fun _ _ _=> .z (by simp only[lg.l0]),fun _ _ _ _ _=> .z (by simp only[lg.l1]),fun _ _ _ _ _ _ _=> .z (by simp only[lg.l2])⟩
 |k+1=>by
  have⟨i0,i1,i2⟩:=lg.kU k;exact⟨fun _ _ _=>by unfold lg.l0;infer_instance,fun _ _ _ _ _=>by unfold lg.l1;infer_instance,fun _ _ _ _ _ _ _=>by unfold lg.l2;infer_instance⟩
instance lg.mo {k a0}:ph (lg.f k a0) (lg.f (k+1) a0):=by have⟨i0,i1,i2⟩:=lg.kU k;unfold lg.f;infer_instance
theorem lg.calls (k:Nat) (A0:Option Addr) (c0:Nat) (l0:List Int) (r:List Int) (w:World) (b1:Kd.C (Kd.int .i64) w A0 l0.length l0) (b4:l0.length≤c0) (h:lg.f k l0=some r):
  Calls Tryz.prog 132 #[.slice A0 l0.length c0] w fun e w'=>∃aZ:Value,e= .returned (aZ)∧Kd.R (Kd.int .i64) 3 w' w.heap.size (fun _=>True) aZ r∧Below w.heap.size w w':=by
 have bV:=bm b1;have dW:=bm b4;clear b1 b4;have HB:=bm (Below.refl w.heap.size w);have H:=h;clear h;unfold lg.f at H;obtain⟨cD,bf⟩:∃y_:List Int,y_=(([]:List Int)):=⟨_,rfl⟩;replace H:(lg.l0 k l0 cD 0)=some r:=by first|(rw[bf];exact H)|exact H
 have aw:=bm bf;clear bf;have H':=bm H;clear H;go_enter Tryz.func132,Tryz.ntmps132;go_wp2_with (first|((with_reducible refine gate_dst (N:=9) rfl ?_);refine Kd.R_lit (Kd.int .i64) _ 3 ?hg (N:=9) ?hd (xs:=([]:List Int)) (inner:=[]) (ok:=fun _=>True) (okp:=fun _=>True) ?hr ?hp (fun _ hk=>hk) trivial (Below.refl _ _) (Nat.le_refl _) (by simp) ?_;(case hd=>rfl);(case hg=>rfl);(case hr=>first|(go_simp;done)|(go_simp;rfl));(case hp=>exact(Reps.none _ _));intro cE w2 al hb ar aa;clear ar aa;(first|rw[←aw.out]at al|(simp only[Int.reduceToNat]at al;rw[←aw.out]at al));have bg:=rL al HB;replace HB:=bW HB hb;clear hb al));repeat(go_quiet (first|((with_reducible refine gate_dst (N:=9) rfl ?_);refine Kd.R_lit (Kd.int .i64) _ 3 ?hg (N:=9) ?hd (xs:=([]:List Int)) (inner:=[]) (ok:=fun _=>True) (okp:=fun _=>True) ?hr ?hp (fun _ hk=>hk) trivial (Below.refl _ _) (Nat.le_refl _) (by simp) ?_;(case hd=>rfl);(case hg=>rfl);(case hr=>first|(go_simp;done)|(go_simp;rfl));(case hp=>exact(Reps.none _ _));intro cE w2 al hb ar aa;clear ar aa;(first|rw[←aw.out]at al|(simp only[Int.reduceToNat]at al;rw[←aw.out]at al));have bg:=rL al HB;replace HB:=bW HB hb;clear hb al));try go_wp2_with (first|((with_reducible refine gate_dst (N:=9) rfl ?_);refine Kd.R_lit (Kd.int .i64) _ 3 ?hg (N:=9) ?hd (xs:=([]:List Int)) (inner:=[]) (ok:=fun _=>True) (okp:=fun _=>True) ?hr ?hp (fun _ hk=>hk) trivial (Below.refl _ _) (Nat.le_refl _) (by simp) ?_;(case hd=>rfl);(case hg=>rfl);(case hr=>first|(go_simp;done)|(go_simp;rfl));(case hp=>exact(Reps.none _ _));intro cE w2 al hb ar aa;clear ar aa;(first|rw[←aw.out]at al|(simp only[Int.reduceToNat]at al;rw[←aw.out]at al));have bg:=rL al HB;replace HB:=bW HB hb;clear hb al)))
 go_loopg [3,4] k (fun kq v3 v4 w'=>∃(af:List Int) (ag:Int),v4= .int .i64 ag∧kn (lg.l0 kq l0 af ag=some r)∧kn (kq≤k)∧kn (Kd.R (Kd.int .i64) 3 w' w.heap.size (fun _=>True) v3 af)∧kn (Below w.heap.size w w'))
 case atStart=>exact⟨(cD),(0),(by first|rfl|(simp;done)|(simp[*];done)),H',⟨Nat.le_refl _⟩,⟨by(repeat apply Kd.RS);exact bg.out⟩,⟨wZ HB⟩⟩
 case round=>
  clear H';obtain⟨af,ag,rfl,HA,ax,pJ,HB⟩:=hrel;cases gk with
  |zero=>exact absurd HA.out (by simp[lg.l0])
  |succ k1=>
   have H:=HA.out;clear HA;simp only[lg.l0]at H;rcases nA H with⟨dk,H⟩|⟨dk,H⟩
   ·obtain⟨cF,bh⟩:∃y_:List Int,y_=(([]:List Int)):=⟨_,rfl⟩;replace H:(lg.l1 k1 l0 af ag cF 0)=some r:=by first|(rw[bh];exact H)|exact H
    have ay:=bm bh;clear bh;have H':=bm H;clear H;go_wp2_with (first|((with_reducible refine gate_dst (N:=16) rfl ?_);refine Kd.R_lit (Kd.int .i64) _ 3 ?hg (N:=16) ?hd (xs:=([]:List Int)) (inner:=[]) (ok:=fun _=>True) (okp:=fun _=>True) ?hr ?hp (fun _ hk=>hk) trivial (Below.refl _ _) (Nat.le_refl _) (by simp) ?_;(case hd=>rfl);(case hg=>rfl);(case hr=>first|(go_simp;done)|(go_simp;rfl));(case hp=>exact(Reps.none _ _));intro cG w5 ah hb ar aa;clear ar aa;(first|rw[←ay.out]at ah|(simp only[Int.reduceToNat]at ah;rw[←ay.out]at ah));have bj:=bm (Kd.R_lower (Kd.R_new' ah (Kd.R_lt (rS pJ))) (below_size (wZ HB)));replace pJ:=bm (Kd.R_elder' (rS pJ) (Kd.R_base ah) hb);replace HB:=bW HB hb;clear hb ah));repeat(go_quiet (first|((with_reducible refine gate_dst (N:=16) rfl ?_);refine Kd.R_lit (Kd.int .i64) _ 3 ?hg (N:=16) ?hd (xs:=([]:List Int)) (inner:=[]) (ok:=fun _=>True) (okp:=fun _=>True) ?hr ?hp (fun _ hk=>hk) trivial (Below.refl _ _) (Nat.le_refl _) (by simp) ?_;(case hd=>rfl);(case hg=>rfl);(case hr=>first|(go_simp;done)|(go_simp;rfl));(case hp=>exact(Reps.none _ _));intro cG w5 ah hb ar aa;clear ar aa;(first|rw[←ay.out]at ah|(simp only[Int.reduceToNat]at ah;rw[←ay.out]at ah));have bj:=bm (Kd.R_lower (Kd.R_new' ah (Kd.R_lt (rS pJ))) (below_size (wZ HB)));replace pJ:=bm (Kd.R_elder' (rS pJ) (Kd.R_base ah) hb);replace HB:=bW HB hb;clear hb ah));try go_wp2_with (first|((with_reducible refine gate_dst (N:=16) rfl ?_);refine Kd.R_lit (Kd.int .i64) _ 3 ?hg (N:=16) ?hd (xs:=([]:List Int)) (inner:=[]) (ok:=fun _=>True) (okp:=fun _=>True) ?hr ?hp (fun _ hk=>hk) trivial (Below.refl _ _) (Nat.le_refl _) (by simp) ?_;(case hd=>rfl);(case hg=>rfl);(case hr=>first|(go_simp;done)|(go_simp;rfl));(case hp=>exact(Reps.none _ _));intro cG w5 ah hb ar aa;clear ar aa;(first|rw[←ay.out]at ah|(simp only[Int.reduceToNat]at ah;rw[←ay.out]at ah));have bj:=bm (Kd.R_lower (Kd.R_new' ah (Kd.R_lt (rS pJ))) (below_size (wZ HB)));replace pJ:=bm (Kd.R_elder' (rS pJ) (Kd.R_base ah) hb);replace HB:=bW HB hb;clear hb ah)))
    go_loopg [5,6] k1 (fun kq v5 v6 w'=>∃(j:List Int) (o:Int),v6= .int .i64 o∧kn (lg.l1 kq l0 af ag j o=some r)∧kn (kq≤k1)∧kn (Kd.R (Kd.int .i64) 3 w' w.heap.size (fun k_=>some k_≠(v5:Value).ownBlock) u3 af)∧kn (Kd.R (Kd.int .i64) 3 w' w.heap.size (fun k_=>some k_≠(u3:Value).ownBlock) v5 j)∧kn (Below w.heap.size w w'))
    case atStart=>exact⟨(cF),(0),(by first|rfl|(simp;done)|(simp[*];done)),H',⟨Nat.le_refl _⟩,⟨by(repeat apply Kd.RS);exact Kd.R_mono pJ.out (fun _ hk=>hk.2)⟩,⟨by(repeat apply Kd.RS);exact Kd.R_mono bj.out (fun _ hk=>hk.2)⟩,⟨wZ HB⟩⟩
    case round=>
     clear H';obtain⟨j,o,rfl,HA,az,pJ,oC,HB⟩:=hrel;cases gk with
     |zero=>exact absurd HA.out (by simp[lg.l1])
     |succ k2=>
      have H:=HA.out;clear HA;simp only[lg.l1]at H;rcases nA H with⟨dm,H⟩|⟨dm,H⟩
      ·obtain⟨el,H⟩:=mY H;obtain⟨en,H⟩:=mY H;obtain⟨aA,H⟩:=mY H;have H':=bm H;clear H;have b5:0≤(o:Int):=nY;have b6:o<(l0.length:Int):=nY;obtain⟨bk,dn,aG⟩:=Kd.at_int bV.out o b5 b6;cases dn;replace aG:=mO HB aG;replace b5:=mX b5;replace b6:=mX b6;have b7:0≤(ag:Int):=nY;have b8:ag<(l0.length:Int):=nY;obtain⟨cN,dp,aH⟩:=Kd.at_int bV.out ag b7 b8;obtain rfl:bk=cN:=(by injection dp);replace aH:=mO HB aH;replace b7:=mX b7;replace b8:=mX b8;go_wp2;repeat(go_quiet (fail);try go_wp2)
       go_loopg [7,8] k2 (fun kq v7 v8 w'=>∃(a6:Bool) (av:Int),v7= .bool a6∧v8= .int .i64 av∧kn (lg.l2 kq l0 af ag j o a6 av=some r)∧kn (kq≤k2)∧kn (Kd.R (Kd.int .i64) 3 w' w.heap.size (fun k_=>some k_≠(u5:Value).ownBlock) u3 af)∧kn (Kd.R (Kd.int .i64) 3 w' w.heap.size (fun k_=>some k_≠(u3:Value).ownBlock) u5 j)∧kn (Below w.heap.size w w'))
       case atStart=>exact⟨(decide ((rd l0 o)≥(rd l0 ag))),(0),(by first|rfl|(simp;done)|(simp[*];done)),(by first|rfl|(simp;done)|(simp[*];done)),H',⟨Nat.le_refl _⟩,⟨by(repeat apply Kd.RS);exact pJ.out⟩,⟨by(repeat apply Kd.RS);exact oC.out⟩,⟨wZ HB⟩⟩
       case round=>
        clear H';obtain⟨a6,av,rfl,rfl,HA,a7,pJ,oC,HB⟩:=hrel;cases gk with
        |zero=>exact absurd HA.out (by simp[lg.l2])
        |succ k3=>
         have H:=HA.out;clear HA;simp only[lg.l2]at H;rcases nA H with⟨cO,H⟩|⟨cO,H⟩
         ·by_cases cC:a6=true
          ·subst cC;rw[if_pos rfl]at H;have H':=bm H;clear H;obtain⟨eo,ep,dq⟩:=Kd.R_slice oC.out;subst dq;go_wp2;repeat(go_quiet (fail);try go_wp2)
           go_roundg k3
           case measure=>have:=ax.out;have:=az.out;have:=a7.out;omega
           case rel=>exact⟨(true),(wrap64 (av+1)),(by first|rfl|(simp;done)|(simp[*];done)),(by first|rfl|(simp;done)|(simp[*];done)),H',⟨by have:=ax.out;have:=az.out;have:=a7.out;omega⟩,⟨by(repeat apply Kd.RS);exact pJ.out⟩,⟨by(repeat apply Kd.RS);exact oC.out⟩,⟨wZ HB⟩⟩
          ·replace cC:=mN cC;subst cC;rw[if_neg nz]at H;obtain⟨dX,H⟩:=mY H;obtain⟨dY,H⟩:=mY H;obtain⟨b9,H⟩:=mY H;have H':=bm H;clear H;obtain⟨er,et,du⟩:=Kd.R_slice oC.out;subst du;have ca:0≤(av:Int):=nY;have cb:av<(j.length:Int):=nY;obtain⟨dZ,dv,dw⟩:=Kd.at_int (Kd.R_reads' oC.out).2.2 av ca cb;cases dv;replace ca:=mX ca;replace cb:=mX cb;have cc:0≤(o:Int):=nY;have cd:o<(l0.length:Int):=nY;obtain⟨cP,dx,aI⟩:=Kd.at_int bV.out o cc cd;obtain rfl:bk=cP:=(by injection dx);replace aI:=mO HB aI;replace cc:=mX cc;replace cd:=mX cd;go_wp2;repeat(go_quiet (fail);try go_wp2)
           go_roundg k3
           case measure=>have:=ax.out;have:=az.out;have:=a7.out;omega
           case rel=>exact⟨(((rd j av)==(rd l0 o))),(wrap64 (av+1)),(by first|rfl|(simp;done)|(simp[*];done)),(by first|rfl|(simp;done)|(simp[*];done)),H',⟨by have:=ax.out;have:=az.out;have:=a7.out;omega⟩,⟨by(repeat apply Kd.RS);exact pJ.out⟩,⟨by(repeat apply Kd.RS);exact oC.out⟩,⟨wZ HB⟩⟩
         ·by_cases bl:a6=true
          ·subst bl;rw[if_pos rfl]at H;have H':=bm H;clear H;obtain⟨eu,ev,dy⟩:=Kd.R_slice oC.out;subst dy;go_wp2;repeat(go_quiet (fail);try go_wp2)
           go_roundg k3
           case measure=>have:=ax.out;have:=az.out;have:=a7.out;omega
           case rel=>exact⟨(j),(wrap64 (o+1)),(by first|rfl|(simp;done)|(simp[*];done)),H',⟨by have:=ax.out;have:=az.out;have:=a7.out;omega⟩,⟨by(repeat apply Kd.RS);exact pJ.out⟩,⟨by(repeat apply Kd.RS);exact oC.out⟩,⟨wZ HB⟩⟩
          ·replace bl:=mN bl;subst bl;rw[if_neg nz]at H;obtain⟨ea,H⟩:=mY H;obtain⟨eb,H⟩:=mY H;obtain⟨dB,H⟩:=iN H;have bn:=bm dB;clear dB;obtain⟨cH,bo⟩:∃y_:List Int,y_=(j++ [rd l0 o]):=⟨_,rfl⟩;rw[←bo]at H
           have bp:=bm bo;clear bo;have H':=bm H;clear H;obtain⟨bH,bJ,cf⟩:=Kd.R_slice oC.out;subst cf;have cg:0≤(o:Int):=nY;have ch:o<(l0.length:Int):=nY;obtain⟨cQ,dC,aJ⟩:=Kd.at_int bV.out o cg ch;obtain rfl:bk=cQ:=(by injection dC);replace aJ:=mO HB aJ;replace cg:=mX cg;replace ch:=mX ch;go_wp2_with (first|((with_reducible refine gate_builtin (b:=.append) (xs:= #[.tmp 52,.tmp 57]) rfl ?_);at_builtin;refine Kd.R_append (Kd.int .i64) (w0:=w) w.heap.size rfl (.tmp 52) (.tmp 57) 23 3 (.int .i64 0) 8 rfl Tryz.underlying23 info3 rfl (by decide) (by omega) (.slice bH j.length bJ) j (rd l0 o) [.int .i64 (rd l0 o)] (fun k_=>some k_≠(u3:Value).ownBlock) (fun _=>False) rfl rfl ?aP (fun _ hk=>hk.elim) ?aF ?aO ?aB ?aS ?aL ?_;(case aP=>exact rfl);(case aB=>exact(wZ HB));(case aF=>exact(fun k_ hk=>Kd.fresh' (Kd.R_lt (rS pJ)) k_ hk));(case aO=>exact(rS oC));(case aS=>exact(below_size (wZ HB)));(case aL=>have:=bn.out;omega);intro cI dD ho hb hg ak;rw[←bp.out]at ho;replace pJ:=bm (Kd.R_after (ok:=(fun _=>True)) (by(repeat apply Kd.RS);exact Kd.R_mono pJ.out (fun _ hk=>⟨trivial,hk⟩)) hg ak);replace HB:=bm (hb);have bq:=bm (ho);clear oC;clear ho hb hg ak));repeat(go_quiet (first|((with_reducible refine gate_builtin (b:=.append) (xs:= #[.tmp 52,.tmp 57]) rfl ?_);at_builtin;refine Kd.R_append (Kd.int .i64) (w0:=w) w.heap.size rfl (.tmp 52) (.tmp 57) 23 3 (.int .i64 0) 8 rfl Tryz.underlying23 info3 rfl (by decide) (by omega) (.slice bH j.length bJ) j (rd l0 o) [.int .i64 (rd l0 o)] (fun k_=>some k_≠(u3:Value).ownBlock) (fun _=>False) rfl rfl ?aP (fun _ hk=>hk.elim) ?aF ?aO ?aB ?aS ?aL ?_;(case aP=>exact rfl);(case aB=>exact(wZ HB));(case aF=>exact(fun k_ hk=>Kd.fresh' (Kd.R_lt (rS pJ)) k_ hk));(case aO=>exact(rS oC));(case aS=>exact(below_size (wZ HB)));(case aL=>have:=bn.out;omega);intro cI dD ho hb hg ak;rw[←bp.out]at ho;replace pJ:=bm (Kd.R_after (ok:=(fun _=>True)) (by(repeat apply Kd.RS);exact Kd.R_mono pJ.out (fun _ hk=>⟨trivial,hk⟩)) hg ak);replace HB:=bm (hb);have bq:=bm (ho);clear oC;clear ho hb hg ak));try go_wp2_with (first|((with_reducible refine gate_builtin (b:=.append) (xs:= #[.tmp 52,.tmp 57]) rfl ?_);at_builtin;refine Kd.R_append (Kd.int .i64) (w0:=w) w.heap.size rfl (.tmp 52) (.tmp 57) 23 3 (.int .i64 0) 8 rfl Tryz.underlying23 info3 rfl (by decide) (by omega) (.slice bH j.length bJ) j (rd l0 o) [.int .i64 (rd l0 o)] (fun k_=>some k_≠(u3:Value).ownBlock) (fun _=>False) rfl rfl ?aP (fun _ hk=>hk.elim) ?aF ?aO ?aB ?aS ?aL ?_;(case aP=>exact rfl);(case aB=>exact(wZ HB));(case aF=>exact(fun k_ hk=>Kd.fresh' (Kd.R_lt (rS pJ)) k_ hk));(case aO=>exact(rS oC));(case aS=>exact(below_size (wZ HB)));(case aL=>have:=bn.out;omega);intro cI dD ho hb hg ak;rw[←bp.out]at ho;replace pJ:=bm (Kd.R_after (ok:=(fun _=>True)) (by(repeat apply Kd.RS);exact Kd.R_mono pJ.out (fun _ hk=>⟨trivial,hk⟩)) hg ak);replace HB:=bm (hb);have bq:=bm (ho);clear oC;clear ho hb hg ak)))
           go_roundg k3
           case measure=>have:=ax.out;have:=az.out;have:=a7.out;omega
           case rel=>exact⟨(cH),(wrap64 (o+1)),(by first|rfl|(simp;done)|(simp[*];done)),H',⟨by have:=ax.out;have:=az.out;have:=a7.out;omega⟩,⟨by(repeat apply Kd.RS);exact Kd.R_mono pJ.out (fun _ hk=>hk.2)⟩,⟨by(repeat apply Kd.RS);exact bq.out⟩,⟨wZ HB⟩⟩
      ·obtain⟨dE,H⟩:=iN H;have br:=bm dE;clear dE;obtain⟨cJ,bs⟩:∃y_:List Int,y_=(af++ [(j.length:Int)]):=⟨_,rfl⟩;rw[←bs]at H
       have bu:=bm bs;clear bs;have H':=bm H;clear H;obtain⟨cj,ck,dF⟩:=Kd.R_slice oC.out;subst dF;go_wp2_with (first|((with_reducible refine gate_builtin (b:=.append) (xs:= #[.tmp 59,.tmp 62]) rfl ?_);at_builtin;refine Kd.R_append (Kd.int .i64) (w0:=w) w.heap.size rfl (.tmp 59) (.tmp 62) 23 3 (.int .i64 0) 8 rfl Tryz.underlying23 info3 rfl (by decide) (by omega) u3 af (j.length:Int) [.int .i64 (j.length:Int)] (fun k_=>some k_≠(.slice cj j.length ck:Value).ownBlock) (fun _=>False) rfl rfl ?aP (fun _ hk=>hk.elim) ?aF ?aO ?aB ?aS ?aL ?_;(case aP=>exact rfl);(case aB=>exact(wZ HB));(case aF=>exact(fun k_ hk=>Kd.fresh' (Kd.R_lt (rS oC)) k_ hk));(case aO=>exact(rS pJ));(case aS=>exact(below_size (wZ HB)));(case aL=>have:=br.out;omega);intro cK dG ho hb hg ak;rw[←bu.out]at ho;replace oC:=bm (Kd.R_after (ok:=(fun _=>True)) (by(repeat apply Kd.RS);exact Kd.R_mono oC.out (fun _ hk=>⟨trivial,hk⟩)) hg ak);replace HB:=bm (hb);have bw:=bm (ho);clear pJ;clear ho hb hg ak));repeat(go_quiet (first|((with_reducible refine gate_builtin (b:=.append) (xs:= #[.tmp 59,.tmp 62]) rfl ?_);at_builtin;refine Kd.R_append (Kd.int .i64) (w0:=w) w.heap.size rfl (.tmp 59) (.tmp 62) 23 3 (.int .i64 0) 8 rfl Tryz.underlying23 info3 rfl (by decide) (by omega) u3 af (j.length:Int) [.int .i64 (j.length:Int)] (fun k_=>some k_≠(.slice cj j.length ck:Value).ownBlock) (fun _=>False) rfl rfl ?aP (fun _ hk=>hk.elim) ?aF ?aO ?aB ?aS ?aL ?_;(case aP=>exact rfl);(case aB=>exact(wZ HB));(case aF=>exact(fun k_ hk=>Kd.fresh' (Kd.R_lt (rS oC)) k_ hk));(case aO=>exact(rS pJ));(case aS=>exact(below_size (wZ HB)));(case aL=>have:=br.out;omega);intro cK dG ho hb hg ak;rw[←bu.out]at ho;replace oC:=bm (Kd.R_after (ok:=(fun _=>True)) (by(repeat apply Kd.RS);exact Kd.R_mono oC.out (fun _ hk=>⟨trivial,hk⟩)) hg ak);replace HB:=bm (hb);have bw:=bm (ho);clear pJ;clear ho hb hg ak));try go_wp2_with (first|((with_reducible refine gate_builtin (b:=.append) (xs:= #[.tmp 59,.tmp 62]) rfl ?_);at_builtin;refine Kd.R_append (Kd.int .i64) (w0:=w) w.heap.size rfl (.tmp 59) (.tmp 62) 23 3 (.int .i64 0) 8 rfl Tryz.underlying23 info3 rfl (by decide) (by omega) u3 af (j.length:Int) [.int .i64 (j.length:Int)] (fun k_=>some k_≠(.slice cj j.length ck:Value).ownBlock) (fun _=>False) rfl rfl ?aP (fun _ hk=>hk.elim) ?aF ?aO ?aB ?aS ?aL ?_;(case aP=>exact rfl);(case aB=>exact(wZ HB));(case aF=>exact(fun k_ hk=>Kd.fresh' (Kd.R_lt (rS oC)) k_ hk));(case aO=>exact(rS pJ));(case aS=>exact(below_size (wZ HB)));(case aL=>have:=br.out;omega);intro cK dG ho hb hg ak;rw[←bu.out]at ho;replace oC:=bm (Kd.R_after (ok:=(fun _=>True)) (by(repeat apply Kd.RS);exact Kd.R_mono oC.out (fun _ hk=>⟨trivial,hk⟩)) hg ak);replace HB:=bm (hb);have bw:=bm (ho);clear pJ;clear ho hb hg ak)))
       go_roundg k2
       case measure=>have:=ax.out;have:=az.out;omega
       case rel=>exact⟨(cJ),(wrap64 (ag+1)),(by first|rfl|(simp;done)|(simp[*];done)),H',⟨by have:=ax.out;have:=az.out;omega⟩,⟨by(repeat apply Kd.RS);exact Kd.R_mono bw.out (fun _ hk=>trivial)⟩,⟨wZ HB⟩⟩
   ·obtain rfl:=oJ H;go_wp2;repeat(go_quiet (fail);try go_wp2)
    go_ret;exact⟨_,by first|rfl|(simp[*,jY,jZ]<;>rfl),by(repeat apply Kd.RS);exact pJ.out,wZ HB⟩
def nM.l0:Nat→List Int→Int→List Int→Int→Option (List Int)
 |0,_,_,_,_=>none
 |k+1,x0,x1,x5,x6=>if x6<(x0.length:Int)then(if 0≤x6 then((pf.f x1 x6).bind fun aU=>(if x5.length<17592186044416 then(nM.l0 k x0 x1 (x5++ [wrap64 ((rd x0 x6)+(wrap64 ((wrap64 (1 - aU))*10)))]) (wrap64 (x6+1)))else(none)))else(none))else((lg.f k x5).bind fun cl=>(some cl))
def nM.f (k:Nat) (l0:List Int) (a1:Int):Option (List Int):=nM.l0 k l0 a1 (([]:List Int)) 0
theorem nM.kU:∀k,(∀y0 y1 y2 y3,ph (nM.l0 k y0 y1 y2 y3) (nM.l0 (k+1) y0 y1 y2 y3))
 |0=>fun _ _ _ _=> .z (by simp only[nM.l0])
 |k+1=>by
  have i0:=nM.kU k;exact fun _ _ _ _=>by unfold nM.l0;infer_instance
instance nM.mo {k a0 a1}:ph (nM.f k a0 a1) (nM.f (k+1) a0 a1):=by have i0:=nM.kU k;unfold nM.f;infer_instance
def nM.T5:Bool×List (List Nat×List Nat):=(true,[([],[]),([],[]),([],[]),([1,2],[1,2]),([3],[3]),([],[]),([],[]),([5,6],[5,6]),([7],[7]),([8],[8]),([4,9],[4,9]),([10],[10]),([0,11,7],[0,11]),([12,12,0,1,2,3,4,5,6,7,8,9,10,11,12],[0,12])])
def nM.B5:List Nat:=[0,0,0,6,14,0,0,96,224,480,1022,2046,4095,8191]
theorem nM.zn:rtab .any (opsOf Tryz.f108 5)=nM.T5:=by kernel_rfl
theorem nM.wC:waitsOk nM.T5.2 nM.B5=true:=by kernel_rfl
theorem nM.calls (k:Nat) (A0:Option Addr) (c0:Nat) (l0:List Int) (a1:Int) (r:List Int) (w:World) (b1:Kd.C (Kd.int .i64) w A0 l0.length l0) (b4:l0.length≤c0) (h:nM.f k l0 a1=some r):
  Calls Tryz.prog 108 #[.slice A0 l0.length c0,.int .i64 a1] w fun e w'=>∃aZ:Value,e= .returned (aZ)∧Kd.R (Kd.int .i64) 3 w' w.heap.size (fun _=>True) aZ r∧Below w.heap.size w w':=by
 have bV:=bm b1;have dW:=bm b4;clear b1 b4;have HB:=bm (Below.refl w.heap.size w);have H:=h;clear h;unfold nM.f at H;obtain⟨cL,bx⟩:∃y_:List Int,y_=(([]:List Int)):=⟨_,rfl⟩;replace H:(nM.l0 k l0 a1 cL 0)=some r:=by first|(rw[bx];exact H)|exact H
 have cm:=bm bx;clear bx;have H':=bm H;clear H;go_enter Tryz.func108,Tryz.ntmps108;go_wp2_with (first|((with_reducible refine gate_dst (N:=7) rfl ?_);refine Kd.R_lit (Kd.int .i64) _ 3 ?hg (N:=7) ?hd (xs:=([]:List Int)) (inner:=[]) (ok:=fun _=>True) (okp:=fun _=>True) ?hr ?hp (fun _ hk=>hk) trivial (Below.refl _ _) (Nat.le_refl _) (by simp) ?_;(case hd=>rfl);(case hg=>rfl);(case hr=>first|(go_simp;done)|(go_simp;rfl));(case hp=>exact(Reps.none _ _));intro ew w3 cn hb ar aa;clear ar aa;(first|rw[←cm.out]at cn|(simp only[Int.reduceToNat]at cn;rw[←cm.out]at cn));have cR:=rL cn HB;replace HB:=bW HB hb;clear hb cn));go_loopg [5,6] k (fun kq v5 v6 w'=>∃(aK:List Int) (ae:Int),v6= .int .i64 ae∧kn (nM.l0 kq l0 a1 aK ae=some r)∧kn (kq≤k)∧kn (Kd.R (Kd.int .i64) 3 w' w.heap.size (fun _=>True) v5 aK)∧kn (Below w.heap.size w w'))
 case atStart=>exact⟨(cL),(0),(by first|rfl|(simp;done)|(simp[*];done)),H',⟨Nat.le_refl _⟩,⟨by(repeat apply Kd.RS);exact cR.out⟩,⟨wZ HB⟩⟩
 case round=>
  clear H';obtain⟨aK,ae,rfl,HA,ax,oC,HB⟩:=hrel;cases gk with
  |zero=>exact absurd HA.out (by simp[nM.l0])
  |succ k1=>
   have H:=HA.out;clear HA;simp only[nM.l0]at H;rcases nA H with⟨dH,H⟩|⟨dH,H⟩
   ·obtain⟨ey,H⟩:=mY H;obtain⟨aU,A7,H⟩:=bE H;try dsimp only at H
    obtain⟨c8,H⟩:=iN H;have dI:=bm c8;clear c8;obtain⟨cM,bz⟩:∃y_:List Int,y_=(aK++ [wrap64 ((rd l0 ae)+(wrap64 ((wrap64 (1 - aU))*10)))]):=⟨_,rfl⟩;rw[←bz]at H
    have cS:=bm bz;clear bz;have H':=bm H;clear H;try go_wp2
    replace oC:=mR oC;replace HB:=mW HB;have cp:0≤(ae:Int):=nY;have cq:ae<(l0.length:Int):=nY;obtain⟨cT,dJ,an⟩:=Kd.at_int bV.out ae cp cq;have J:=an;cases dJ;replace an:=mO HB an;replace cp:=mX cp;replace cq:=mX cq;refine start_ (n:=14) (S:=fun w'=>w'.cell? (cT.add (ae).toNat)=some (.int .i64 (rd l0 ae))) (ds:=[]) #[false,false,false,false,false,false,false,false,false,false,false,false,false,false] (by kernel_rfl) rfl rfl (((HB.out.cell (World.block_lt_of_cell? w _ J)).trans J)) (fun hHeld=>?_);refine with_tabW nM.zn nM.wC (fun au ec=>?_);generalize wr.drew=w9 at oC HB an hHeld⊢;refine pure_ (i:=0) (N:=some 14) (v:=?_) (a':=?_) #[true,false,false,false,false,false,false,false,false,false,false,false,false,false] rfl rfl (any_of au.out (by kernel_rfl)) (fun _ _ _ h=>h) (Or.inl ⟨by rfl,?_⟩) ?_ ?_;rotate_left
    ·intro w';go_simp;with_reducible rfl
    rotate_left
    ·simp only[Act.put,qA,qB,qC,i64_w,i32_w];rfl
    refine pure_ (i:=1) (N:=some 15) (v:=?_) (a':=?_) #[true,true,false,false,false,false,false,false,false,false,false,false,false,false] rfl rfl (any_of au.out (by kernel_rfl)) (fun _ _ _ h=>h) (Or.inl ⟨by rfl,?_⟩) ?_ ?_;rotate_left
    ·intro w';go_simp;with_reducible rfl
    rotate_left
    ·simp only[Act.put,qA,qB,qC,i64_w,i32_w];rfl
    refine pure_ (i:=2) (N:=some 16) (v:=?_) (a':=?_) #[true,true,true,false,false,false,false,false,false,false,false,false,false,false] rfl rfl (any_of au.out (by kernel_rfl)) (fun _ _ _ h=>h) (Or.inl ⟨by rfl,?_⟩) ?_ ?_;rotate_left
    ·intro w';go_simp;with_reducible rfl
    rotate_left
    ·simp only[Act.put,qA,qB,qC,i64_w,i32_w];rfl
    refine pure_ (i:=3) (N:=some 17) (v:=?_) (a':=?_) #[true,true,true,true,false,false,false,false,false,false,false,false,false,false] rfl rfl (any_of au.out (by kernel_rfl)) (fun _ _ _ h=>h) (Or.inl ⟨by rfl,?_⟩) ?_ ?_;rotate_left
    ·intro w';go_simp;with_reducible rfl
    rotate_left
    ·simp only[Act.put,qA,qB,qC,i64_w,i32_w];rfl
    refine pure_ (i:=5) (N:=some 19) (v:=?_) (a':=?_) #[true,true,true,true,false,true,false,false,false,false,false,false,false,false] rfl rfl (any_of au.out (by kernel_rfl)) (fun _ _ _ h=>h) (Or.inl ⟨by rfl,?_⟩) ?_ ?_;rotate_left
    ·intro w';go_simp;with_reducible rfl
    rotate_left
    ·simp only[Act.put,qA,qB,qC,i64_w,i32_w];rfl
    refine pure_ (i:=6) (N:=some 20) (v:=?_) (a':=?_) #[true,true,true,true,false,true,true,false,false,false,false,false,false,false] rfl rfl (any_of au.out (by kernel_rfl)) (fun _ _ _ h=>h) (Or.inl ⟨by rfl,?_⟩) ?_ ?_;rotate_left
    ·intro w';go_simp;with_reducible rfl
    rotate_left
    ·simp only[Act.put,qA,qB,qC,i64_w,i32_w];rfl
    refine take_ (i:=4) (N:=some 18) (v:=?_) (a':=?_) #[true,true,true,true,true,true,true,false,false,false,false,false,false,false] rfl rfl (take_ofW au.out ec.out (by kernel_rfl)) (fun _ _ _ h=>h) (Or.inl ⟨by rfl,?_⟩) hHeld ?_ ?_;rotate_left
    ·intro w' s0;go_simp;with_reducible rfl
    rotate_left
    ·simp only[Act.put,qA,qB,qC,i64_w,i32_w];rfl
    refine one_ (i:=7) (N:=some 21) #[true,true,true,true,true,true,true,true,false,false,false,false,false,false] rfl rfl (one_of au.out (by kernel_rfl)) (by decide) (fun K hK=>?_);refine goes_ Tryz.func98 (by kernel_rfl) rfl #[.int .i64 a1,.int .i64 ae] (by rfl) rfl rfl (by(try simp only[List.map_toArray,List.map_cons,List.map_nil]);first|done|rfl|(simp only[List.length_drop,List.length_take];rfl)) ?_;with_reducible refine(pf.calls a1 ae aU _ A7.out).mono ?_
    rintro e w' ⟨rfl,⟨nd,rfl⟩⟩;refine⟨_,rfl,?_⟩;refine hK.out _ _ (((HB.out.cell (World.block_lt_of_cell? w _ J)).trans J)) (fun hHeld=>?_);clear hK K;refine nm 21 ?_
    refine pure_ (i:=8) (N:=some 22) (v:=?_) (a':=?_) #[true,true,true,true,true,true,true,true,true,false,false,false,false,false] rfl rfl (any_of au.out (by kernel_rfl)) (fun _ _ _ h=>h) (Or.inl ⟨by rfl,?_⟩) ?_ ?_;rotate_left
    ·intro w';go_simp;with_reducible rfl
    rotate_left
    ·simp only[Act.put,qA,qB,qC,i64_w,i32_w];rfl
    refine pure_ (i:=9) (N:=some 23) (v:=?_) (a':=?_) #[true,true,true,true,true,true,true,true,true,true,false,false,false,false] rfl rfl (any_of au.out (by kernel_rfl)) (fun _ _ _ h=>h) (Or.inl ⟨by rfl,?_⟩) ?_ ?_;rotate_left
    ·intro w';go_simp;with_reducible rfl
    rotate_left
    ·simp only[Act.put,qA,qB,qC,i64_w,i32_w];rfl
    refine pure_ (i:=10) (N:=some 24) (v:=?_) (a':=?_) #[true,true,true,true,true,true,true,true,true,true,true,false,false,false] rfl rfl (any_of au.out (by kernel_rfl)) (fun _ _ _ h=>h) (Or.inl ⟨by rfl,?_⟩) ?_ ?_;rotate_left
    ·intro w';go_simp;with_reducible rfl
    rotate_left
    ·simp only[Act.put,qA,qB,qC,i64_w,i32_w];rfl
    refine one_ (i:=11) (N:=some 25) #[true,true,true,true,true,true,true,true,true,true,true,true,false,false] rfl rfl (one_of au.out (by kernel_rfl)) (by decide) (fun K hK=>?_);refine value_ (w1:=?_) (v:=?_) (by rfl) rfl ?_ ?_;rotate_left 2
    ·go_simp;constructor
     ·rfl
     ·rfl
    refine hK.out _ _ ((World.cell?_alloc_lt _ _ _ (World.block_lt_of_cell? _ _ (((HB.out.cell (World.block_lt_of_cell? w _ J)).trans J)))).trans (((HB.out.cell (World.block_lt_of_cell? w _ J)).trans J))) (fun hHeld=>?_);clear hK K;refine nm 25 ?_
    refine one_ (i:=12) (N:=some 26) #[true,true,true,true,true,true,true,true,true,true,true,true,true,false] rfl rfl (one_of au.out (by kernel_rfl)) (by decide) (fun K hK=>?_);refine Kd.R_append_step (Kd.int .i64) (w0:=w) w.heap.size (by rfl) (.tmp 14) (.tmp 25) 23 3 (.int .i64 0) 8 rfl Tryz.underlying23 info3 rfl (by decide) (by omega) u5 aK (wrap64 ((rd l0 ae)+(wrap64 ((wrap64 (1 - aU))*10)))) [.int .i64 (wrap64 ((rd l0 ae)+(wrap64 ((wrap64 (1 - aU))*10))))] (fun _=>True) (fun _=>False) rfl rfl ?aP (fun _ hk=>hk.elim) ?aF ?aO ?aB ?aS ?aL ?_;(case aP=>exact rfl);(case aB=>exact(wZ HB));(case aF=>exact(fun _ _=>trivial));(case aO=>exact(rS oC));(case aS=>exact(below_size (wZ HB)));(case aL=>have:=dI.out;omega);intro ez cU ho hb hg ak
    rw[←cS.out]at ho;replace HB:=bm (hb);have cV:=bm (ho);clear oC ho hb hg ak
    refine hK.out _ _ (((HB.out.cell (World.block_lt_of_cell? w _ J)).trans J)) (fun hHeld=>?_);clear hK K;refine nm 26 ?_
    refine pure_ (i:=13) (N:=some 5) (v:=?_) (a':=?_) #[true,true,true,true,true,true,true,true,true,true,true,true,true,true] rfl rfl (any_of au.out (by kernel_rfl)) (fun _ _ _ h=>h) (Or.inl ⟨by rfl,?_⟩) ?_ ?_;rotate_left
    ·intro w';go_simp;with_reducible rfl
    rotate_left
    ·simp only[Act.put,qA,qB,qC,i64_w,i32_w];rfl
    refine done_ (done_of au.out (by kernel_rfl)) ?_;try go_wp2
    go_roundg k1
    case measure=>have:=ax.out;omega
    case rel=>exact⟨(cM),(wrap64 (ae+1)),(by first|rfl|(simp;done)|(simp[*];done)),H',⟨by have:=ax.out;omega⟩,⟨by(repeat apply Kd.RS);exact cV.out⟩,⟨wZ HB⟩⟩
   ·obtain⟨cl,ed,H⟩:=bE H;try dsimp only at H
    obtain rfl:=oJ H;obtain⟨dK,dL,dM⟩:=Kd.R_slice oC.out;subst dM;go_wp2_with (first|(refine gB (some 28) Tryz.func132 #[.slice dK aK.length dL] rfl ?_;(with_reducible refine(lg.calls k1 _ _ aK cl _ ?_ ?_ ed.out).mono ?_);exact cZ (Kd.R_reads' oC.out).2.2;exact(Kd.R_reads' oC.out).2.1;rintro e ee ⟨eA,rfl,ab,hb⟩;refine⟨_,rfl,?_⟩;have cW:=bm (Kd.R_lower (Kd.R_new' ab (Kd.R_lt (rS oC))) (below_size (wZ HB)));replace oC:=bm (Kd.R_elder' (rS oC) (Kd.R_base ab) hb);replace HB:=bW HB hb;clear hb;(try clear ab)));go_ret;exact⟨_,by first|rfl|(simp[*,jY,jZ]<;>rfl),by(repeat apply Kd.RS);exact Kd.R_mono cW.out (fun _ hk=>trivial),wZ HB⟩
def nP.j0:Nat→List Int→Int→Int→Bool→Option (List Int×Bool)
 |0,_,_,_,_=>none
 |k+1,x1,x2,x3,x28=>if x28=true then(some ((([]:List Int)),false))else(if x2=0 then((nq.f k x1 x3).bind fun a8=>((nM.f k x1 a8).bind fun cr=>(some (cr,true))))else((nM.f k x1 x3).bind fun ct=>(some (ct,true))))
def nP.f (k:Nat) (a0:Int) (l1:List Int) (a2:Int) (a3:Int):Option (List Int×Bool):=(lr.f k a0 l1).bind fun ba=>(if ba=true then((qi.f a0 a3).bind fun bb=>(if bb=true then(if a3=0 then(nP.j0 k l1 a2 a3 true)else((ov.f a2 0 1).bind fun aV=>(nP.j0 k l1 a2 a3 (!aV))))else(nP.j0 k l1 a2 a3 true)))else(nP.j0 k l1 a2 a3 true))
theorem nP.kU:∀k,(∀y0 y1 y2 y3,ph (nP.j0 k y0 y1 y2 y3) (nP.j0 (k+1) y0 y1 y2 y3))
 |0=>fun _ _ _ _=> .z (by simp only[nP.j0])
 |k+1=>by
  have i0:=nP.kU k;exact fun _ _ _ _=>by unfold nP.j0;infer_instance
instance nP.mo {k a0 a1 a2 a3}:ph (nP.f k a0 a1 a2 a3) (nP.f (k+1) a0 a1 a2 a3):=by have i0:=nP.kU k;unfold nP.f;infer_instance
theorem nP.calls (k:Nat) (a0:Int) (A1:Option Addr) (c1:Nat) (l1:List Int) (a2:Int) (a3:Int) (r1:List Int) (r2:Bool) (w:World) (cu:Kd.C (Kd.int .i64) w A1 l1.length l1) (cv:l1.length≤c1) (h:nP.f k a0 l1 a2 a3=some (r1,r2)):
  Calls Tryz.prog 78 #[.int .i64 a0,.slice A1 l1.length c1,.int .i64 a2,.int .i64 a3] w fun e w'=>∃aZ:Value,e= .returned (.tuple #[aZ,.bool r2])∧Kd.R (Kd.int .i64) 3 w' w.heap.size (fun _=>True) aZ r1∧Below w.heap.size w w':=by
 have ao:=bm cu;have aq:=bm cv;clear cu cv;have HB:=bm (Below.refl w.heap.size w);have H:=h;clear h;unfold nP.f at H;have cX:=bm H;clear H;go_enter Tryz.func78,Tryz.ntmps78;go_upto_region 1 with(fail)
 go_cut [28] (fun v28 wc=>∃(kq:Nat) (aW:Bool),v28= .bool aW∧kn (nP.j0 kq l1 a2 a3 aW=some (r1,r2))∧kn (kq≤k)∧kn (Below w.heap.size w wc))
 case first=>
  have H:=cX.out;clear cX;obtain⟨ba,A6,H⟩:=bE H;try dsimp only at H
  by_cases c7:ba=true
  ·subst c7;rw[if_pos rfl]at H;obtain⟨bb,A8,H⟩:=bE H;try dsimp only at H
   by_cases c9:bb=true
   ·subst c9;rw[if_pos rfl]at H;rcases iT H with⟨c10,H⟩|⟨c10,H⟩
    ·obtain⟨aA,da⟩:=nL c10;clear c10;(first|rw[aA]|(simp only[i64_w,i32_w];rw[aA])|skip);have H':=bm H;clear H;go_wp2_with (first|(refine gB (some 12) Tryz.func68 #[.int .i64 a0,.slice A1 l1.length c1] rfl ?_;(with_reducible refine(lr.calls k a0 _ _ l1 true _ ?_ ?_ A6.out).mono ?_);exact cY ao HB;exact aq.out;rintro e eM ⟨rfl,hb⟩;refine⟨_,rfl,?_⟩;replace HB:=bW HB hb;clear hb)|(go_at_call 97;(with_reducible refine(qi.calls a0 a3 true _ A8.out).mono ?_);rintro e w' ⟨rfl,⟨nd,rfl⟩⟩));go_meet
     case rel=>exact⟨_,(true),(by first|rfl|(simp;done)|(simp[*];done)),H',⟨by first|omega|exact Nat.le_refl _⟩,⟨wZ HB⟩⟩
    ·obtain⟨aA,da⟩:=nK c10;(first|rw[aA]|(simp only[i64_w,i32_w];rw[aA])|skip);obtain⟨aV,cw,H⟩:=bE H;try dsimp only at H
     have H':=bm H;clear H;go_wp2_with (first|(refine gB (some 12) Tryz.func68 #[.int .i64 a0,.slice A1 l1.length c1] rfl ?_;(with_reducible refine(lr.calls k a0 _ _ l1 true _ ?_ ?_ A6.out).mono ?_);exact cY ao HB;exact aq.out;rintro e ee ⟨rfl,hb⟩;refine⟨_,rfl,?_⟩;replace HB:=bW HB hb;clear hb)|(go_at_call 97;(with_reducible refine(qi.calls a0 a3 true _ A8.out).mono ?_);rintro e w' ⟨rfl,⟨nd,rfl⟩⟩)|(go_at_call 77;(with_reducible refine(ov.calls a2 0 1 aV _ cw.out).mono ?_);rintro e w' ⟨rfl,⟨nd,rfl⟩⟩));go_meet
     case rel=>exact⟨_,(!aV),(by first|rfl|(simp;done)|(simp[*];done)),H',⟨by first|omega|exact Nat.le_refl _⟩,⟨wZ HB⟩⟩
   ·replace c9:=mN c9;subst c9;rw[if_neg nz]at H;have H':=bm H;clear H;go_wp2_with (first|(refine gB (some 12) Tryz.func68 #[.int .i64 a0,.slice A1 l1.length c1] rfl ?_;(with_reducible refine(lr.calls k a0 _ _ l1 true _ ?_ ?_ A6.out).mono ?_);exact cY ao HB;exact aq.out;rintro e db ⟨rfl,hb⟩;refine⟨_,rfl,?_⟩;replace HB:=bW HB hb;clear hb)|(go_at_call 97;(with_reducible refine(qi.calls a0 a3 false _ A8.out).mono ?_);rintro e w' ⟨rfl,⟨nd,rfl⟩⟩));go_meet
    case rel=>exact⟨_,(true),(by first|rfl|(simp;done)|(simp[*];done)),H',⟨by first|omega|exact Nat.le_refl _⟩,⟨wZ HB⟩⟩
  ·replace c7:=mN c7;subst c7;rw[if_neg nz]at H;have H':=bm H;clear H;go_wp2_with (first|(refine gB (some 12) Tryz.func68 #[.int .i64 a0,.slice A1 l1.length c1] rfl ?_;(with_reducible refine(lr.calls k a0 _ _ l1 false _ ?_ ?_ A6.out).mono ?_);exact cY ao HB;exact aq.out;rintro e dc ⟨rfl,hb⟩;refine⟨_,rfl,?_⟩;replace HB:=bW HB hb;clear hb));go_meet
   case rel=>exact⟨_,(true),(by first|rfl|(simp;done)|(simp[*];done)),H',⟨by first|omega|exact Nat.le_refl _⟩,⟨wZ HB⟩⟩
 case rest=>
  clear cX;obtain⟨kq,aW,rfl,HA,eN,HB⟩:=hcut;cases kq with
  |zero=>exact absurd HA.out (by simp[nP.j0])
  |succ zk=>
   have H:=HA.out;clear HA;simp only[nP.j0]at H;by_cases aC:aW=true
   ·subst aC;rw[if_pos rfl]at H;obtain⟨dN,bA⟩:∃y_:List Int,y_=(([]:List Int)):=⟨_,rfl⟩;replace H:(some (dN,false))=some (r1,r2):=by first|(rw[bA];exact H)|exact H
    have cx:=bm bA;clear bA;obtain⟨rfl,rfl⟩:=s2 H;go_wp2_with (first|((with_reducible refine gate_dst (N:=29) rfl ?_);refine Kd.R_lit (Kd.int .i64) _ 3 ?hg (N:=29) ?hd (xs:=([]:List Int)) (inner:=[]) (ok:=fun _=>True) (okp:=fun _=>True) ?hr ?hp (fun _ hk=>hk) trivial (Below.refl _ _) (Nat.le_refl _) (by simp) ?_;(case hd=>rfl);(case hg=>rfl);(case hr=>first|(go_simp;done)|(go_simp;rfl));(case hp=>exact(Reps.none _ _));intro eB eO bc hb ar aa;clear ar aa;(first|rw[←cx.out]at bc|(simp only[Int.reduceToNat]at bc;rw[←cx.out]at bc));have dd:=rL bc HB;replace HB:=bW HB hb;clear hb bc));go_ret2;exact⟨_,by first|rfl|(simp[*,jY,jZ]<;>rfl),by(repeat apply Kd.RS);exact dd.out,wZ HB⟩
   ·replace aC:=mN aC;subst aC;rw[if_neg nz]at H;rcases iT H with⟨aD,H⟩|⟨aD,H⟩
    ·obtain⟨bB,bD⟩:=nL aD;clear aD;obtain⟨a8,ef,H⟩:=bE H;try dsimp only at H
     obtain⟨cr,eg,H⟩:=bE H;try dsimp only at H
     obtain⟨rfl,rfl⟩:=s2 H;go_wp2_with (first|(refine gB (some 35) Tryz.func95 #[.slice A1 l1.length c1,.int .i64 a3] rfl ?_;(with_reducible refine(nq.calls zk _ _ l1 a3 a8 _ ?_ ?_ ef.out).mono ?_);exact cY ao HB;exact aq.out;rintro e eP ⟨rfl,hb⟩;refine⟨_,rfl,?_⟩;replace HB:=bW HB hb;clear hb)|(refine gB (some 36) Tryz.func108 #[.slice A1 l1.length c1,.int .i64 a8] rfl ?_;(with_reducible refine(nM.calls zk _ _ l1 a8 cr _ ?_ ?_ eg.out).mono ?_);exact cY ao HB;exact aq.out;rintro e eQ ⟨eC,rfl,ab,hb⟩;refine⟨_,rfl,?_⟩;have de:=rL ab HB;replace HB:=bW HB hb;clear hb;(try clear ab)));go_ret2;exact⟨_,by first|rfl|(simp[*,jY,jZ]<;>rfl),by(repeat apply Kd.RS);exact de.out,wZ HB⟩
    ·obtain⟨bB,bD⟩:=nK aD;obtain⟨ct,eh,H⟩:=bE H;try dsimp only at H
     obtain⟨rfl,rfl⟩:=s2 H;go_wp2_with (first|(refine gB (some 39) Tryz.func108 #[.slice A1 l1.length c1,.int .i64 a3] rfl ?_;(with_reducible refine(nM.calls zk _ _ l1 a3 ct _ ?_ ?_ eh.out).mono ?_);exact cY ao HB;exact aq.out;rintro e eR ⟨eD,rfl,ab,hb⟩;refine⟨_,rfl,?_⟩;have df:=rL ab HB;replace HB:=bW HB hb;clear hb;(try clear ab)));go_ret2;exact⟨_,by first|rfl|(simp[*,jY,jZ]<;>rfl),by(repeat apply Kd.RS);exact df.out,wZ HB⟩
mutual
def nf.j0:Nat→Int→List Int→List Int→Bool→Option (Bool)
 |0,_,_,_,_=>none
 |k+1,x0,x1,x2,x19=>if x19=true then(some false)else((jV.f k x0 x1).bind fun ai=>((jV.f k x0 x2).bind fun aj=>(nf.l0 k ai aj 0)))
def nf.l0:Nat→List Int→List Int→Int→Option (Bool)
 |0,_,_,_=>none
 |k+1,x7,x8,x9=>if x9<(x7.length:Int)then(if 0≤x9 then(if x9<(x8.length:Int)then(if(rd x7 x9)=(rd x8 x9)then(nf.l0 k x7 x8 (wrap64 (x9+1)))else(some false))else(none))else(none))else(some true)
end
def nf.f (k:Nat) (a0:Int) (l1:List Int) (l2:List Int):Option (Bool):=(lr.f k a0 l1).bind fun bd=>(if bd=true then((lr.f k a0 l2).bind fun aE=>(nf.j0 k a0 l1 l2 (!aE)))else(nf.j0 k a0 l1 l2 true))
theorem nf.kU:∀k,(∀y0 y1 y2 y3,ph (nf.j0 k y0 y1 y2 y3) (nf.j0 (k+1) y0 y1 y2 y3))∧(∀y0 y1 y2,ph (nf.l0 k y0 y1 y2) (nf.l0 (k+1) y0 y1 y2))
 |0=>⟨fun _ _ _ _=> .z (by simp only[nf.j0]),fun _ _ _=> .z (by simp only[nf.l0])⟩
 |k+1=>by
  have⟨i0,i1⟩:=nf.kU k;exact⟨fun _ _ _ _=>by unfold nf.j0;infer_instance,fun _ _ _=>by unfold nf.l0;infer_instance⟩
instance nf.mo {k a0 a1 a2}:ph (nf.f k a0 a1 a2) (nf.f (k+1) a0 a1 a2):=by have⟨i0,i1⟩:=nf.kU k;unfold nf.f;infer_instance
theorem nf.calls (k:Nat) (a0:Int) (A1:Option Addr) (c1:Nat) (l1:List Int) (A2:Option Addr) (c2:Nat) (l2:List Int) (r:Bool) (w:World) (cu:Kd.C (Kd.int .i64) w A1 l1.length l1) (cv:l1.length≤c1) (dO:Kd.C (Kd.int .i64) w A2 l2.length l2) (dP:l2.length≤c2) (h:nf.f k a0 l1 l2=some r):
  Calls Tryz.prog 79 #[.int .i64 a0,.slice A1 l1.length c1,.slice A2 l2.length c2] w fun e w'=>e= .returned (.bool r)∧Below w.heap.size w w':=by
 have ao:=bm cu;have aq:=bm cv;clear cu cv;have bZ:=bm dO;have b0:=bm dP;clear dO dP;have HB:=bm (Below.refl w.heap.size w);have H:=h;clear h;unfold nf.f at H;have dg:=bm H;clear H;go_enter Tryz.func79,Tryz.ntmps79;go_upto_region 1 with(fail)
 repeat(go_quiet (fail);go_upto_region 1 with(fail))
 go_cut [19] (fun ei wc=>∃(kq:Nat) (aY:Bool),ei= .bool aY∧kn (nf.j0 kq a0 l1 l2 aY=some r)∧kn (kq≤k)∧kn (Below w.heap.size w wc))
 case first=>
  have H:=dg.out;clear dg;obtain⟨bd,A5,H⟩:=bE H;try dsimp only at H
  by_cases c6:bd=true
  ·subst c6;rw[if_pos rfl]at H;obtain⟨aE,A7,H⟩:=bE H;try dsimp only at H
   have H':=bm H;clear H;go_wp2_with (first|(go_at_call 68;(with_reducible refine(lr.calls k a0 _ _ l1 true _ ?_ ?_ A5.out).mono ?_);exact cY ao HB;exact aq.out;rintro e w8 ⟨rfl,hb⟩;replace HB:=bW HB hb;clear hb)|(go_at_call 68;(with_reducible refine(lr.calls k a0 _ _ l2 aE _ ?_ ?_ A7.out).mono ?_);exact cY bZ HB;exact b0.out;rintro e w9 ⟨rfl,hb⟩;replace HB:=bW HB hb;clear hb));repeat(go_quiet (first|(go_at_call 68;(with_reducible refine(lr.calls k a0 _ _ l1 true _ ?_ ?_ A5.out).mono ?_);exact cY ao HB;exact aq.out;rintro e w8 ⟨rfl,hb⟩;replace HB:=bW HB hb;clear hb)|(go_at_call 68;(with_reducible refine(lr.calls k a0 _ _ l2 aE _ ?_ ?_ A7.out).mono ?_);exact cY bZ HB;exact b0.out;rintro e w9 ⟨rfl,hb⟩;replace HB:=bW HB hb;clear hb));try go_wp2_with (first|(go_at_call 68;(with_reducible refine(lr.calls k a0 _ _ l1 true _ ?_ ?_ A5.out).mono ?_);exact cY ao HB;exact aq.out;rintro e w8 ⟨rfl,hb⟩;replace HB:=bW HB hb;clear hb)|(go_at_call 68;(with_reducible refine(lr.calls k a0 _ _ l2 aE _ ?_ ?_ A7.out).mono ?_);exact cY bZ HB;exact b0.out;rintro e w9 ⟨rfl,hb⟩;replace HB:=bW HB hb;clear hb)))
   go_meet
   case rel=>exact⟨_,(!aE),(by first|rfl|(simp;done)|(simp[*];done)),H',⟨by first|omega|exact Nat.le_refl _⟩,⟨wZ HB⟩⟩
  ·replace c6:=mN c6;subst c6;rw[if_neg nz]at H;have H':=bm H;clear H;go_wp2_with (first|(go_at_call 68;(with_reducible refine(lr.calls k a0 _ _ l1 false _ ?_ ?_ A5.out).mono ?_);exact cY ao HB;exact aq.out;rintro e cU ⟨rfl,hb⟩;replace HB:=bW HB hb;clear hb));repeat(go_quiet (first|(go_at_call 68;(with_reducible refine(lr.calls k a0 _ _ l1 false _ ?_ ?_ A5.out).mono ?_);exact cY ao HB;exact aq.out;rintro e cU ⟨rfl,hb⟩;replace HB:=bW HB hb;clear hb));try go_wp2_with (first|(go_at_call 68;(with_reducible refine(lr.calls k a0 _ _ l1 false _ ?_ ?_ A5.out).mono ?_);exact cY ao HB;exact aq.out;rintro e cU ⟨rfl,hb⟩;replace HB:=bW HB hb;clear hb)))
   go_meet
   case rel=>exact⟨_,(true),(by first|rfl|(simp;done)|(simp[*];done)),H',⟨by first|omega|exact Nat.le_refl _⟩,⟨wZ HB⟩⟩
 case rest=>
  clear dg;obtain⟨kq,aY,rfl,HA,dQ,HB⟩:=hcut;cases kq with
  |zero=>exact absurd HA.out (by simp[nf.j0])
  |succ vn=>
   have H:=HA.out;clear HA;simp only[nf.j0]at H;by_cases aT:aY=true
   ·subst aT;rw[if_pos rfl]at H;obtain rfl:=oJ H;go_wp2;repeat(go_quiet (fail);try go_wp2)
    go_ret;exact rz HB
   ·replace aT:=mN aT;subst aT;rw[if_neg nz]at H;obtain⟨ai,cw,H⟩:=bE H;try dsimp only at H
    obtain⟨aj,dh,H⟩:=bE H;try dsimp only at H
    have H':=bm H;clear H;go_wp2_with (first|(go_at_call 69;(with_reducible refine(jV.calls vn a0 _ _ l1 ai _ ?_ ?_ cw.out).mono ?_);exact cY ao HB;exact aq.out;rintro e db ⟨bO,rfl,ab,hb⟩;have ad:=rL ab HB;replace HB:=bW HB hb;clear hb;(try clear ab))|(go_at_call 69;(with_reducible refine(jV.calls vn a0 _ _ l2 aj _ ?_ ?_ dh.out).mono ?_);exact cY bZ HB;exact b0.out;rintro e dc ⟨bT,rfl,ab,hb⟩;have bF:=bm (Kd.R_lower (Kd.R_new' ab (Kd.R_lt (rS ad))) (below_size (wZ HB)));replace ad:=bm (Kd.R_elder' (rS ad) (Kd.R_base ab) hb);replace HB:=bW HB hb;clear hb;(try clear ab)));repeat(go_quiet (first|(go_at_call 69;(with_reducible refine(jV.calls vn a0 _ _ l1 ai _ ?_ ?_ cw.out).mono ?_);exact cY ao HB;exact aq.out;rintro e db ⟨bO,rfl,ab,hb⟩;have ad:=rL ab HB;replace HB:=bW HB hb;clear hb;(try clear ab))|(go_at_call 69;(with_reducible refine(jV.calls vn a0 _ _ l2 aj _ ?_ ?_ dh.out).mono ?_);exact cY bZ HB;exact b0.out;rintro e dc ⟨bT,rfl,ab,hb⟩;have bF:=bm (Kd.R_lower (Kd.R_new' ab (Kd.R_lt (rS ad))) (below_size (wZ HB)));replace ad:=bm (Kd.R_elder' (rS ad) (Kd.R_base ab) hb);replace HB:=bW HB hb;clear hb;(try clear ab)));try go_wp2_with (first|(go_at_call 69;(with_reducible refine(jV.calls vn a0 _ _ l1 ai _ ?_ ?_ cw.out).mono ?_);exact cY ao HB;exact aq.out;rintro e db ⟨bO,rfl,ab,hb⟩;have ad:=rL ab HB;replace HB:=bW HB hb;clear hb;(try clear ab))|(go_at_call 69;(with_reducible refine(jV.calls vn a0 _ _ l2 aj _ ?_ ?_ dh.out).mono ?_);exact cY bZ HB;exact b0.out;rintro e dc ⟨bT,rfl,ab,hb⟩;have bF:=bm (Kd.R_lower (Kd.R_new' ab (Kd.R_lt (rS ad))) (below_size (wZ HB)));replace ad:=bm (Kd.R_elder' (rS ad) (Kd.R_base ab) hb);replace HB:=bW HB hb;clear hb;(try clear ab))))
    go_loopg [9] vn (fun kq v9 w'=>∃(I:Int),v9= .int .i64 I∧kn (nf.l0 kq ai aj I=some r)∧kn (kq≤vn)∧kn (Kd.R (Kd.int .i64) 3 w' w.heap.size (fun k_=>some k_≠(bT:Value).ownBlock) bO ai)∧kn (Kd.R (Kd.int .i64) 3 w' w.heap.size (fun k_=>some k_≠(bO:Value).ownBlock) bT aj)∧kn (Below w.heap.size w w'))
    case atStart=>exact⟨(0),(by first|rfl|(simp;done)|(simp[*];done)),H',⟨Nat.le_refl _⟩,⟨by(repeat apply Kd.RS);exact Kd.R_mono ad.out (fun _ hk=>hk.2)⟩,⟨by(repeat apply Kd.RS);exact Kd.R_mono bF.out (fun _ hk=>hk.2)⟩,⟨wZ HB⟩⟩
    case round=>
     clear H';obtain⟨I,rfl,HA,az,oH,zr,HB⟩:=hrel;cases gk with
     |zero=>exact absurd HA.out (by simp[nf.l0])
     |succ k2=>
      have H:=HA.out;clear HA;simp only[nf.l0]at H;rcases nA H with⟨b9,H⟩|⟨b9,H⟩
      ·obtain⟨ej,H⟩:=mY H;obtain⟨ek,H⟩:=mY H;rcases iT H with⟨aD,H⟩|⟨aD,H⟩
       ·obtain⟨bB,bD⟩:=nL aD;clear aD;have H':=bm H;clear H;obtain⟨eE,eF,dS⟩:=Kd.R_slice oH.out;subst dS;have aM:0≤(I:Int):=nY;have aN:I<(ai.length:Int):=nY;obtain⟨di,cy,cz⟩:=Kd.at_int (Kd.R_reads' oH.out).2.2 I aM aN;cases cy;replace aM:=mX aM;replace aN:=mX aN;obtain⟨eG,eH,dT⟩:=Kd.R_slice zr.out;subst dT;have aQ:0≤(I:Int):=nY;have aR:I<(aj.length:Int):=nY;obtain⟨dj,cA,cB⟩:=Kd.at_int (Kd.R_reads' zr.out).2.2 I aQ aR;cases cA;replace aQ:=mX aQ;replace aR:=mX aR;go_wp2;repeat(go_quiet (fail);try go_wp2)
        go_roundg k2
        case measure=>have:=dQ.out;have:=az.out;omega
        case rel=>exact⟨(wrap64 (I+1)),(by first|rfl|(simp;done)|(simp[*];done)),H',⟨by have:=dQ.out;have:=az.out;omega⟩,⟨by(repeat apply Kd.RS);exact oH.out⟩,⟨by(repeat apply Kd.RS);exact zr.out⟩,⟨wZ HB⟩⟩
       ·obtain⟨bB,bD⟩:=nK aD;obtain rfl:=oJ H;obtain⟨eI,eJ,dU⟩:=Kd.R_slice oH.out;subst dU;have aM:0≤(I:Int):=nY;have aN:I<(ai.length:Int):=nY;obtain⟨di,cy,cz⟩:=Kd.at_int (Kd.R_reads' oH.out).2.2 I aM aN;cases cy;replace aM:=mX aM;replace aN:=mX aN;obtain⟨bH,bJ,cf⟩:=Kd.R_slice zr.out;subst cf;have aQ:0≤(I:Int):=nY;have aR:I<(aj.length:Int):=nY;obtain⟨dj,cA,cB⟩:=Kd.at_int (Kd.R_reads' zr.out).2.2 I aQ aR;cases cA;replace aQ:=mX aQ;replace aR:=mX aR;go_wp2;repeat(go_quiet (fail);try go_wp2)
        go_ret;exact rz HB
      ·obtain rfl:=oJ H;obtain⟨eK,eL,dV⟩:=Kd.R_slice oH.out;subst dV;go_wp2;repeat(go_quiet (fail);try go_wp2)
       go_ret;exact rz HB
end Go.Proofs.YtigeaokfhnlkcaaGreatDoor.P
