import Derived.Test.YtihgpkohglcijaaGreatDoorPx0
import Derived.Test.YtihgpkohglcijaaGreatDoorPx2
import Derived.Test.YtihgpkohglcijaaGreatDoorPx3
import Derived.Test.YtihgpkohglcijaaGreatDoorPx4
namespace Go.Proofs.YtihgpkohglcijaaGreatDoor.P
open Go.RowKit YtihgpkohglcijaaGreatDoorW PrintWords PrintLast PrintMore
attribute [local go_sem] max2_int min2_int max_two min_two max_three min_three max_four min_four
set_option linter.unusedVariables false
set_option linter.unusedSimpArgs false
set_option maxHeartbeats 8000000
set_option maxRecDepth 100000
mutual
def iz.l0:Nat→List Int→List Int→Int→Option (List Int)
 |0,_,_,_=>none
 |k+1,x0,x3,x4=>if x4<(x0.length:Int)then(iz.l1 k x0 x3 x4 (([]:List Int)) 0)else(some x3)
def iz.l1:Nat→List Int→List Int→Int→List Int→Int→Option (List Int)
 |0,_,_,_,_,_=>none
 |k+1,x0,x3,x4,x5,x6=>if x6<(x0.length:Int)then(if 0≤x6 then(if 0≤x4 then(if x4<(x0.length:Int)then(iz.l2 k x0 x3 x4 x5 x6 (decide ((rd x0 x6)≥(rd x0 x4))) 0)else(none))else(none))else(none))else(if x3.length<17592186044416 then(iz.l0 k x0 (x3++ [(x5.length:Int)]) (wrap64 (x4+1)))else(none))
def iz.l2:Nat→List Int→List Int→Int→List Int→Int→Bool→Int→Option (List Int)
 |0,_,_,_,_,_,_,_=>none
 |k+1,x0,x3,x4,x5,x6,x7,x8=>if x8<(x5.length:Int)then(if x7=true then(iz.l2 k x0 x3 x4 x5 x6 true (wrap64 (x8+1)))else(if 0≤x8 then(if 0≤x6 then(if x6<(x0.length:Int)then(iz.l2 k x0 x3 x4 x5 x6 ((rd x5 x8)==(rd x0 x6)) (wrap64 (x8+1)))else(none))else(none))else(none)))else(if x7=true then(iz.l1 k x0 x3 x4 x5 (wrap64 (x6+1)))else(if 0≤x6 then(if x6<(x0.length:Int)then(if x5.length<17592186044416 then(iz.l1 k x0 x3 x4 (x5++ [rd x0 x6]) (wrap64 (x6+1)))else(none))else(none))else(none)))
end
def iz.f (k:Nat) (l0:List Int):Option (List Int):=iz.l0 k l0 (([]:List Int)) 0
theorem iz.gF:∀k,(∀y0 y1 y2,ku (iz.l0 k y0 y1 y2) (iz.l0 (k+1) y0 y1 y2))∧(∀y0 y1 y2 y3 y4,ku (iz.l1 k y0 y1 y2 y3 y4) (iz.l1 (k+1) y0 y1 y2 y3 y4))∧(∀y0 y1 y2 y3 y4 y5 y6,ku (iz.l2 k y0 y1 y2 y3 y4 y5 y6) (iz.l2 (k+1) y0 y1 y2 y3 y4 y5 y6))
 |0=>⟨fun _ _ _=> .z (by simp only[iz.l0]),fun _ _ _ _ _=> .z (by simp only[iz.l1]),fun _ _ _ _ _ _ _=> .z (by simp only[iz.l2])⟩
 |k+1=>by
  have⟨i0,i1,i2⟩:=iz.gF k;exact⟨fun _ _ _=>by unfold iz.l0;infer_instance,fun _ _ _ _ _=>by unfold iz.l1;infer_instance,fun _ _ _ _ _ _ _=>by unfold iz.l2;infer_instance⟩
instance iz.mo {k a0}:ku (iz.f k a0) (iz.f (k+1) a0):=by have⟨i0,i1,i2⟩:=iz.gF k;unfold iz.f;infer_instance
theorem iz.calls (k:Nat) (A0:Option Addr) (c0:Nat) (l0:List Int) (r:List Int) (w:World) (bD:Kd.C (Kd.int .i64) w A0 l0.length l0) (bF:l0.length≤c0) (h:iz.f k l0=some r):
  Calls Tryz.prog 156 #[.slice A0 l0.length c0] w fun e w'=>∃aT:Value,e= .returned (aT)∧Kd.R (Kd.int .i64) 3 w' w.heap.size (fun _=>True) aT r∧Below w.heap.size w w':=by
 have bz:=bm bD;have dK:=bm bF;clear bD bF;have HB:=bm (Below.refl w.heap.size w);have H:=h;clear h;unfold iz.f at H;obtain⟨cq,aY⟩:∃y_:List Int,y_=(([]:List Int)):=⟨_,rfl⟩;replace H:(iz.l0 k l0 cq 0)=some r:=by first|(rw[aY];exact H)|exact H
 have au:=bm aY;clear aY;have H':=bm H;clear H;go_enter Tryz.func156,Tryz.ntmps156;go_wp2_with (first|((with_reducible refine gate_dst (N:=9) rfl ?_);refine Kd.R_lit (Kd.int .i64) _ 3 ?hg (N:=9) ?hd (xs:=([]:List Int)) (inner:=[]) (ok:=fun _=>True) (okp:=fun _=>True) ?hr ?hp (fun _ hk=>hk) trivial (Below.refl _ _) (Nat.le_refl _) (by simp) ?_;(case hd=>rfl);(case hg=>rfl);(case hr=>first|(go_simp;done)|(go_simp;rfl));(case hp=>exact(Reps.none _ _));intro _ _ aj hb ao aa;clear ao aa;(first|rw[←au.out]at aj|(simp only[Int.reduceToNat]at aj;rw[←au.out]at aj));have aZ:=vm aj HB;replace HB:=bW HB hb;clear hb aj));repeat(go_quiet (first|((with_reducible refine gate_dst (N:=9) rfl ?_);refine Kd.R_lit (Kd.int .i64) _ 3 ?hg (N:=9) ?hd (xs:=([]:List Int)) (inner:=[]) (ok:=fun _=>True) (okp:=fun _=>True) ?hr ?hp (fun _ hk=>hk) trivial (Below.refl _ _) (Nat.le_refl _) (by simp) ?_;(case hd=>rfl);(case hg=>rfl);(case hr=>first|(go_simp;done)|(go_simp;rfl));(case hp=>exact(Reps.none _ _));intro _ _ aj hb ao aa;clear ao aa;(first|rw[←au.out]at aj|(simp only[Int.reduceToNat]at aj;rw[←au.out]at aj));have aZ:=vm aj HB;replace HB:=bW HB hb;clear hb aj));try go_wp2_with (first|((with_reducible refine gate_dst (N:=9) rfl ?_);refine Kd.R_lit (Kd.int .i64) _ 3 ?hg (N:=9) ?hd (xs:=([]:List Int)) (inner:=[]) (ok:=fun _=>True) (okp:=fun _=>True) ?hr ?hp (fun _ hk=>hk) trivial (Below.refl _ _) (Nat.le_refl _) (by simp) ?_;(case hd=>rfl);(case hg=>rfl);(case hr=>first|(go_simp;done)|(go_simp;rfl));(case hp=>exact(Reps.none _ _));intro _ _ aj hb ao aa;clear ao aa;(first|rw[←au.out]at aj|(simp only[Int.reduceToNat]at aj;rw[←au.out]at aj));have aZ:=vm aj HB;replace HB:=bW HB hb;clear hb aj)))
 go_loopg [3,4] k (fun kq v3 v4 w'=>∃(af:List Int) (ag:Int),v4= .int .i64 ag∧gm (iz.l0 kq l0 af ag=some r)∧gm (kq≤k)∧gm (Kd.R (Kd.int .i64) 3 w' w.heap.size (fun _=>True) v3 af)∧gm (Below w.heap.size w w'))
 case atStart=>exact⟨(cq),(0),(by first|rfl|(simp;done)|(simp[*];done)),H',⟨Nat.le_refl _⟩,⟨by(repeat apply Kd.RS);exact aZ.out⟩,⟨wZ HB⟩⟩
 case round=>
  clear H';obtain⟨af,ag,rfl,HA,av,mX,HB⟩:=hrel;cases gk with
  |zero=>exact absurd HA.out (by simp[iz.l0])
  |succ k1=>
   have H:=HA.out;clear HA;simp only[iz.l0]at H;rcases vL H with⟨cV,H⟩|⟨cV,H⟩
   ·obtain⟨ct,a6⟩:∃y_:List Int,y_=(([]:List Int)):=⟨_,rfl⟩;replace H:(iz.l1 k1 l0 af ag ct 0)=some r:=by first|(rw[a6];exact H)|exact H
    have aw:=bm a6;clear a6;have H':=bm H;clear H;go_wp2_with (first|((with_reducible refine gate_dst (N:=16) rfl ?_);refine Kd.R_lit (Kd.int .i64) _ 3 ?hg (N:=16) ?hd (xs:=([]:List Int)) (inner:=[]) (ok:=fun _=>True) (okp:=fun _=>True) ?hr ?hp (fun _ hk=>hk) trivial (Below.refl _ _) (Nat.le_refl _) (by simp) ?_;(case hd=>rfl);(case hg=>rfl);(case hr=>first|(go_simp;done)|(go_simp;rfl));(case hp=>exact(Reps.none _ _));intro _ _ ah hb ao aa;clear ao aa;(first|rw[←aw.out]at ah|(simp only[Int.reduceToNat]at ah;rw[←aw.out]at ah));have a7:=bm (Kd.R_lower (Kd.R_new' ah (Kd.R_lt (rS mX))) (below_size (wZ HB)));replace mX:=bm (Kd.R_elder' (rS mX) (Kd.R_base ah) hb);replace HB:=bW HB hb;clear hb ah));repeat(go_quiet (first|((with_reducible refine gate_dst (N:=16) rfl ?_);refine Kd.R_lit (Kd.int .i64) _ 3 ?hg (N:=16) ?hd (xs:=([]:List Int)) (inner:=[]) (ok:=fun _=>True) (okp:=fun _=>True) ?hr ?hp (fun _ hk=>hk) trivial (Below.refl _ _) (Nat.le_refl _) (by simp) ?_;(case hd=>rfl);(case hg=>rfl);(case hr=>first|(go_simp;done)|(go_simp;rfl));(case hp=>exact(Reps.none _ _));intro _ _ ah hb ao aa;clear ao aa;(first|rw[←aw.out]at ah|(simp only[Int.reduceToNat]at ah;rw[←aw.out]at ah));have a7:=bm (Kd.R_lower (Kd.R_new' ah (Kd.R_lt (rS mX))) (below_size (wZ HB)));replace mX:=bm (Kd.R_elder' (rS mX) (Kd.R_base ah) hb);replace HB:=bW HB hb;clear hb ah));try go_wp2_with (first|((with_reducible refine gate_dst (N:=16) rfl ?_);refine Kd.R_lit (Kd.int .i64) _ 3 ?hg (N:=16) ?hd (xs:=([]:List Int)) (inner:=[]) (ok:=fun _=>True) (okp:=fun _=>True) ?hr ?hp (fun _ hk=>hk) trivial (Below.refl _ _) (Nat.le_refl _) (by simp) ?_;(case hd=>rfl);(case hg=>rfl);(case hr=>first|(go_simp;done)|(go_simp;rfl));(case hp=>exact(Reps.none _ _));intro _ _ ah hb ao aa;clear ao aa;(first|rw[←aw.out]at ah|(simp only[Int.reduceToNat]at ah;rw[←aw.out]at ah));have a7:=bm (Kd.R_lower (Kd.R_new' ah (Kd.R_lt (rS mX))) (below_size (wZ HB)));replace mX:=bm (Kd.R_elder' (rS mX) (Kd.R_base ah) hb);replace HB:=bW HB hb;clear hb ah)))
    go_loopg [5,6] k1 (fun kq v5 v6 w'=>∃(j:List Int) (o:Int),v6= .int .i64 o∧gm (iz.l1 kq l0 af ag j o=some r)∧gm (kq≤k1)∧gm (Kd.R (Kd.int .i64) 3 w' w.heap.size (fun k_=>some k_≠(v5:Value).ownBlock) u3 af)∧gm (Kd.R (Kd.int .i64) 3 w' w.heap.size (fun k_=>some k_≠(u3:Value).ownBlock) v5 j)∧gm (Below w.heap.size w w'))
    case atStart=>exact⟨(ct),(0),(by first|rfl|(simp;done)|(simp[*];done)),H',⟨Nat.le_refl _⟩,⟨by(repeat apply Kd.RS);exact Kd.R_mono mX.out (fun _ hk=>hk.2)⟩,⟨by(repeat apply Kd.RS);exact Kd.R_mono a7.out (fun _ hk=>hk.2)⟩,⟨wZ HB⟩⟩
    case round=>
     clear H';obtain⟨j,o,rfl,HA,ax,mX,lp,HB⟩:=hrel;cases gk with
     |zero=>exact absurd HA.out (by simp[iz.l1])
     |succ k2=>
      have H:=HA.out;clear HA;simp only[iz.l1]at H;rcases vL H with⟨cW,H⟩|⟨cW,H⟩
      ·obtain⟨dZ,H⟩:=vJ H;obtain⟨ea,H⟩:=vJ H;obtain⟨ay,H⟩:=vJ H;have H':=bm H;clear H;have bH:0≤(o:Int):=jK;have bJ:o<(l0.length:Int):=jK;obtain⟨a8,cX,aC⟩:=Kd.at_int bz.out o bH bJ;cases cX;replace aC:=vA HB aC;replace bH:=vI bH;replace bJ:=vI bJ;have bO:0≤(ag:Int):=jK;have bT:ag<(l0.length:Int):=jK;obtain⟨cA,da,aD⟩:=Kd.at_int bz.out ag bO bT;obtain rfl:a8=cA:=(by injection da);replace aD:=vA HB aD;replace bO:=vI bO;replace bT:=vI bT;go_wp2;repeat(go_quiet (fail);try go_wp2)
       go_loopg [7,8] k2 (fun kq v7 v8 w'=>∃(aU:Bool) (ar:Int),v7= .bool aU∧v8= .int .i64 ar∧gm (iz.l2 kq l0 af ag j o aU ar=some r)∧gm (kq≤k2)∧gm (Kd.R (Kd.int .i64) 3 w' w.heap.size (fun k_=>some k_≠(u5:Value).ownBlock) u3 af)∧gm (Kd.R (Kd.int .i64) 3 w' w.heap.size (fun k_=>some k_≠(u3:Value).ownBlock) u5 j)∧gm (Below w.heap.size w w'))
       case atStart=>exact⟨(decide ((rd l0 o)≥(rd l0 ag))),(0),(by first|rfl|(simp;done)|(simp[*];done)),(by first|rfl|(simp;done)|(simp[*];done)),H',⟨Nat.le_refl _⟩,⟨by(repeat apply Kd.RS);exact mX.out⟩,⟨by(repeat apply Kd.RS);exact lp.out⟩,⟨wZ HB⟩⟩
       case round=>
        clear H';obtain⟨aU,ar,rfl,rfl,HA,aV,mX,lp,HB⟩:=hrel;cases gk with
        |zero=>exact absurd HA.out (by simp[iz.l2])
        |succ k3=>
         have H:=HA.out;clear HA;simp only[iz.l2]at H;rcases vL H with⟨cB,H⟩|⟨cB,H⟩
         ·by_cases cp:aU=true
          ·subst cp;rw[if_pos rfl]at H;have H':=bm H;clear H;obtain⟨eb,ec,db⟩:=Kd.R_slice lp.out;subst db;go_wp2;repeat(go_quiet (fail);try go_wp2)
           go_roundg k3
           case measure=>have:=av.out;have:=ax.out;have:=aV.out;omega
           case rel=>exact⟨(true),(wrap64 (ar+1)),(by first|rfl|(simp;done)|(simp[*];done)),(by first|rfl|(simp;done)|(simp[*];done)),H',⟨by have:=av.out;have:=ax.out;have:=aV.out;omega⟩,⟨by(repeat apply Kd.RS);exact mX.out⟩,⟨by(repeat apply Kd.RS);exact lp.out⟩,⟨wZ HB⟩⟩
          ·replace cp:=uZ cp;subst cp;rw[if_neg vR]at H;obtain⟨dL,H⟩:=vJ H;obtain⟨dM,H⟩:=vJ H;obtain⟨bV,H⟩:=vJ H;have H':=bm H;clear H;obtain⟨ed,ee,de⟩:=Kd.R_slice lp.out;subst de;have bZ:0≤(ar:Int):=jK;have b0:ar<(j.length:Int):=jK;obtain⟨dN,df,dh⟩:=Kd.at_int (Kd.R_reads' lp.out).2.2 ar bZ b0;cases df;replace bZ:=vI bZ;replace b0:=vI b0;have b1:0≤(o:Int):=jK;have b4:o<(l0.length:Int):=jK;obtain⟨cC,di,aE⟩:=Kd.at_int bz.out o b1 b4;obtain rfl:a8=cC:=(by injection di);replace aE:=vA HB aE;replace b1:=vI b1;replace b4:=vI b4;go_wp2;repeat(go_quiet (fail);try go_wp2)
           go_roundg k3
           case measure=>have:=av.out;have:=ax.out;have:=aV.out;omega
           case rel=>exact⟨(((rd j ar)==(rd l0 o))),(wrap64 (ar+1)),(by first|rfl|(simp;done)|(simp[*];done)),(by first|rfl|(simp;done)|(simp[*];done)),H',⟨by have:=av.out;have:=ax.out;have:=aV.out;omega⟩,⟨by(repeat apply Kd.RS);exact mX.out⟩,⟨by(repeat apply Kd.RS);exact lp.out⟩,⟨wZ HB⟩⟩
         ·by_cases ba:aU=true
          ·subst ba;rw[if_pos rfl]at H;have H':=bm H;clear H;obtain⟨ef,eg,dj⟩:=Kd.R_slice lp.out;subst dj;go_wp2;repeat(go_quiet (fail);try go_wp2)
           go_roundg k3
           case measure=>have:=av.out;have:=ax.out;have:=aV.out;omega
           case rel=>exact⟨(j),(wrap64 (o+1)),(by first|rfl|(simp;done)|(simp[*];done)),H',⟨by have:=av.out;have:=ax.out;have:=aV.out;omega⟩,⟨by(repeat apply Kd.RS);exact mX.out⟩,⟨by(repeat apply Kd.RS);exact lp.out⟩,⟨wZ HB⟩⟩
          ·replace ba:=uZ ba;subst ba;rw[if_neg vR]at H;obtain⟨dO,H⟩:=vJ H;obtain⟨dP,H⟩:=vJ H;obtain⟨dn,H⟩:=iN H;have bb:=bm dn;clear dn;obtain⟨cu,bc⟩:∃y_:List Int,y_=(j++ [rd l0 o]):=⟨_,rfl⟩;rw[←bc]at H
           have bd:=bm bc;clear bc;have H':=bm H;clear H;obtain⟨bs,bu,b5⟩:=Kd.R_slice lp.out;subst b5;have b6:0≤(o:Int):=jK;have b7:o<(l0.length:Int):=jK;obtain⟨cD,dp,aG⟩:=Kd.at_int bz.out o b6 b7;obtain rfl:a8=cD:=(by injection dp);replace aG:=vA HB aG;replace b6:=vI b6;replace b7:=vI b7;go_wp2_with (first|((with_reducible refine gate_builtin (b:=.append) (xs:= #[.tmp 52,.tmp 57]) rfl ?_);at_builtin;refine Kd.R_append (Kd.int .i64) (w0:=w) w.heap.size rfl (.tmp 52) (.tmp 57) 23 3 (.int .i64 0) 8 rfl Tryz.underlying23 info3 rfl (by decide) (by omega) (.slice bs j.length bu) j (rd l0 o) [.int .i64 (rd l0 o)] (fun k_=>some k_≠(u3:Value).ownBlock) (fun _=>False) rfl rfl ?aP (fun _ hk=>hk.elim) ?aF ?aO ?aB ?aS ?aL ?_;(case aP=>exact rfl);(case aB=>exact(wZ HB));(case aF=>exact(fun k_ hk=>Kd.fresh' (Kd.R_lt (rS mX)) k_ hk));(case aO=>exact(rS lp));(case aS=>exact(below_size (wZ HB)));(case aL=>have:=bb.out;omega);intro _ _ ho hb hg ai;rw[←bd.out]at ho;replace mX:=bm (Kd.R_after (ok:=(fun _=>True)) (by(repeat apply Kd.RS);exact Kd.R_mono mX.out (fun _ hk=>⟨trivial,hk⟩)) hg ai);replace HB:=bm (hb);have bf:=bm (ho);clear lp;clear ho hb hg ai));repeat(go_quiet (first|((with_reducible refine gate_builtin (b:=.append) (xs:= #[.tmp 52,.tmp 57]) rfl ?_);at_builtin;refine Kd.R_append (Kd.int .i64) (w0:=w) w.heap.size rfl (.tmp 52) (.tmp 57) 23 3 (.int .i64 0) 8 rfl Tryz.underlying23 info3 rfl (by decide) (by omega) (.slice bs j.length bu) j (rd l0 o) [.int .i64 (rd l0 o)] (fun k_=>some k_≠(u3:Value).ownBlock) (fun _=>False) rfl rfl ?aP (fun _ hk=>hk.elim) ?aF ?aO ?aB ?aS ?aL ?_;(case aP=>exact rfl);(case aB=>exact(wZ HB));(case aF=>exact(fun k_ hk=>Kd.fresh' (Kd.R_lt (rS mX)) k_ hk));(case aO=>exact(rS lp));(case aS=>exact(below_size (wZ HB)));(case aL=>have:=bb.out;omega);intro _ _ ho hb hg ai;rw[←bd.out]at ho;replace mX:=bm (Kd.R_after (ok:=(fun _=>True)) (by(repeat apply Kd.RS);exact Kd.R_mono mX.out (fun _ hk=>⟨trivial,hk⟩)) hg ai);replace HB:=bm (hb);have bf:=bm (ho);clear lp;clear ho hb hg ai));try go_wp2_with (first|((with_reducible refine gate_builtin (b:=.append) (xs:= #[.tmp 52,.tmp 57]) rfl ?_);at_builtin;refine Kd.R_append (Kd.int .i64) (w0:=w) w.heap.size rfl (.tmp 52) (.tmp 57) 23 3 (.int .i64 0) 8 rfl Tryz.underlying23 info3 rfl (by decide) (by omega) (.slice bs j.length bu) j (rd l0 o) [.int .i64 (rd l0 o)] (fun k_=>some k_≠(u3:Value).ownBlock) (fun _=>False) rfl rfl ?aP (fun _ hk=>hk.elim) ?aF ?aO ?aB ?aS ?aL ?_;(case aP=>exact rfl);(case aB=>exact(wZ HB));(case aF=>exact(fun k_ hk=>Kd.fresh' (Kd.R_lt (rS mX)) k_ hk));(case aO=>exact(rS lp));(case aS=>exact(below_size (wZ HB)));(case aL=>have:=bb.out;omega);intro _ _ ho hb hg ai;rw[←bd.out]at ho;replace mX:=bm (Kd.R_after (ok:=(fun _=>True)) (by(repeat apply Kd.RS);exact Kd.R_mono mX.out (fun _ hk=>⟨trivial,hk⟩)) hg ai);replace HB:=bm (hb);have bf:=bm (ho);clear lp;clear ho hb hg ai)))
           go_roundg k3
           case measure=>have:=av.out;have:=ax.out;have:=aV.out;omega
           case rel=>exact⟨(cu),(wrap64 (o+1)),(by first|rfl|(simp;done)|(simp[*];done)),H',⟨by have:=av.out;have:=ax.out;have:=aV.out;omega⟩,⟨by(repeat apply Kd.RS);exact Kd.R_mono mX.out (fun _ hk=>hk.2)⟩,⟨by(repeat apply Kd.RS);exact bf.out⟩,⟨wZ HB⟩⟩
      ·obtain⟨dr,H⟩:=iN H;have bg:=bm dr;clear dr;obtain⟨cw,bh⟩:∃y_:List Int,y_=(af++ [(j.length:Int)]):=⟨_,rfl⟩;rw[←bh]at H
       have bj:=bm bh;clear bh;have H':=bm H;clear H;obtain⟨b8,b9,dt⟩:=Kd.R_slice lp.out;subst dt;go_wp2_with (first|((with_reducible refine gate_builtin (b:=.append) (xs:= #[.tmp 59,.tmp 62]) rfl ?_);at_builtin;refine Kd.R_append (Kd.int .i64) (w0:=w) w.heap.size rfl (.tmp 59) (.tmp 62) 23 3 (.int .i64 0) 8 rfl Tryz.underlying23 info3 rfl (by decide) (by omega) u3 af (j.length:Int) [.int .i64 (j.length:Int)] (fun k_=>some k_≠(.slice b8 j.length b9:Value).ownBlock) (fun _=>False) rfl rfl ?aP (fun _ hk=>hk.elim) ?aF ?aO ?aB ?aS ?aL ?_;(case aP=>exact rfl);(case aB=>exact(wZ HB));(case aF=>exact(fun k_ hk=>Kd.fresh' (Kd.R_lt (rS lp)) k_ hk));(case aO=>exact(rS mX));(case aS=>exact(below_size (wZ HB)));(case aL=>have:=bg.out;omega);intro _ _ ho hb hg ai;rw[←bj.out]at ho;replace lp:=bm (Kd.R_after (ok:=(fun _=>True)) (by(repeat apply Kd.RS);exact Kd.R_mono lp.out (fun _ hk=>⟨trivial,hk⟩)) hg ai);replace HB:=bm (hb);have bk:=bm (ho);clear mX;clear ho hb hg ai));repeat(go_quiet (first|((with_reducible refine gate_builtin (b:=.append) (xs:= #[.tmp 59,.tmp 62]) rfl ?_);at_builtin;refine Kd.R_append (Kd.int .i64) (w0:=w) w.heap.size rfl (.tmp 59) (.tmp 62) 23 3 (.int .i64 0) 8 rfl Tryz.underlying23 info3 rfl (by decide) (by omega) u3 af (j.length:Int) [.int .i64 (j.length:Int)] (fun k_=>some k_≠(.slice b8 j.length b9:Value).ownBlock) (fun _=>False) rfl rfl ?aP (fun _ hk=>hk.elim) ?aF ?aO ?aB ?aS ?aL ?_;(case aP=>exact rfl);(case aB=>exact(wZ HB));(case aF=>exact(fun k_ hk=>Kd.fresh' (Kd.R_lt (rS lp)) k_ hk));(case aO=>exact(rS mX));(case aS=>exact(below_size (wZ HB)));(case aL=>have:=bg.out;omega);intro _ _ ho hb hg ai;rw[←bj.out]at ho;replace lp:=bm (Kd.R_after (ok:=(fun _=>True)) (by(repeat apply Kd.RS);exact Kd.R_mono lp.out (fun _ hk=>⟨trivial,hk⟩)) hg ai);replace HB:=bm (hb);have bk:=bm (ho);clear mX;clear ho hb hg ai));try go_wp2_with (first|((with_reducible refine gate_builtin (b:=.append) (xs:= #[.tmp 59,.tmp 62]) rfl ?_);at_builtin;refine Kd.R_append (Kd.int .i64) (w0:=w) w.heap.size rfl (.tmp 59) (.tmp 62) 23 3 (.int .i64 0) 8 rfl Tryz.underlying23 info3 rfl (by decide) (by omega) u3 af (j.length:Int) [.int .i64 (j.length:Int)] (fun k_=>some k_≠(.slice b8 j.length b9:Value).ownBlock) (fun _=>False) rfl rfl ?aP (fun _ hk=>hk.elim) ?aF ?aO ?aB ?aS ?aL ?_;(case aP=>exact rfl);(case aB=>exact(wZ HB));(case aF=>exact(fun k_ hk=>Kd.fresh' (Kd.R_lt (rS lp)) k_ hk));(case aO=>exact(rS mX));(case aS=>exact(below_size (wZ HB)));(case aL=>have:=bg.out;omega);intro _ _ ho hb hg ai;rw[←bj.out]at ho;replace lp:=bm (Kd.R_after (ok:=(fun _=>True)) (by(repeat apply Kd.RS);exact Kd.R_mono lp.out (fun _ hk=>⟨trivial,hk⟩)) hg ai);replace HB:=bm (hb);have bk:=bm (ho);clear mX;clear ho hb hg ai)))
       go_roundg k2
       case measure=>have:=av.out;have:=ax.out;omega
       case rel=>exact⟨(cw),(wrap64 (ag+1)),(by first|rfl|(simp;done)|(simp[*];done)),H',⟨by have:=av.out;have:=ax.out;omega⟩,⟨by(repeat apply Kd.RS);exact Kd.R_mono bk.out (fun _ hk=>trivial)⟩,⟨wZ HB⟩⟩
   ·obtain rfl:=vZ H;go_wp2;repeat(go_quiet (fail);try go_wp2)
    go_ret;exact⟨_,by first|rfl|(simp[*,fM,fN]<;>rfl),by(repeat apply Kd.RS);exact mX.out,wZ HB⟩
def je.l0:Nat→List Int→Int→List Int→Int→Option (List Int)
 |0,_,_,_,_=>none
 |k+1,x0,x1,x5,x6=>if x6<(x0.length:Int)then(if 0≤x6 then((jM.f x1 x6).bind fun t190=>(if x5.length<17592186044416 then(je.l0 k x0 x1 (x5++ [wrap64 ((rd x0 x6)+(wrap64 ((wrap64 (1 - t190))*10)))]) (wrap64 (x6+1)))else(none)))else(none))else((iz.f k x5).bind fun t194=>(some t194))
def je.f (k:Nat) (l0:List Int) (a1:Int):Option (List Int):=je.l0 k l0 a1 (([]:List Int)) 0
theorem je.gF:∀k,(∀y0 y1 y2 y3,ku (je.l0 k y0 y1 y2 y3) (je.l0 (k+1) y0 y1 y2 y3))
 |0=>fun _ _ _ _=> .z (by simp only[je.l0])
 |k+1=>by
  have i0:=je.gF k;exact fun _ _ _ _=>by unfold je.l0;infer_instance
instance je.mo {k a0 a1}:ku (je.f k a0 a1) (je.f (k+1) a0 a1):=by have i0:=je.gF k;unfold je.f;infer_instance
def je.T5:Bool×List (List Nat×List Nat):=(true,[([],[]),([],[]),([],[]),([1,2],[1,2]),([3],[3]),([],[]),([],[]),([5,6],[5,6]),([7],[7]),([8],[8]),([4,9],[4,9]),([10],[10]),([0,11,7],[0,11]),([12,12,0,1,2,3,4,5,6,7,8,9,10,11,12],[0,12])])
def je.B5:List Nat:=[0,0,0,6,14,0,0,96,224,480,1022,2046,4095,8191]
theorem je.wg:rtab .any (opsOf Tryz.f138 5)=je.T5:=by kernel_rfl
theorem je.rU:waitsOk je.T5.2 je.B5=true:=by kernel_rfl
theorem je.calls (k:Nat) (A0:Option Addr) (c0:Nat) (l0:List Int) (a1:Int) (r:List Int) (w:World) (bD:Kd.C (Kd.int .i64) w A0 l0.length l0) (bF:l0.length≤c0) (h:je.f k l0 a1=some r):
  Calls Tryz.prog 138 #[.slice A0 l0.length c0,.int .i64 a1] w fun e w'=>∃aT:Value,e= .returned (aT)∧Kd.R (Kd.int .i64) 3 w' w.heap.size (fun _=>True) aT r∧Below w.heap.size w w':=by
 have bz:=bm bD;have dK:=bm bF;clear bD bF;have HB:=bm (Below.refl w.heap.size w);have H:=h;clear h;unfold je.f at H;obtain⟨cy,bl⟩:∃y_:List Int,y_=(([]:List Int)):=⟨_,rfl⟩;replace H:(je.l0 k l0 a1 cy 0)=some r:=by first|(rw[bl];exact H)|exact H
 have ca:=bm bl;clear bl;have H':=bm H;clear H;go_enter Tryz.func138,Tryz.ntmps138;go_wp2_with (first|((with_reducible refine gate_dst (N:=7) rfl ?_);refine Kd.R_lit (Kd.int .i64) _ 3 ?hg (N:=7) ?hd (xs:=([]:List Int)) (inner:=[]) (ok:=fun _=>True) (okp:=fun _=>True) ?hr ?hp (fun _ hk=>hk) trivial (Below.refl _ _) (Nat.le_refl _) (by simp) ?_;(case hd=>rfl);(case hg=>rfl);(case hr=>first|(go_simp;done)|(go_simp;rfl));(case hp=>exact(Reps.none _ _));intro _ _ cb hb ao aa;clear ao aa;(first|rw[←ca.out]at cb|(simp only[Int.reduceToNat]at cb;rw[←ca.out]at cb));have cE:=vm cb HB;replace HB:=bW HB hb;clear hb cb));go_loopg [5,6] k (fun kq v5 v6 w'=>∃(aH:List Int) (ae:Int),v6= .int .i64 ae∧gm (je.l0 kq l0 a1 aH ae=some r)∧gm (kq≤k)∧gm (Kd.R (Kd.int .i64) 3 w' w.heap.size (fun _=>True) v5 aH)∧gm (Below w.heap.size w w'))
 case atStart=>exact⟨(cy),(0),(by first|rfl|(simp;done)|(simp[*];done)),H',⟨Nat.le_refl _⟩,⟨by(repeat apply Kd.RS);exact cE.out⟩,⟨wZ HB⟩⟩
 case round=>
  clear H';obtain⟨aH,ae,rfl,HA,av,lp,HB⟩:=hrel;cases gk with
  |zero=>exact absurd HA.out (by simp[je.l0])
  |succ k1=>
   have H:=HA.out;clear HA;simp only[je.l0]at H;rcases vL H with⟨dv,H⟩|⟨dv,H⟩
   ·obtain⟨ei,H⟩:=vJ H;obtain⟨t190,A7,H⟩:=bE H;try dsimp only at H
    obtain⟨c8,H⟩:=iN H;have dw:=bm c8;clear c8;obtain⟨cz,bn⟩:∃y_:List Int,y_=(aH++ [wrap64 ((rd l0 ae)+(wrap64 ((wrap64 (1 - t190))*10)))]):=⟨_,rfl⟩;rw[←bn]at H
    have cF:=bm bn;clear bn;have H':=bm H;clear H;try go_wp2
    replace lp:=vD lp;replace HB:=vH HB;have cc:0≤(ae:Int):=jK;have cd:ae<(l0.length:Int):=jK;obtain⟨cG,dx,ak⟩:=Kd.at_int bz.out ae cc cd;have J:=ak;cases dx;replace ak:=vA HB ak;replace cc:=vI cc;replace cd:=vI cd;refine start_ (n:=14) (S:=fun w'=>w'.cell? (cG.add (ae).toNat)=some (.int .i64 (rd l0 ae))) (ds:=[]) #[false,false,false,false,false,false,false,false,false,false,false,false,false,false] (by kernel_rfl) rfl rfl (((HB.out.cell (World.block_lt_of_cell? w _ J)).trans J)) (fun hHeld=>?_);refine with_tabW je.wg je.rU (fun aq dQ=>?_);generalize wr.drew=w9 at lp HB ak hHeld⊢;refine pure_ (i:=0) (N:=some 14) (v:=?_) (a':=?_) #[true,false,false,false,false,false,false,false,false,false,false,false,false,false] rfl rfl (any_of aq.out (by kernel_rfl)) (fun _ _ _ h=>h) (Or.inl ⟨by rfl,?_⟩) ?_ ?_;rotate_left
    ·intro w';go_simp;with_reducible rfl
    rotate_left
    ·simp only[Act.put,qA,qB,qC,i64_w,i32_w];rfl
    refine pure_ (i:=1) (N:=some 15) (v:=?_) (a':=?_) #[true,true,false,false,false,false,false,false,false,false,false,false,false,false] rfl rfl (any_of aq.out (by kernel_rfl)) (fun _ _ _ h=>h) (Or.inl ⟨by rfl,?_⟩) ?_ ?_;rotate_left
    ·intro w';go_simp;with_reducible rfl
    rotate_left
    ·simp only[Act.put,qA,qB,qC,i64_w,i32_w];rfl
    refine pure_ (i:=2) (N:=some 16) (v:=?_) (a':=?_) #[true,true,true,false,false,false,false,false,false,false,false,false,false,false] rfl rfl (any_of aq.out (by kernel_rfl)) (fun _ _ _ h=>h) (Or.inl ⟨by rfl,?_⟩) ?_ ?_;rotate_left
    ·intro w';go_simp;with_reducible rfl
    rotate_left
    ·simp only[Act.put,qA,qB,qC,i64_w,i32_w];rfl
    refine pure_ (i:=3) (N:=some 17) (v:=?_) (a':=?_) #[true,true,true,true,false,false,false,false,false,false,false,false,false,false] rfl rfl (any_of aq.out (by kernel_rfl)) (fun _ _ _ h=>h) (Or.inl ⟨by rfl,?_⟩) ?_ ?_;rotate_left
    ·intro w';go_simp;with_reducible rfl
    rotate_left
    ·simp only[Act.put,qA,qB,qC,i64_w,i32_w];rfl
    refine pure_ (i:=5) (N:=some 19) (v:=?_) (a':=?_) #[true,true,true,true,false,true,false,false,false,false,false,false,false,false] rfl rfl (any_of aq.out (by kernel_rfl)) (fun _ _ _ h=>h) (Or.inl ⟨by rfl,?_⟩) ?_ ?_;rotate_left
    ·intro w';go_simp;with_reducible rfl
    rotate_left
    ·simp only[Act.put,qA,qB,qC,i64_w,i32_w];rfl
    refine pure_ (i:=6) (N:=some 20) (v:=?_) (a':=?_) #[true,true,true,true,false,true,true,false,false,false,false,false,false,false] rfl rfl (any_of aq.out (by kernel_rfl)) (fun _ _ _ h=>h) (Or.inl ⟨by rfl,?_⟩) ?_ ?_;rotate_left
    ·intro w';go_simp;with_reducible rfl
    rotate_left
    ·simp only[Act.put,qA,qB,qC,i64_w,i32_w];rfl
    refine take_ (i:=4) (N:=some 18) (v:=?_) (a':=?_) #[true,true,true,true,true,true,true,false,false,false,false,false,false,false] rfl rfl (take_ofW aq.out dQ.out (by kernel_rfl)) (fun _ _ _ h=>h) (Or.inl ⟨by rfl,?_⟩) hHeld ?_ ?_;rotate_left
    ·intro w' _;go_simp;with_reducible rfl
    rotate_left
    ·simp only[Act.put,qA,qB,qC,i64_w,i32_w];rfl
    refine one_ (i:=7) (N:=some 21) #[true,true,true,true,true,true,true,true,false,false,false,false,false,false] rfl rfl (one_of aq.out (by kernel_rfl)) (by decide) (fun K hK=>?_);refine goes_ Tryz.func107 (by kernel_rfl) rfl #[.int .i64 a1,.int .i64 ae] (by rfl) rfl rfl (by(try simp only[List.map_toArray,List.map_cons,List.map_nil]);first|done|rfl|(simp only[List.length_drop,List.length_take];rfl)) ?_;with_reducible refine(jM.calls a1 ae t190 _ A7.out).mono ?_
    rintro e w' ⟨rfl,⟨nd,rfl⟩⟩;refine⟨_,rfl,?_⟩;refine hK.out _ _ (((HB.out.cell (World.block_lt_of_cell? w _ J)).trans J)) (fun hHeld=>?_);clear hK K;refine vQ 21 ?_
    refine pure_ (i:=8) (N:=some 22) (v:=?_) (a':=?_) #[true,true,true,true,true,true,true,true,true,false,false,false,false,false] rfl rfl (any_of aq.out (by kernel_rfl)) (fun _ _ _ h=>h) (Or.inl ⟨by rfl,?_⟩) ?_ ?_;rotate_left
    ·intro w';go_simp;with_reducible rfl
    rotate_left
    ·simp only[Act.put,qA,qB,qC,i64_w,i32_w];rfl
    refine pure_ (i:=9) (N:=some 23) (v:=?_) (a':=?_) #[true,true,true,true,true,true,true,true,true,true,false,false,false,false] rfl rfl (any_of aq.out (by kernel_rfl)) (fun _ _ _ h=>h) (Or.inl ⟨by rfl,?_⟩) ?_ ?_;rotate_left
    ·intro w';go_simp;with_reducible rfl
    rotate_left
    ·simp only[Act.put,qA,qB,qC,i64_w,i32_w];rfl
    refine pure_ (i:=10) (N:=some 24) (v:=?_) (a':=?_) #[true,true,true,true,true,true,true,true,true,true,true,false,false,false] rfl rfl (any_of aq.out (by kernel_rfl)) (fun _ _ _ h=>h) (Or.inl ⟨by rfl,?_⟩) ?_ ?_;rotate_left
    ·intro w';go_simp;with_reducible rfl
    rotate_left
    ·simp only[Act.put,qA,qB,qC,i64_w,i32_w];rfl
    refine one_ (i:=11) (N:=some 25) #[true,true,true,true,true,true,true,true,true,true,true,true,false,false] rfl rfl (one_of aq.out (by kernel_rfl)) (by decide) (fun K hK=>?_);refine value_ (w1:=?_) (v:=?_) (by rfl) rfl ?_ ?_;rotate_left 2
    ·go_simp;constructor
     ·rfl
     ·rfl
    refine hK.out _ _ ((World.cell?_alloc_lt _ _ _ (World.block_lt_of_cell? _ _ (((HB.out.cell (World.block_lt_of_cell? w _ J)).trans J)))).trans (((HB.out.cell (World.block_lt_of_cell? w _ J)).trans J))) (fun hHeld=>?_);clear hK K;refine vQ 25 ?_
    refine one_ (i:=12) (N:=some 26) #[true,true,true,true,true,true,true,true,true,true,true,true,true,false] rfl rfl (one_of aq.out (by kernel_rfl)) (by decide) (fun K hK=>?_);refine Kd.R_append_step (Kd.int .i64) (w0:=w) w.heap.size (by rfl) (.tmp 14) (.tmp 25) 23 3 (.int .i64 0) 8 rfl Tryz.underlying23 info3 rfl (by decide) (by omega) u5 aH (wrap64 ((rd l0 ae)+(wrap64 ((wrap64 (1 - t190))*10)))) [.int .i64 (wrap64 ((rd l0 ae)+(wrap64 ((wrap64 (1 - t190))*10))))] (fun _=>True) (fun _=>False) rfl rfl ?aP (fun _ hk=>hk.elim) ?aF ?aO ?aB ?aS ?aL ?_;(case aP=>exact rfl);(case aB=>exact(wZ HB));(case aF=>exact(fun _ _=>trivial));(case aO=>exact(rS lp));(case aS=>exact(below_size (wZ HB)));(case aL=>have:=dw.out;omega);intro _ _ ho hb hg ai
    rw[←cF.out]at ho;replace HB:=bm (hb);have cI:=bm (ho);clear lp ho hb hg ai
    refine hK.out _ _ (((HB.out.cell (World.block_lt_of_cell? w _ J)).trans J)) (fun hHeld=>?_);clear hK K;refine vQ 26 ?_
    refine pure_ (i:=13) (N:=some 5) (v:=?_) (a':=?_) #[true,true,true,true,true,true,true,true,true,true,true,true,true,true] rfl rfl (any_of aq.out (by kernel_rfl)) (fun _ _ _ h=>h) (Or.inl ⟨by rfl,?_⟩) ?_ ?_;rotate_left
    ·intro w';go_simp;with_reducible rfl
    rotate_left
    ·simp only[Act.put,qA,qB,qC,i64_w,i32_w];rfl
    refine done_ (done_of aq.out (by kernel_rfl)) ?_;try go_wp2
    go_roundg k1
    case measure=>have:=av.out;omega
    case rel=>exact⟨(cz),(wrap64 (ae+1)),(by first|rfl|(simp;done)|(simp[*];done)),H',⟨by have:=av.out;omega⟩,⟨by(repeat apply Kd.RS);exact cI.out⟩,⟨wZ HB⟩⟩
   ·obtain⟨t194,dR,H⟩:=bE H;try dsimp only at H
    obtain rfl:=vZ H;obtain⟨dy,dz,dA⟩:=Kd.R_slice lp.out;subst dA;go_wp2_with (first|(refine gB (some 28) Tryz.func156 #[.slice dy aH.length dz] rfl ?_;(with_reducible refine(iz.calls k1 _ _ aH t194 _ ?_ ?_ dR.out).mono ?_);exact cZ (Kd.R_reads' lp.out).2.2;exact(Kd.R_reads' lp.out).2.1;rintro e _ ⟨_,rfl,ab,hb⟩;refine⟨_,rfl,?_⟩;have cJ:=bm (Kd.R_lower (Kd.R_new' ab (Kd.R_lt (rS lp))) (below_size (wZ HB)));replace lp:=bm (Kd.R_elder' (rS lp) (Kd.R_base ab) hb);replace HB:=bW HB hb;clear hb;(try clear ab)));go_ret;exact⟨_,by first|rfl|(simp[*,fM,fN]<;>rfl),by(repeat apply Kd.RS);exact Kd.R_mono cJ.out (fun _ hk=>trivial),wZ HB⟩
def jm.j0:Nat→List Int→Int→Int→Bool→Option (List Int×Bool)
 |0,_,_,_,_=>none
 |k+1,x1,x2,x3,x28=>if x28=true then(some ((([]:List Int)),false))else(if x2=0 then((iy.f k x1 x3).bind fun t203=>((je.f k x1 t203).bind fun t204=>(some (t204,true))))else((je.f k x1 x3).bind fun t207=>(some (t207,true))))
def jm.f (k:Nat) (a0:Int) (l1:List Int) (a2:Int) (a3:Int):Option (List Int×Bool):=(gY.f k a0 l1).bind fun t197=>(if t197=true then((js.f a0 a3).bind fun t198=>(if t198=true then(if a3=0 then(jm.j0 k l1 a2 a3 true)else((kj.f a2 0 1).bind fun t199=>(jm.j0 k l1 a2 a3 (!t199))))else(jm.j0 k l1 a2 a3 true)))else(jm.j0 k l1 a2 a3 true))
theorem jm.gF:∀k,(∀y0 y1 y2 y3,ku (jm.j0 k y0 y1 y2 y3) (jm.j0 (k+1) y0 y1 y2 y3))
 |0=>fun _ _ _ _=> .z (by simp only[jm.j0])
 |k+1=>by
  have i0:=jm.gF k;exact fun _ _ _ _=>by unfold jm.j0;infer_instance
instance jm.mo {k a0 a1 a2 a3}:ku (jm.f k a0 a1 a2 a3) (jm.f (k+1) a0 a1 a2 a3):=by have i0:=jm.gF k;unfold jm.f;infer_instance
theorem jm.calls (k:Nat) (a0:Int) (A1:Option Addr) (c1:Nat) (l1:List Int) (a2:Int) (a3:Int) (r1:List Int) (r2:Bool) (w:World) (cf:Kd.C (Kd.int .i64) w A1 l1.length l1) (cg:l1.length≤c1) (h:jm.f k a0 l1 a2 a3=some (r1,r2)):
  Calls Tryz.prog 101 #[.int .i64 a0,.slice A1 l1.length c1,.int .i64 a2,.int .i64 a3] w fun e w'=>∃aT:Value,e= .returned (.tuple #[aT,.bool r2])∧Kd.R (Kd.int .i64) 3 w' w.heap.size (fun _=>True) aT r1∧Below w.heap.size w w':=by
 have al:=bm cf;have an:=bm cg;clear cf cg;have HB:=bm (Below.refl w.heap.size w);have H:=h;clear h;unfold jm.f at H;have cK:=bm H;clear H;go_enter Tryz.func101,Tryz.ntmps101;go_upto_region 1 with(fail)
 go_cut [28] (fun v28 wc=>∃(kq:Nat) (aQ:Bool),v28= .bool aQ∧gm (jm.j0 kq l1 a2 a3 aQ=some (r1,r2))∧gm (kq≤k)∧gm (Below w.heap.size w wc))
 case first=>
  have H:=cK.out;clear cK;obtain⟨t197,A6,H⟩:=bE H;try dsimp only at H
  by_cases c7:t197=true
  ·subst c7;rw[if_pos rfl]at H;obtain⟨t198,A8,H⟩:=bE H;try dsimp only at H
   by_cases c9:t198=true
   ·subst c9;rw[if_pos rfl]at H;rcases iT H with⟨c10,H⟩|⟨c10,H⟩
    ·obtain⟨ay,cL⟩:=vl c10;clear c10;(first|rw[ay]|(simp only[i64_w,i32_w];rw[ay])|skip);have H':=bm H;clear H;go_wp2_with (first|(refine gB (some 12) Tryz.func103 #[.int .i64 a0,.slice A1 l1.length c1] rfl ?_;(with_reducible refine(gY.calls k a0 _ _ l1 true _ ?_ ?_ A6.out).mono ?_);exact cY al HB;exact an.out;rintro e _ ⟨rfl,hb⟩;refine⟨_,rfl,?_⟩;replace HB:=bW HB hb;clear hb)|(go_at_call 106;(with_reducible refine(js.calls a0 a3 true _ A8.out).mono ?_);rintro e w' ⟨rfl,⟨nd,rfl⟩⟩));go_meet
     case rel=>exact⟨_,(true),(by first|rfl|(simp;done)|(simp[*];done)),H',⟨by first|omega|exact Nat.le_refl _⟩,⟨wZ HB⟩⟩
    ·obtain⟨ay,cL⟩:=vk c10;(first|rw[ay]|(simp only[i64_w,i32_w];rw[ay])|skip);obtain⟨t199,ch,H⟩:=bE H;try dsimp only at H
     have H':=bm H;clear H;go_wp2_with (first|(refine gB (some 12) Tryz.func103 #[.int .i64 a0,.slice A1 l1.length c1] rfl ?_;(with_reducible refine(gY.calls k a0 _ _ l1 true _ ?_ ?_ A6.out).mono ?_);exact cY al HB;exact an.out;rintro e _ ⟨rfl,hb⟩;refine⟨_,rfl,?_⟩;replace HB:=bW HB hb;clear hb)|(go_at_call 106;(with_reducible refine(js.calls a0 a3 true _ A8.out).mono ?_);rintro e w' ⟨rfl,⟨nd,rfl⟩⟩)|(go_at_call 100;(with_reducible refine(kj.calls a2 0 1 t199 _ ch.out).mono ?_);rintro e w' ⟨rfl,⟨nd,rfl⟩⟩));go_meet
     case rel=>exact⟨_,(!t199),(by first|rfl|(simp;done)|(simp[*];done)),H',⟨by first|omega|exact Nat.le_refl _⟩,⟨wZ HB⟩⟩
   ·replace c9:=uZ c9;subst c9;rw[if_neg vR]at H;have H':=bm H;clear H;go_wp2_with (first|(refine gB (some 12) Tryz.func103 #[.int .i64 a0,.slice A1 l1.length c1] rfl ?_;(with_reducible refine(gY.calls k a0 _ _ l1 true _ ?_ ?_ A6.out).mono ?_);exact cY al HB;exact an.out;rintro e _ ⟨rfl,hb⟩;refine⟨_,rfl,?_⟩;replace HB:=bW HB hb;clear hb)|(go_at_call 106;(with_reducible refine(js.calls a0 a3 false _ A8.out).mono ?_);rintro e w' ⟨rfl,⟨nd,rfl⟩⟩));go_meet
    case rel=>exact⟨_,(true),(by first|rfl|(simp;done)|(simp[*];done)),H',⟨by first|omega|exact Nat.le_refl _⟩,⟨wZ HB⟩⟩
  ·replace c7:=uZ c7;subst c7;rw[if_neg vR]at H;have H':=bm H;clear H;go_wp2_with (first|(refine gB (some 12) Tryz.func103 #[.int .i64 a0,.slice A1 l1.length c1] rfl ?_;(with_reducible refine(gY.calls k a0 _ _ l1 false _ ?_ ?_ A6.out).mono ?_);exact cY al HB;exact an.out;rintro e _ ⟨rfl,hb⟩;refine⟨_,rfl,?_⟩;replace HB:=bW HB hb;clear hb));go_meet
   case rel=>exact⟨_,(true),(by first|rfl|(simp;done)|(simp[*];done)),H',⟨by first|omega|exact Nat.le_refl _⟩,⟨wZ HB⟩⟩
 case rest=>
  clear cK;obtain⟨kq,aQ,rfl,HA,ez,HB⟩:=hcut;cases kq with
  |zero=>exact absurd HA.out (by simp[jm.j0])
  |succ sl=>
   have H:=HA.out;clear HA;simp only[jm.j0]at H;by_cases az:aQ=true
   ·subst az;rw[if_pos rfl]at H;obtain⟨dB,bo⟩:∃y_:List Int,y_=(([]:List Int)):=⟨_,rfl⟩;replace H:(some (dB,false))=some (r1,r2):=by first|(rw[bo];exact H)|exact H
    have cj:=bm bo;clear bo;obtain⟨rfl,rfl⟩:=s2 H;go_wp2_with (first|((with_reducible refine gate_dst (N:=29) rfl ?_);refine Kd.R_lit (Kd.int .i64) _ 3 ?hg (N:=29) ?hd (xs:=([]:List Int)) (inner:=[]) (ok:=fun _=>True) (okp:=fun _=>True) ?hr ?hp (fun _ hk=>hk) trivial (Below.refl _ _) (Nat.le_refl _) (by simp) ?_;(case hd=>rfl);(case hg=>rfl);(case hr=>first|(go_simp;done)|(go_simp;rfl));(case hp=>exact(Reps.none _ _));intro _ _ aW hb ao aa;clear ao aa;(first|rw[←cj.out]at aW|(simp only[Int.reduceToNat]at aW;rw[←cj.out]at aW));have cO:=vm aW HB;replace HB:=bW HB hb;clear hb aW));go_ret2;exact⟨_,by first|rfl|(simp[*,fM,fN]<;>rfl),by(repeat apply Kd.RS);exact cO.out,wZ HB⟩
   ·replace az:=uZ az;subst az;rw[if_neg vR]at H;rcases iT H with⟨aA,H⟩|⟨aA,H⟩
    ·obtain⟨bp,bq⟩:=vl aA;clear aA;obtain⟨t203,dT,H⟩:=bE H;try dsimp only at H
     obtain⟨t204,dU,H⟩:=bE H;try dsimp only at H
     obtain⟨rfl,rfl⟩:=s2 H;go_wp2_with (first|(refine gB (some 35) Tryz.func104 #[.slice A1 l1.length c1,.int .i64 a3] rfl ?_;(with_reducible refine(iy.calls sl _ _ l1 a3 t203 _ ?_ ?_ dT.out).mono ?_);exact cY al HB;exact an.out;rintro e _ ⟨rfl,hb⟩;refine⟨_,rfl,?_⟩;replace HB:=bW HB hb;clear hb)|(refine gB (some 36) Tryz.func138 #[.slice A1 l1.length c1,.int .i64 t203] rfl ?_;(with_reducible refine(je.calls sl _ _ l1 t203 t204 _ ?_ ?_ dU.out).mono ?_);exact cY al HB;exact an.out;rintro e _ ⟨_,rfl,ab,hb⟩;refine⟨_,rfl,?_⟩;have cP:=vm ab HB;replace HB:=bW HB hb;clear hb;(try clear ab)));go_ret2;exact⟨_,by first|rfl|(simp[*,fM,fN]<;>rfl),by(repeat apply Kd.RS);exact cP.out,wZ HB⟩
    ·obtain⟨bp,bq⟩:=vk aA;obtain⟨t207,dV,H⟩:=bE H;try dsimp only at H
     obtain⟨rfl,rfl⟩:=s2 H;go_wp2_with (first|(refine gB (some 39) Tryz.func138 #[.slice A1 l1.length c1,.int .i64 a3] rfl ?_;(with_reducible refine(je.calls sl _ _ l1 a3 t207 _ ?_ ?_ dV.out).mono ?_);exact cY al HB;exact an.out;rintro e _ ⟨_,rfl,ab,hb⟩;refine⟨_,rfl,?_⟩;have cQ:=vm ab HB;replace HB:=bW HB hb;clear hb;(try clear ab)));go_ret2;exact⟨_,by first|rfl|(simp[*,fM,fN]<;>rfl),by(repeat apply Kd.RS);exact cQ.out,wZ HB⟩
mutual
def iE.j0:Nat→Int→List Int→List Int→Bool→Option (Bool)
 |0,_,_,_,_=>none
 |k+1,x0,x1,x2,x19=>if x19=true then(some false)else((gi.f k x0 x1).bind fun t212=>((gi.f k x0 x2).bind fun t215=>(iE.l0 k t212 t215 0)))
def iE.l0:Nat→List Int→List Int→Int→Option (Bool)
 |0,_,_,_=>none
 |k+1,x7,x8,x9=>if x9<(x7.length:Int)then(if 0≤x9 then(if x9<(x8.length:Int)then(if(rd x7 x9)=(rd x8 x9)then(iE.l0 k x7 x8 (wrap64 (x9+1)))else(some false))else(none))else(none))else(some true)
end
def iE.f (k:Nat) (a0:Int) (l1:List Int) (l2:List Int):Option (Bool):=(gY.f k a0 l1).bind fun t210=>(if t210=true then((gY.f k a0 l2).bind fun t211=>(iE.j0 k a0 l1 l2 (!t211)))else(iE.j0 k a0 l1 l2 true))
theorem iE.gF:∀k,(∀y0 y1 y2 y3,ku (iE.j0 k y0 y1 y2 y3) (iE.j0 (k+1) y0 y1 y2 y3))∧(∀y0 y1 y2,ku (iE.l0 k y0 y1 y2) (iE.l0 (k+1) y0 y1 y2))
 |0=>⟨fun _ _ _ _=> .z (by simp only[iE.j0]),fun _ _ _=> .z (by simp only[iE.l0])⟩
 |k+1=>by
  have⟨i0,i1⟩:=iE.gF k;exact⟨fun _ _ _ _=>by unfold iE.j0;infer_instance,fun _ _ _=>by unfold iE.l0;infer_instance⟩
instance iE.mo {k a0 a1 a2}:ku (iE.f k a0 a1 a2) (iE.f (k+1) a0 a1 a2):=by have⟨i0,i1⟩:=iE.gF k;unfold iE.f;infer_instance
theorem iE.calls (k:Nat) (a0:Int) (A1:Option Addr) (c1:Nat) (l1:List Int) (A2:Option Addr) (c2:Nat) (l2:List Int) (r:Bool) (w:World) (cf:Kd.C (Kd.int .i64) w A1 l1.length l1) (cg:l1.length≤c1) (dC:Kd.C (Kd.int .i64) w A2 l2.length l2) (dD:l2.length≤c2) (h:iE.f k a0 l1 l2=some r):
  Calls Tryz.prog 102 #[.int .i64 a0,.slice A1 l1.length c1,.slice A2 l2.length c2] w fun e w'=>e= .returned (.bool r)∧Below w.heap.size w w':=by
 have al:=bm cf;have an:=bm cg;clear cf cg;have bA:=bm dC;have bB:=bm dD;clear dC dD;have HB:=bm (Below.refl w.heap.size w);have H:=h;clear h;unfold iE.f at H;have cR:=bm H;clear H;go_enter Tryz.func102,Tryz.ntmps102;go_upto_region 1 with(fail)
 repeat(go_quiet (fail);go_upto_region 1 with(fail))
 go_cut [19] (fun dW wc=>∃(kq:Nat) (aR:Bool),dW= .bool aR∧gm (iE.j0 kq a0 l1 l2 aR=some r)∧gm (kq≤k)∧gm (Below w.heap.size w wc))
 case first=>
  have H:=cR.out;clear cR;obtain⟨t210,A5,H⟩:=bE H;try dsimp only at H
  by_cases c6:t210=true
  ·subst c6;rw[if_pos rfl]at H;obtain⟨t211,A7,H⟩:=bE H;try dsimp only at H
   have H':=bm H;clear H;go_wp2_with (first|(go_at_call 103;(with_reducible refine(gY.calls k a0 _ _ l1 true _ ?_ ?_ A5.out).mono ?_);exact cY al HB;exact an.out;rintro e _ ⟨rfl,hb⟩;replace HB:=bW HB hb;clear hb)|(go_at_call 103;(with_reducible refine(gY.calls k a0 _ _ l2 t211 _ ?_ ?_ A7.out).mono ?_);exact cY bA HB;exact bB.out;rintro e _ ⟨rfl,hb⟩;replace HB:=bW HB hb;clear hb));repeat(go_quiet (first|(go_at_call 103;(with_reducible refine(gY.calls k a0 _ _ l1 true _ ?_ ?_ A5.out).mono ?_);exact cY al HB;exact an.out;rintro e _ ⟨rfl,hb⟩;replace HB:=bW HB hb;clear hb)|(go_at_call 103;(with_reducible refine(gY.calls k a0 _ _ l2 t211 _ ?_ ?_ A7.out).mono ?_);exact cY bA HB;exact bB.out;rintro e _ ⟨rfl,hb⟩;replace HB:=bW HB hb;clear hb));try go_wp2_with (first|(go_at_call 103;(with_reducible refine(gY.calls k a0 _ _ l1 true _ ?_ ?_ A5.out).mono ?_);exact cY al HB;exact an.out;rintro e _ ⟨rfl,hb⟩;replace HB:=bW HB hb;clear hb)|(go_at_call 103;(with_reducible refine(gY.calls k a0 _ _ l2 t211 _ ?_ ?_ A7.out).mono ?_);exact cY bA HB;exact bB.out;rintro e _ ⟨rfl,hb⟩;replace HB:=bW HB hb;clear hb)))
   go_meet
   case rel=>exact⟨_,(!t211),(by first|rfl|(simp;done)|(simp[*];done)),H',⟨by first|omega|exact Nat.le_refl _⟩,⟨wZ HB⟩⟩
  ·replace c6:=uZ c6;subst c6;rw[if_neg vR]at H;have H':=bm H;clear H;go_wp2_with (first|(go_at_call 103;(with_reducible refine(gY.calls k a0 _ _ l1 false _ ?_ ?_ A5.out).mono ?_);exact cY al HB;exact an.out;rintro e _ ⟨rfl,hb⟩;replace HB:=bW HB hb;clear hb));repeat(go_quiet (first|(go_at_call 103;(with_reducible refine(gY.calls k a0 _ _ l1 false _ ?_ ?_ A5.out).mono ?_);exact cY al HB;exact an.out;rintro e _ ⟨rfl,hb⟩;replace HB:=bW HB hb;clear hb));try go_wp2_with (first|(go_at_call 103;(with_reducible refine(gY.calls k a0 _ _ l1 false _ ?_ ?_ A5.out).mono ?_);exact cY al HB;exact an.out;rintro e _ ⟨rfl,hb⟩;replace HB:=bW HB hb;clear hb)))
   go_meet
   case rel=>exact⟨_,(true),(by first|rfl|(simp;done)|(simp[*];done)),H',⟨by first|omega|exact Nat.le_refl _⟩,⟨wZ HB⟩⟩
 case rest=>
  clear cR;obtain⟨kq,aR,rfl,HA,dE,HB⟩:=hcut;cases kq with
  |zero=>exact absurd HA.out (by simp[iE.j0])
  |succ oW=>
   have H:=HA.out;clear HA;simp only[iE.j0]at H;by_cases aN:aR=true
   ·subst aN;rw[if_pos rfl]at H;obtain rfl:=vZ H;go_wp2;repeat(go_quiet (fail);try go_wp2)
    go_ret;exact vo HB
   ·replace aN:=uZ aN;subst aN;rw[if_neg vR]at H;obtain⟨t212,ch,H⟩:=bE H;try dsimp only at H
    obtain⟨t215,cS,H⟩:=bE H;try dsimp only at H
    have H':=bm H;clear H;go_wp2_with (first|(go_at_call 114;(with_reducible refine(gi.calls oW a0 _ _ l1 t212 _ ?_ ?_ ch.out).mono ?_);exact cY al HB;exact an.out;rintro e _ ⟨bw,rfl,ab,hb⟩;have ad:=vm ab HB;replace HB:=bW HB hb;clear hb;(try clear ab))|(go_at_call 114;(with_reducible refine(gi.calls oW a0 _ _ l2 t215 _ ?_ ?_ cS.out).mono ?_);exact cY bA HB;exact bB.out;rintro e _ ⟨bx,rfl,ab,hb⟩;have br:=bm (Kd.R_lower (Kd.R_new' ab (Kd.R_lt (rS ad))) (below_size (wZ HB)));replace ad:=bm (Kd.R_elder' (rS ad) (Kd.R_base ab) hb);replace HB:=bW HB hb;clear hb;(try clear ab)));repeat(go_quiet (first|(go_at_call 114;(with_reducible refine(gi.calls oW a0 _ _ l1 t212 _ ?_ ?_ ch.out).mono ?_);exact cY al HB;exact an.out;rintro e _ ⟨bw,rfl,ab,hb⟩;have ad:=vm ab HB;replace HB:=bW HB hb;clear hb;(try clear ab))|(go_at_call 114;(with_reducible refine(gi.calls oW a0 _ _ l2 t215 _ ?_ ?_ cS.out).mono ?_);exact cY bA HB;exact bB.out;rintro e _ ⟨bx,rfl,ab,hb⟩;have br:=bm (Kd.R_lower (Kd.R_new' ab (Kd.R_lt (rS ad))) (below_size (wZ HB)));replace ad:=bm (Kd.R_elder' (rS ad) (Kd.R_base ab) hb);replace HB:=bW HB hb;clear hb;(try clear ab)));try go_wp2_with (first|(go_at_call 114;(with_reducible refine(gi.calls oW a0 _ _ l1 t212 _ ?_ ?_ ch.out).mono ?_);exact cY al HB;exact an.out;rintro e _ ⟨bw,rfl,ab,hb⟩;have ad:=vm ab HB;replace HB:=bW HB hb;clear hb;(try clear ab))|(go_at_call 114;(with_reducible refine(gi.calls oW a0 _ _ l2 t215 _ ?_ ?_ cS.out).mono ?_);exact cY bA HB;exact bB.out;rintro e _ ⟨bx,rfl,ab,hb⟩;have br:=bm (Kd.R_lower (Kd.R_new' ab (Kd.R_lt (rS ad))) (below_size (wZ HB)));replace ad:=bm (Kd.R_elder' (rS ad) (Kd.R_base ab) hb);replace HB:=bW HB hb;clear hb;(try clear ab))))
    go_loopg [9] oW (fun kq v9 w'=>∃(I:Int),v9= .int .i64 I∧gm (iE.l0 kq t212 t215 I=some r)∧gm (kq≤oW)∧gm (Kd.R (Kd.int .i64) 3 w' w.heap.size (fun k_=>some k_≠(bx:Value).ownBlock) bw t212)∧gm (Kd.R (Kd.int .i64) 3 w' w.heap.size (fun k_=>some k_≠(bw:Value).ownBlock) bx t215)∧gm (Below w.heap.size w w'))
    case atStart=>exact⟨(0),(by first|rfl|(simp;done)|(simp[*];done)),H',⟨Nat.le_refl _⟩,⟨by(repeat apply Kd.RS);exact Kd.R_mono ad.out (fun _ hk=>hk.2)⟩,⟨by(repeat apply Kd.RS);exact Kd.R_mono br.out (fun _ hk=>hk.2)⟩,⟨wZ HB⟩⟩
    case round=>
     clear H';obtain⟨I,rfl,HA,ax,kH,yV,HB⟩:=hrel;cases gk with
     |zero=>exact absurd HA.out (by simp[iE.l0])
     |succ k2=>
      have H:=HA.out;clear HA;simp only[iE.l0]at H;rcases vL H with⟨bV,H⟩|⟨bV,H⟩
      ·obtain⟨dX,H⟩:=vJ H;obtain⟨dY,H⟩:=vJ H;rcases iT H with⟨aA,H⟩|⟨aA,H⟩
       ·obtain⟨bp,bq⟩:=vl aA;clear aA;have H':=bm H;clear H;obtain⟨en,eo,dG⟩:=Kd.R_slice kH.out;subst dG;have aI:0≤(I:Int):=jK;have aJ:I<(t212.length:Int):=jK;obtain⟨cT,ck,cl⟩:=Kd.at_int (Kd.R_reads' kH.out).2.2 I aI aJ;cases ck;replace aI:=vI aI;replace aJ:=vI aJ;obtain⟨ep,er,dH⟩:=Kd.R_slice yV.out;subst dH;have aK:0≤(I:Int):=jK;have aM:I<(t215.length:Int):=jK;obtain⟨cU,cm,cn⟩:=Kd.at_int (Kd.R_reads' yV.out).2.2 I aK aM;cases cm;replace aK:=vI aK;replace aM:=vI aM;go_wp2;repeat(go_quiet (fail);try go_wp2)
        go_roundg k2
        case measure=>have:=dE.out;have:=ax.out;omega
        case rel=>exact⟨(wrap64 (I+1)),(by first|rfl|(simp;done)|(simp[*];done)),H',⟨by have:=dE.out;have:=ax.out;omega⟩,⟨by(repeat apply Kd.RS);exact kH.out⟩,⟨by(repeat apply Kd.RS);exact yV.out⟩,⟨wZ HB⟩⟩
       ·obtain⟨bp,bq⟩:=vk aA;obtain rfl:=vZ H;obtain⟨et,eu,dI⟩:=Kd.R_slice kH.out;subst dI;have aI:0≤(I:Int):=jK;have aJ:I<(t212.length:Int):=jK;obtain⟨cT,ck,cl⟩:=Kd.at_int (Kd.R_reads' kH.out).2.2 I aI aJ;cases ck;replace aI:=vI aI;replace aJ:=vI aJ;obtain⟨bs,bu,b5⟩:=Kd.R_slice yV.out;subst b5;have aK:0≤(I:Int):=jK;have aM:I<(t215.length:Int):=jK;obtain⟨cU,cm,cn⟩:=Kd.at_int (Kd.R_reads' yV.out).2.2 I aK aM;cases cm;replace aK:=vI aK;replace aM:=vI aM;go_wp2;repeat(go_quiet (fail);try go_wp2)
        go_ret;exact vo HB
      ·obtain rfl:=vZ H;obtain⟨ev,ew,dJ⟩:=Kd.R_slice kH.out;subst dJ;go_wp2;repeat(go_quiet (fail);try go_wp2)
       go_ret;exact vo HB
end Go.Proofs.YtihgpkohglcijaaGreatDoor.P
