import Derived.Test.YtihgpkohglcijaaGreatDoorPx0
import Derived.Test.YtihgpkohglcijaaGreatDoorPx26
namespace Go.Proofs.YtihgpkohglcijaaGreatDoor.P
open Go.RowKit Go.Proofs.YtihgpkohglcijaaGreatDoorW.PrintWords Go.Proofs.YtihgpkohglcijaaGreatDoorW.PrintLast Go.Proofs.YtihgpkohglcijaaGreatDoorW.PrintMore
attribute [local go_sem] max2_int min2_int max_two min_two max_three min_three max_four min_four   -- for this text's walks alone
set_option linter.unusedVariables false
set_option linter.unusedSimpArgs false
set_option maxHeartbeats 8000000
set_option maxRecDepth 100000
def pR.l0:Nat→List (List Int)→Int→Int→Option (Int)
 |0,_,_,_=>none
 |k+1,x0,x1,x5=>if x5<(x0.length:Int)then(if 0≤x5 then((rU.f (qi x0 x5) x1).bind fun bq=>(if bq<0 then(some (-1))else(pR.l0 k x0 bq (wrap64 (x5+1)))))else(none))else(some x1)
def pR.f (k:Nat) (l0:List (List Int)) (a1:Int):Option (Int):=if(wrap64 (a1 - (l0.length:Int)))<0 then(some (-1))else(pR.l0 k l0 (wrap64 (a1 - (l0.length:Int))) 0)
theorem pR.jQ:∀k,(∀y0 y1 y2,qg (pR.l0 k y0 y1 y2) (pR.l0 (k+1) y0 y1 y2))
 |0=>fun _ _ _=> .z (by simp only[pR.l0])
 |k+1=>by
  have i0:=pR.jQ k;exact fun _ _ _=>by unfold pR.l0;infer_instance
instance pR.mo {k a0 a1}:qg (pR.f k a0 a1) (pR.f (k+1) a0 a1):=by have i0:=pR.jQ k;unfold pR.f;infer_instance
theorem pR.calls (k:Nat) (A0:Option Addr) (c0:Nat) (l0:List (List Int)) (a1:Int) (r:Int) (w:World) (al:Kd.C (Kd.slice 3 (Kd.int .i64)) w A0 l0.length l0) (an:l0.length≤c0) (h:pR.f k l0 a1=some r):
  Calls Tryz.prog 72 #[.slice A0 l0.length c0,.int .i64 a1] w fun e w'=>e= .returned (.int .i64 r)∧Drawn0 w w':=by
 have ay:=bm al;have ch:=bm an;clear al an;have H:=h;clear h;unfold pR.f at H;rcases vG H with⟨aH,H⟩|⟨aH,H⟩
 ·obtain rfl:=vU H;go_enter Tryz.func72,Tryz.ntmps72;go_wp2;go_ret;exact vY
 ·have H':=bm H;clear H;go_enter Tryz.func72,Tryz.ntmps72;go_wp2;go_loopg [1,5] k (fun kq v1 v5 w'=>∃(av:Int) (o:Int),v1= .int .i64 av∧v5= .int .i64 o∧jX (pR.l0 kq l0 av o=some r)∧jX (kq≤k)∧Drawn0 w w')
  case atStart=>exact⟨(wrap64 (a1 - (l0.length:Int))),(0),(by first|rfl|(simp;done)|(simp[*];done)),(by first|rfl|(simp;done)|(simp[*];done)),H',⟨Nat.le_refl _⟩,by repeat(first|exact Drawn0.refl _|apply Drawn0.step)⟩
  case round=>
   clear H';obtain⟨av,o,rfl,rfl,HA,ao,⟨m1,rfl⟩⟩:=hrel;cases gk with
   |zero=>exact absurd HA.out (by simp[pR.l0])
   |succ k1=>
    have H:=HA.out;clear HA;simp only[pR.l0]at H;rcases vG H with⟨aI,H⟩|⟨aI,H⟩
    ·obtain⟨cj,H⟩:=vE H;obtain⟨bq,A6,H⟩:=bE H;try dsimp only at H
     rcases vG H with⟨br,H⟩|⟨br,H⟩
     ·obtain rfl:=vU H;have aO:0≤(o:Int):=pG;have aP:o<(l0.length:Int):=pG;obtain⟨dJ,bw,bx,ck,cl,az,aA⟩:=xa ay.out o aO aP;cases ck;have aQ:=bm aA;have aR:=bm az;clear aA az;replace aO:=vD aO;replace aP:=vD aP;go_wp2_with (first|(refine gB (some 23) Tryz.func71 #[.slice bw (qi l0 o).length bx,.int .i64 av] rfl ?_;(with_reducible refine(rU.calls _ _ (qi l0 o) av bq _ ?_ ?_ A6.out).mono ?_);exact cZ aQ.out;exact aR.out;rintro e w' ⟨rfl,⟨nd,rfl⟩⟩;refine⟨_,rfl,?_⟩));go_ret;exact vY
     ·have H':=bm H;clear H;have aO:0≤(o:Int):=pG;have aP:o<(l0.length:Int):=pG;obtain⟨dJ,bw,bx,ck,cl,az,aA⟩:=xa ay.out o aO aP;cases ck;have aQ:=bm aA;have aR:=bm az;clear aA az;replace aO:=vD aO;replace aP:=vD aP;go_wp2_with (first|(refine gB (some 23) Tryz.func71 #[.slice bw (qi l0 o).length bx,.int .i64 av] rfl ?_;(with_reducible refine(rU.calls _ _ (qi l0 o) av bq _ ?_ ?_ A6.out).mono ?_);exact cZ aQ.out;exact aR.out;rintro e w' ⟨rfl,⟨nd,rfl⟩⟩;refine⟨_,rfl,?_⟩));go_roundg k1
      case measure=>have:=ao.out;omega
      case rel=>exact⟨(bq),(wrap64 (o+1)),(by first|rfl|(simp;done)|(simp[*];done)),(by first|rfl|(simp;done)|(simp[*];done)),H',⟨by have:=ao.out;omega⟩,by repeat(first|exact Drawn0.refl _|apply Drawn0.step)⟩
    ·obtain rfl:=vU H;go_wp2;go_ret;exact vY
def rM.f (k:Nat) (ae:Int) (J:List Int) (aa:List (List Int)) (a1:Int):Option (Int):=(rU.f J a1).bind fun aq=>(if aq<0 then(some (-1))else((pR.f k aa aq).bind fun aK=>(if aK<0 then(some (-1))else(some aK))))
instance rM.mo {k a0 a1 a2 a3}:qg (rM.f k a0 a1 a2 a3) (rM.f (k+1) a0 a1 a2 a3):=by unfold rM.f;infer_instance
theorem rM.calls (k:Nat) (ae:Int) (ar:Option Addr) (au:Nat) (J:List Int) (aw:Option Addr) (ax:Nat) (aa:List (List Int)) (a1:Int) (r:Int) (w:World) (aS:Kd.C (Kd.int .i64) w ar J.length J) (aT:J.length≤au) (aU:Kd.C (Kd.slice 3 (Kd.int .i64)) w aw aa.length aa) (aV:aa.length≤ax) (h:rM.f k ae J aa a1=some r):
  Calls Tryz.prog 22 #[.agg #[.int .i64 ae,.slice ar J.length au,.slice aw aa.length ax],.int .i64 a1] w fun e w'=>e= .returned (.int .i64 r)∧Below w.heap.size w w':=by
 have eh:=Tryz.underlying42;have aW:=bm aS;have aY:=bm aT;clear aS aT;have bz:=bm aU;have bA:=bm aV;clear aU aV;have HB:=bm (Below.refl w.heap.size w);have H:=h;clear h;unfold rM.f at H;obtain⟨aq,A3,H⟩:=bE H;try dsimp only at H
 rcases vG H with⟨aI,H⟩|⟨aI,H⟩
 ·obtain rfl:=vU H;go_enter Tryz.func22,Tryz.ntmps22;go_wp2_with (first|(refine rz 2 #[.int .i64 ae,.slice ar J.length au,.slice aw aa.length ax] 42 ?_;intro cm hg w5 af hb;have aZ:=bm (af);have cn:=bG HB hg;replace HB:=bW HB hb;clear hb af hg;obtain⟨fg,fh,fi,fj,fk,fl⟩:=b3 aZ)|(refine gB (some 8) Tryz.func71 #[.slice ar J.length au,.int .i64 a1] rfl ?_;(with_reducible refine(rU.calls _ _ J a1 aq _ ?_ ?_ A3.out).mono ?_);exact cY aW HB;exact aY.out;rintro e w' ⟨rfl,⟨nd,rfl⟩⟩;refine⟨_,rfl,?_⟩));go_ret;exact vZ HB
 ·obtain⟨aK,A7,H⟩:=bE H;try dsimp only at H
  rcases vG H with⟨cp,H⟩|⟨cp,H⟩
  ·obtain rfl:=vU H;go_enter Tryz.func22,Tryz.ntmps22;go_wp2_with (first|(refine rz 2 #[.int .i64 ae,.slice ar J.length au,.slice aw aa.length ax] 42 ?_;intro cm hg w9 af hb;have aZ:=bm (af);have cn:=bG HB hg;replace HB:=bW HB hb;clear hb af hg;obtain⟨ei,ej,ek,el,en,eo⟩:=b3 aZ)|(refine gB (some 8) Tryz.func71 #[.slice ar J.length au,.int .i64 a1] rfl ?_;(with_reducible refine(rU.calls _ _ J a1 aq _ ?_ ?_ A3.out).mono ?_);exact cY aW HB;exact aY.out;rintro e w' ⟨rfl,⟨nd,rfl⟩⟩;refine⟨_,rfl,?_⟩)|(refine gB (some 14) Tryz.func72 #[.slice aw aa.length ax,.int .i64 aq] rfl ?_;(with_reducible refine(pR.calls k _ _ aa aq aK _ ?_ ?_ A7.out).mono ?_);exact cZ (Kd.C_below bz.out (wZ HB));exact bA.out;rintro e w' ⟨rfl,⟨nd,rfl⟩⟩;refine⟨_,rfl,?_⟩));go_ret;exact vZ HB
  ·obtain rfl:=vU H;go_enter Tryz.func22,Tryz.ntmps22;go_wp2_with (first|(refine rz 2 #[.int .i64 ae,.slice ar J.length au,.slice aw aa.length ax] 42 ?_;intro cm hg aN af hb;have aZ:=bm (af);have cn:=bG HB hg;replace HB:=bW HB hb;clear hb af hg;obtain⟨ep,er,et,eu,ev,ew⟩:=b3 aZ)|(refine gB (some 8) Tryz.func71 #[.slice ar J.length au,.int .i64 a1] rfl ?_;(with_reducible refine(rU.calls _ _ J a1 aq _ ?_ ?_ A3.out).mono ?_);exact cY aW HB;exact aY.out;rintro e w' ⟨rfl,⟨nd,rfl⟩⟩;refine⟨_,rfl,?_⟩)|(refine gB (some 14) Tryz.func72 #[.slice aw aa.length ax,.int .i64 aq] rfl ?_;(with_reducible refine(pR.calls k _ _ aa aq aK _ ?_ ?_ A7.out).mono ?_);exact cZ (Kd.C_below bz.out (wZ HB));exact bA.out;rintro e w' ⟨rfl,⟨nd,rfl⟩⟩;refine⟨_,rfl,?_⟩));go_ret;exact vZ HB
def oK.l0:Nat→List ByteArray→Int→Int→Option (Int)
 |0,_,_,_=>none
 |k+1,x0,x1,x5=>if x5<(x0.length:Int)then(if 0≤x5 then(if(wrap64 (x1 - ((rdOf ByteArray.empty x0 x5).size:Int)))<0 then(some (-1))else(oK.l0 k x0 (wrap64 (x1 - ((rdOf ByteArray.empty x0 x5).size:Int))) (wrap64 (x5+1))))else(none))else(some x1)
def oK.f (k:Nat) (l0:List ByteArray) (a1:Int):Option (Int):=if(wrap64 (a1 - (l0.length:Int)))<0 then(some (-1))else(oK.l0 k l0 (wrap64 (a1 - (l0.length:Int))) 0)
theorem oK.jQ:∀k,(∀y0 y1 y2,qg (oK.l0 k y0 y1 y2) (oK.l0 (k+1) y0 y1 y2))
 |0=>fun _ _ _=> .z (by simp only[oK.l0])
 |k+1=>by
  have i0:=oK.jQ k;exact fun _ _ _=>by unfold oK.l0;infer_instance
instance oK.mo {k a0 a1}:qg (oK.f k a0 a1) (oK.f (k+1) a0 a1):=by have i0:=oK.jQ k;unfold oK.f;infer_instance
theorem oK.calls (k:Nat) (A0:Option Addr) (c0:Nat) (l0:List ByteArray) (a1:Int) (r:Int) (w:World) (al:Kd.C Kd.string w A0 l0.length l0) (an:l0.length≤c0) (h:oK.f k l0 a1=some r):
  Calls Tryz.prog 23 #[.slice A0 l0.length c0,.int .i64 a1] w fun e w'=>e= .returned (.int .i64 r)∧Drawn0 w w':=by
 have ay:=bm al;have ch:=bm an;clear al an;have H:=h;clear h;unfold oK.f at H;rcases vG H with⟨aH,H⟩|⟨aH,H⟩
 ·obtain rfl:=vU H;go_enter Tryz.func23,Tryz.ntmps23;go_wp2;go_ret;exact vY
 ·have H':=bm H;clear H;go_enter Tryz.func23,Tryz.ntmps23;go_wp2;go_loopg [1,5] k (fun kq v1 v5 w'=>∃(av:Int) (o:Int),v1= .int .i64 av∧v5= .int .i64 o∧jX (oK.l0 kq l0 av o=some r)∧jX (kq≤k)∧Drawn0 w w')
  case atStart=>exact⟨(wrap64 (a1 - (l0.length:Int))),(0),(by first|rfl|(simp;done)|(simp[*];done)),(by first|rfl|(simp;done)|(simp[*];done)),H',⟨Nat.le_refl _⟩,by repeat(first|exact Drawn0.refl _|apply Drawn0.step)⟩
  case round=>
   clear H';obtain⟨av,o,rfl,rfl,HA,ao,⟨m1,rfl⟩⟩:=hrel;cases gk with
   |zero=>exact absurd HA.out (by simp[oK.l0])
   |succ k1=>
    have H:=HA.out;clear HA;simp only[oK.l0]at H;rcases vG H with⟨aI,H⟩|⟨aI,H⟩
    ·obtain⟨cj,H⟩:=vE H;rcases vG H with⟨aJ,H⟩|⟨aJ,H⟩
     ·obtain rfl:=vU H;have a6:0≤(o:Int):=pG;have a7:o<(l0.length:Int):=pG;obtain⟨dK,cq,cr⟩:=Kd.at_string ay.out o a6 a7;cases cq;replace a6:=vD a6;replace a7:=vD a7;go_wp2;go_ret;exact vY
     ·have H':=bm H;clear H;have a6:0≤(o:Int):=pG;have a7:o<(l0.length:Int):=pG;obtain⟨dK,cq,cr⟩:=Kd.at_string ay.out o a6 a7;cases cq;replace a6:=vD a6;replace a7:=vD a7;go_wp2;go_roundg k1
      case measure=>have:=ao.out;omega
      case rel=>exact⟨(wrap64 (av - ((rdOf ByteArray.empty l0 o).size:Int))),(wrap64 (o+1)),(by first|rfl|(simp;done)|(simp[*];done)),(by first|rfl|(simp;done)|(simp[*];done)),H',⟨by have:=ao.out;omega⟩,by repeat(first|exact Drawn0.refl _|apply Drawn0.step)⟩
    ·obtain rfl:=vU H;go_wp2;go_ret;exact vY
def pX.l0:Nat→List Int→List Int→Int→Option (List Int)
 |0,_,_,_=>none
 |k+1,x0,x3,x4=>if x4<(x0.length:Int)then(if 0≤x4 then(if x4<(x3.length:Int)then(pX.l0 k x0 (x3.set (x4:Int).toNat (rd x0 x4)) (wrap64 (x4+1)))else(none))else(none))else(some x3)
def pX.f (k:Nat) (l0:List Int):Option (List Int):=if 0≤(l0.length:Int)then(if((l0.length:Int):Int).toNat≤35184372088832 then(pX.l0 k l0 (List.replicate ((l0.length:Int):Int).toNat 0) 0)else(none))else(none)
theorem pX.jQ:∀k,(∀y0 y1 y2,qg (pX.l0 k y0 y1 y2) (pX.l0 (k+1) y0 y1 y2))
 |0=>fun _ _ _=> .z (by simp only[pX.l0])
 |k+1=>by
  have i0:=pX.jQ k;exact fun _ _ _=>by unfold pX.l0;infer_instance
instance pX.mo {k a0}:qg (pX.f k a0) (pX.f (k+1) a0):=by have i0:=pX.jQ k;unfold pX.f;infer_instance
theorem pX.calls (k:Nat) (A0:Option Addr) (c0:Nat) (l0:List Int) (r:List Int) (w:World) (al:Kd.C (Kd.int .i64) w A0 l0.length l0) (an:l0.length≤c0) (h:pX.f k l0=some r):
  Calls Tryz.prog 73 #[.slice A0 l0.length c0] w fun e w'=>∃bH:Value,e= .returned (bH)∧Kd.R (Kd.int .i64) 3 w' w.heap.size (fun _=>True) bH r∧Below w.heap.size w w':=by
 have ay:=bm al;have ch:=bm an;clear al an;have HB:=bm (Below.refl w.heap.size w);have H:=h;clear h;unfold pX.f at H;obtain⟨dx,dy,H⟩:=vF H;obtain⟨aH,bs,H⟩:=vF H;obtain⟨dz,bZ⟩:∃y_:List Int,y_=(List.replicate ((l0.length:Int):Int).toNat 0):=⟨_,rfl⟩;rw[←bZ]at H
 have ct:=bm bZ;clear bZ;have H':=bm H;clear H;go_enter Tryz.func73,Tryz.ntmps73;go_wp2_with (first|((with_reducible refine gate_dst (N:=7) rfl ?_);refine Kd.R_make (Kd.int .i64) _ 3 rfl (N:=7) rfl 23 _ _ rfl (l0.length:Int) rfl rfl Tryz.underlying23 (.int .i64 0) 8 info3 rfl (by decide) (by omega) 0 (ok:=fun _=>True) (okp:=fun _=>True) rfl (fun _ hk=>hk) trivial (pG) (Nat.le_trans (Nat.mul_le_mul_right _ (pG:(l0.length:Int).toNat≤35184372088832)) (by omega)) (Below.refl _ _) (Nat.le_refl _) ?_;intro ey w4 aB hb cu a8;clear cu a8;(first|rw[←ct.out]at aB|(simp only[Int.reduceToNat]at aB;rw[←ct.out]at aB));have dL:=vX aB HB;replace HB:=bW HB hb;clear hb aB));go_loopg [4] k (fun kq v4 w'=>∃(ab:List Int) (I:Int),v4= .int .i64 I∧jX (pX.l0 kq l0 ab I=some r)∧jX (kq≤k)∧jX (Kd.R (Kd.int .i64) 3 w' w.heap.size (fun _=>True) ey ab)∧jX (Below w.heap.size w w'))
 case atStart=>exact⟨(dz),(0),(by first|rfl|(simp;done)|(simp[*];done)),H',⟨Nat.le_refl _⟩,⟨by(repeat apply Kd.RS);exact dL.out⟩,⟨wZ HB⟩⟩
 case round=>
  clear H';obtain⟨ab,I,rfl,HA,ao,rv,HB⟩:=hrel;cases gk with
  |zero=>exact absurd HA.out (by simp[pX.l0])
  |succ k1=>
   have H:=HA.out;clear HA;simp only[pX.l0]at H;rcases vG H with⟨aJ,H⟩|⟨aJ,H⟩
   ·obtain⟨br,H⟩:=vE H;obtain⟨cp,H⟩:=vE H;obtain⟨cv,b0⟩:∃y_:List Int,y_=(ab.set (I:Int).toNat (rd l0 I)):=⟨_,rfl⟩;rw[←b0]at H
    have dM:=bm b0;clear b0;have H':=bm H;clear H;have cw:0≤(I:Int):=pG;have cx:I<(l0.length:Int):=pG;obtain⟨fx,ez,ba⟩:=Kd.at_int ay.out I cw cx;cases ez;replace ba:=vA HB ba;replace cw:=vD cw;replace cx:=vD cx;have p9:0≤(I:Int):=pG;have q9:(I:Int)<((ab.length:Int):Int):=pG;obtain⟨b1,dN,cy,cz,dO,fy,cA⟩:=Kd.R_form rv.out (by omega);(first|cases cy|(injection cy with xR EJ EK;(first|subst xR|(injection xR with xR;subst xR));subst EK;clear EJ));have dP:=bm cz;have fz:=bm cA;clear cz dO cA;obtain⟨dQ,dR⟩:=Kd.R_celln 0 rv.out (I:Int) p9 q9;replace p9:=vD p9;replace q9:=vD q9;have bb:=Kd.R_putg rv.out (I:Int) (rd l0 I);go_wp2_with (first|((with_reducible refine gate_store (t:=3) (p:=20) rfl ?_);refine store_event (t:=3) (p:=20) (v:=?Gb) (w1:=(wr.setCell ⟨b1,(I:Int).toNat,none⟩ (.int .i64 (rd l0 I)))) ?hg ?ho ?hn ?hr ?_;(case ho=>rfl);(case hg=>rfl);(case hn=>rfl);(case hr=>first|(go_simp;done)|(go_simp;rfl));intro aN hw;have hg:wr.grownBy aN (some b1):=(by rw[hw];exact bb.2);have bJ:Kd.R (Kd.int .i64) 3 aN w.heap.size (fun _=>True) (.slice (some ⟨b1,0,none⟩) ab.length dN) cv:=(by rw[hw,dM.out];exact bb.1);clear bb;replace rv:=bm (bJ);replace HB:=bm ((by rw[hw];exact CH (HB.out) dP.out:Below w.heap.size w aN));clear hg hw bJ));go_roundg k1
    case measure=>have:=ao.out;omega
    case rel=>exact⟨(cv),(wrap64 (I+1)),(by first|rfl|(simp;done)|(simp[*];done)),H',⟨by have:=ao.out;omega⟩,⟨by(repeat apply Kd.RS);exact rv.out⟩,⟨wZ HB⟩⟩
   ·obtain rfl:=vU H;go_wp2;go_ret;exact⟨_,by first|rfl|(simp[*,jS,jT]<;>rfl),by(repeat apply Kd.RS);exact rv.out,wZ HB⟩
def pU.l0:Nat→List (List Int)→List (List Int)→Int→Option ((List (List Int)))
 |0,_,_,_=>none
 |k+1,x0,x3,x4=>if x4<(x0.length:Int)then(if 0≤x4 then((pX.f k (qi x0 x4)).bind fun bO=>(if x4<(x3.length:Int)then(pU.l0 k x0 (x3.set (x4:Int).toNat bO) (wrap64 (x4+1)))else(none)))else(none))else(some x3)
def pU.f (k:Nat) (l0:List (List Int)):Option ((List (List Int))):=if 0≤(l0.length:Int)then(if((l0.length:Int):Int).toNat≤11728124029610 then(pU.l0 k l0 (List.replicate ((l0.length:Int):Int).toNat []) 0)else(none))else(none)
theorem pU.jQ:∀k,(∀y0 y1 y2,qg (pU.l0 k y0 y1 y2) (pU.l0 (k+1) y0 y1 y2))
 |0=>fun _ _ _=> .z (by simp only[pU.l0])
 |k+1=>by
  have i0:=pU.jQ k;exact fun _ _ _=>by unfold pU.l0;infer_instance
instance pU.mo {k a0}:qg (pU.f k a0) (pU.f (k+1) a0):=by have i0:=pU.jQ k;unfold pU.f;infer_instance
theorem pU.calls (k:Nat) (A0:Option Addr) (c0:Nat) (l0:List (List Int)) (r:List (List Int)) (w:World) (al:Kd.C (Kd.slice 3 (Kd.int .i64)) w A0 l0.length l0) (an:l0.length≤c0) (h:pU.f k l0=some r):
  Calls Tryz.prog 74 #[.slice A0 l0.length c0] w fun e w'=>∃bH:Value,e= .returned (bH)∧Kd.S (Kd.slice 3 (Kd.int .i64)) 23 w' w.heap.size (fun _=>True) bH r∧Below w.heap.size w w':=by
 have ay:=bm al;have ch:=bm an;clear al an;have HB:=bm (Below.refl w.heap.size w);have H:=h;clear h;unfold pU.f at H;obtain⟨dx,dy,H⟩:=vF H;obtain⟨aH,bs,H⟩:=vF H;obtain⟨dA,b4⟩:∃y_:List (List Int),y_=(List.replicate ((l0.length:Int):Int).toNat []):=⟨_,rfl⟩;rw[←b4]at H
 have cB:=bm b4;clear b4;have H':=bm H;clear H;go_enter Tryz.func74,Tryz.ntmps74;go_wp2_with (first|((with_reducible refine gate_dst (N:=7) rfl ?_);refine Kd.S_make (Kd.slice 3 (Kd.int .i64)) _ 23 rfl (N:=7) rfl 24 _ _ rfl (l0.length:Int) rfl rfl Tryz.underlying24 (.slice none 0 0) 24 info23 rfl (by decide) (by omega) [] (ok:=fun _=>True) (okp:=fun _=>True) ⟨_,rfl,Kd.R_nil _ _ _ _ _⟩ (fun _ hk=>hk) trivial (pG) (Nat.le_trans (Nat.mul_le_mul_right _ (pG:(l0.length:Int).toNat≤11728124029610)) (by omega)) (Below.refl _ _) (Nat.le_refl _) ?_;intro eA w4 aB hb cu a8;clear cu a8;(first|rw[←cB.out]at aB|(simp only[Int.reduceToNat]at aB;rw[←cB.out]at aB));have dS:=vk aB HB;replace HB:=bW HB hb;clear hb aB));go_loopg [4] k (fun kq v4 w'=>∃(ab:List (List Int)) (I:Int),v4= .int .i64 I∧jX (pU.l0 kq l0 ab I=some r)∧jX (kq≤k)∧jX (Kd.S (Kd.slice 3 (Kd.int .i64)) 23 w' w.heap.size (fun _=>True) eA ab)∧jX (Below w.heap.size w w'))
 case atStart=>exact⟨(dA),(0),(by first|rfl|(simp;done)|(simp[*];done)),H',⟨Nat.le_refl _⟩,⟨by(repeat apply Kd.SS);exact dS.out⟩,⟨wZ HB⟩⟩
 case round=>
  clear H';obtain⟨ab,I,rfl,HA,ao,rv,HB⟩:=hrel;cases gk with
  |zero=>exact absurd HA.out (by simp[pU.l0])
  |succ k1=>
   have H:=HA.out;clear HA;simp only[pU.l0]at H;rcases vG H with⟨aJ,H⟩|⟨aJ,H⟩
   ·obtain⟨br,H⟩:=vE H;obtain⟨bO,A8,H⟩:=bE H;try dsimp only at H
    obtain⟨fL,H⟩:=vE H;obtain⟨cC,b5⟩:∃y_:List (List Int),y_=(ab.set (I:Int).toNat bO):=⟨_,rfl⟩;rw[←b5]at H
    have dT:=bm b5;clear b5;have H':=bm H;clear H;have cD:0≤(I:Int):=pG;have cE:I<(l0.length:Int):=pG;obtain⟨fA,dk,dm,eB,bc,bT,bV⟩:=xa ay.out I cD cE;cases eB;replace bc:=vA HB bc;have cF:=bm bV;have cG:=bm bT;clear bV bT;replace cD:=vD cD;replace cE:=vD cE;go_wp2_with (first|(refine gB (some 20) Tryz.func73 #[.slice dk (qi l0 I).length dm] rfl ?_;(with_reducible refine(pX.calls k1 _ _ (qi l0 I) bO _ ?_ ?_ A8.out).mono ?_);exact cY cF HB;exact cG.out;rintro e aN ⟨cf,rfl,bB,hb⟩;refine⟨_,rfl,?_⟩;replace rv:=bm (Kd.S_elder' (sS rv) (Kd.R_base bB) hb);have bD:=vX bB HB;replace HB:=bW HB hb;clear hb;(try clear bB);have dU:0≤(I:Int):=pG;have dV:(I:Int)<((ab.length:Int):Int):=pG;obtain⟨bu,dB,dC,dD,eC,fM,dE⟩:=Kd.S_form rv.out (by omega);(first|cases dC|(injection dC with xR EJ EK;(first|subst xR|(injection xR with xR;subst xR));subst EK;clear EJ));have eD:=bm dD;have fN:=bm dE;clear dD eC dE;obtain⟨_,fO,dW,dF,cH,cI,_,_⟩:=Kd.S_elem rv.out [] (I:Int) dU dV;obtain⟨fm,rfl,fo⟩:=id dF;have dn:=cH 0 _ rfl;have dp:=cI 0;(try simp only[show((Kd.slice 3 (Kd.int .i64))).sz=1 from rfl,Nat.mul_one,Nat.add_zero]at dn);(try simp only[show((Kd.slice 3 (Kd.int .i64))).sz=1 from rfl,Nat.mul_one,Nat.add_zero]at dp);clear dW cH cI dF;replace dU:=vD dU;replace dV:=vD dV;have n_:=bm (Kd.S_mono (ok':=(fun k_=>some k_≠(cf:Value).ownBlock)) rv.out (fun k_ hk=>hk.2));clear rv;have rv:=n_;clear n_;have eE:=bm (show Kd.S (Kd.slice 3 (Kd.int .i64)) 23 aN w.heap.size (fun k_=>((fun _=>True)) k_∧¬((fun k_=>some k_=(cf:Value).ownBlock)) k_) (.slice (some ⟨bu,0,none⟩) ab.length dB) ab from(by(repeat apply Kd.SS);exact Kd.S_mono rv.out (fun k_ hk=>⟨trivial,fun e_=>hk e_⟩)));obtain⟨fB,fP,dX,dG,cJ,cK,dq,dH⟩:=Kd.S_elem eE.out [] (I:Int) (pG) (by have h_:(I:Int)<((ab.length:Int):Int):=pG;first|exact h_|(have e_:=(Kd.S_reads' rv.out).1;omega)|simpa using h_);obtain⟨fp,rfl,fq⟩:=id dG;have cg:=Kd.S_seg dH (pG) (by have h_:(I:Int)<((ab.length:Int):Int):=pG;first|exact h_|(have e_:=(Kd.S_reads' rv.out).1;omega)|simpa using h_) (seg:=[cf]) (j:=0) (show 1≤1 from by decide) (x':=bO) (Kd.M_row (Kd.R_mono (Kd.R_tight rfl (Kd.R_mono (ok':=fun k_=>((fun _=>True)) k_∧k_≠bu) (Kd.R_apart' (bD.out) (Kd.S_typed rv.out) (by decide)) (fun k_ hk=>⟨trivial,fun e_=>(hk.2) (by rw[e_];rfl)⟩))) (fun _ h_=>Or.inr (h_)))) (fun _ hk=>hk) (fun k_ fC=>((Kd.R_mono (ok':=fun k_=>((fun _=>True)) k_∧k_≠bu) (Kd.R_apart' (bD.out) (Kd.S_typed rv.out) (by decide)) (fun k_ hk=>⟨trivial,fun e_=>(hk.2) (by rw[e_];rfl)⟩))).1 k_ fC.symm);have dr:=cJ 0 _ rfl;(try simp only[show((Kd.slice 3 (Kd.int .i64))).sz=1 from rfl,Nat.mul_one,Nat.add_zero]at dr);have ds:=cK 0;(try simp only[show((Kd.slice 3 (Kd.int .i64))).sz=1 from rfl,Nat.mul_one,Nat.add_zero]at ds);clear dX cJ cK dG dq dH;(try simp only[show((Kd.slice 3 (Kd.int .i64))).sz=1 from rfl,Nat.mul_one,Nat.add_zero]at cg))|((with_reducible refine gate_store (t:=23) (p:=21) rfl ?_);refine store_event (t:=23) (p:=21) (v:=?Jy) (w1:=(aN.setCell ⟨bu,(I:Int).toNat,none⟩ (cf))) ?hg ?ho ?hn ?hr ?_;(case ho=>rfl);(case hg=>rfl);(case hn=>rfl);(case hr=>first|(go_simp;done)|(go_simp;rfl)|(obtain⟨As_,KQ,KD⟩:=Kd.R_slice bD.out;rw[KD];first|(go_simp;done)|(go_simp;rfl)));intro dY hw;have hg:aN.grownBy dY (some bu):=(by rw[hw];exact cg.2);have bJ:Kd.S (Kd.slice 3 (Kd.int .i64)) 23 dY w.heap.size (fun _=>True) (.slice (some ⟨bu,0,none⟩) ab.length dB) cC:=(by rw[hw,dT.out];exact cg.1);clear cg;replace rv:=bm (bJ);replace HB:=bm ((by rw[hw];exact CH (HB.out) eD.out:Below w.heap.size w dY));clear bD;clear hg hw bJ))
    go_roundg k1
    case measure=>have:=ao.out;omega
    case rel=>exact⟨(cC),(wrap64 (I+1)),(by first|rfl|(simp;done)|(simp[*];done)),H',⟨by have:=ao.out;omega⟩,⟨by(repeat apply Kd.SS);exact rv.out⟩,⟨wZ HB⟩⟩
   ·obtain rfl:=vU H;go_wp2;go_ret;exact⟨_,by first|rfl|(simp[*,jS,jT]<;>rfl),by(repeat apply Kd.SS);exact rv.out,wZ HB⟩
def qM.f (k:Nat) (ae:Int) (J:List Int) (aa:List (List Int)):Option (Int×List Int×(List (List Int))):=(pX.f k J).bind fun aL=>((pU.f k aa).bind fun aM=>(some (ae,aL,aM)))
instance qM.mo {k a0 a1 a2}:qg (qM.f k a0 a1 a2) (qM.f (k+1) a0 a1 a2):=by unfold qM.f;infer_instance
theorem qM.calls (k:Nat) (ae:Int) (ar:Option Addr) (au:Nat) (J:List Int) (aw:Option Addr) (ax:Nat) (aa:List (List Int)) (r1:Int) (r2:List Int) (r3:List (List Int)) (w:World) (aS:Kd.C (Kd.int .i64) w ar J.length J) (aT:J.length≤au) (aU:Kd.C (Kd.slice 3 (Kd.int .i64)) w aw aa.length aa) (aV:aa.length≤ax) (h:qM.f k ae J aa=some (r1,r2,r3)):
  Calls Tryz.prog 24 #[.agg #[.int .i64 ae,.slice ar J.length au,.slice aw aa.length ax]] w fun e w'=>∃dZ eF:Value,e= .returned (.agg #[.int .i64 r1,dZ,eF])∧Kd.R (Kd.int .i64) 3 w' w.heap.size (fun _=>True) dZ r2∧Kd.S (Kd.slice 3 (Kd.int .i64)) 23 w' w.heap.size (fun k_=>some k_≠(dZ:Value).ownBlock) eF r3∧Below w.heap.size w w':=by
 have eh:=Tryz.underlying42;have fQ:=Tryz.underlying26;have aW:=bm aS;have aY:=bm aT;clear aS aT;have bz:=bm aU;have bA:=bm aV;clear aU aV;have HB:=bm (Below.refl w.heap.size w);have H:=h;clear h;unfold qM.f at H;obtain⟨aL,A2,H⟩:=bE H;try dsimp only at H
 obtain⟨aM,A3,H⟩:=bE H;try dsimp only at H
 obtain⟨rfl,rfl,rfl⟩:=s3 H;go_enter Tryz.func24,Tryz.ntmps24;go_wp2_with (first|(refine rz 1 #[.int .i64 ae,.slice ar J.length au,.slice aw aa.length ax] 42 ?_;intro fD hg w4 af hb;have ad:=bm (af);have fE:=bG HB hg;replace HB:=bW HB hb;clear hb af hg)|(refine rz 2 #[.int .i64 0,.slice none 0 0,.slice none 0 0] 26 ?_;intro bF hg w5 af hb;have ag:=bm (af);have fF:=bG HB hg;replace HB:=bW HB hb;have b6:=bL ad hg;have b7:=bM ad hg;replace ad:=bU ad hb;clear hb af hg)|(refine rz 3 #[.int .i64 0,.slice none 0 0,.slice none 0 0] 26 ?_;intro ea hg w6 af hb;have aC:=bm (af);have fG:=bG HB hg;replace HB:=bW HB hb;have b8:=bL ad hg;have b9:=bM ad hg;replace ad:=bU ad hb;have ca:=bL ag hg;have cb:=bM ag hg;replace ag:=bU ag hb;clear hb af hg;obtain⟨_,_,_,_⟩:=vP b6 b7 b8 b9;obtain⟨fr,fs,ft,fu,fv,fw⟩:=b3 ad;obtain⟨_,_⟩:=vN cb ca;obtain⟨eG,eH,eI,eJ,eK,eL⟩:=b3 aC)|(refine gB (some 9) Tryz.func73 #[.slice ar J.length au] rfl ?_;(with_reducible refine(pX.calls k _ _ J aL _ ?_ ?_ A2.out).mono ?_);exact Kd.C_below aW.out (wZ HB);exact aY.out;rintro e fX ⟨fV,rfl,bB,hb⟩;refine⟨_,rfl,?_⟩;have bd:=vX bB HB;replace ad:=bU ad hb;replace ag:=bU ag hb;replace aC:=bP #[.int .i64 ae,.slice none 0 0,.slice none 0 0] aC hb;replace HB:=bW HB hb;clear hb;(try clear bB);obtain⟨cL,cM,eM⟩:=Kd.R_slice bd.out;subst eM;obtain⟨eN,eO,eP,eQ,eR,eS⟩:=b3 aC;obtain⟨eT,eU,eV,eW,eX,eY⟩:=b3 ad)|(refine gB (some 13) Tryz.func74 #[.slice aw aa.length ax] rfl ?_;(with_reducible refine(pU.calls k _ _ aa aM _ ?_ ?_ A3.out).mono ?_);exact Kd.C_below bz.out (wZ HB);exact bA.out;rintro e fY ⟨fW,rfl,bB,hb⟩;refine⟨_,rfl,?_⟩;have cN:=bm (Kd.S_lower (Kd.S_new' bB (Kd.R_lt (rT bd))) (below_size (wZ HB)));replace bd:=bm (Kd.R_below (rT bd) hb);replace ad:=bU ad hb;replace ag:=bU ag hb;replace aC:=bP #[.int .i64 ae,.slice cL aL.length cM,.slice none 0 0] aC hb;replace HB:=bW HB hb;clear hb;(try clear bB);obtain⟨cO,cP,eZ⟩:=Kd.S_slice cN.out;subst eZ;obtain⟨e0,e1,e2,e3,e4,e5⟩:=b3 aC;obtain⟨e6,e7,e8,e9,fa,fb⟩:=b3 ag));refine bodyPost_ret (results_cell_row rfl _ _ bF 26 #[.int .i64 ae,.slice cL aL.length cM,.slice cO aM.length cP] (0,0) _ rfl (kP ag) Tryz.underlying26 rfl (by kernel_rfl)) rfl ?_;exact⟨_,_,by first|rfl|(simp[*,jS,jT]<;>rfl),rT bd,by(repeat apply Kd.SS);exact Kd.S_mono (Kd.S_far (p:=⟨bF,2,none⟩) (Kd.S_far (p:=⟨bF,1,none⟩) (Kd.S_far (p:=⟨bF,0,none⟩) (Kd.S_far (p:=⟨ea,2,none⟩) (Kd.S_types (Kd.S_types cN.out aC.out (by decide)) ag.out (by decide)) (fun _ hk=>hk.1.2) (.slice cO aM.length cP)) (fun _ hk=>hk.2) (.int .i64 ae)) (fun _ hk=>hk.2) (.slice cL aL.length cM)) (fun _ hk=>hk.2) (.slice cO aM.length cP)) (fun _ hk=>hk.1.1.2),wZ HB⟩
def lp.l0:Nat→List ByteArray→List ByteArray→Int→Option (List ByteArray)
 |0,_,_,_=>none
 |k+1,x0,x3,x4=>if x4<(x0.length:Int)then(if 0≤x4 then(if x4<(x3.length:Int)then(lp.l0 k x0 (x3.set (x4:Int).toNat (rdOf ByteArray.empty x0 x4)) (wrap64 (x4+1)))else(none))else(none))else(some x3)
def lp.f (k:Nat) (l0:List ByteArray):Option (List ByteArray):=if 0≤(l0.length:Int)then(if((l0.length:Int):Int).toNat≤17592186044416 then(lp.l0 k l0 (List.replicate ((l0.length:Int):Int).toNat (⟨#[]⟩:ByteArray)) 0)else(none))else(none)
theorem lp.jQ:∀k,(∀y0 y1 y2,qg (lp.l0 k y0 y1 y2) (lp.l0 (k+1) y0 y1 y2))
 |0=>fun _ _ _=> .z (by simp only[lp.l0])
 |k+1=>by
  have i0:=lp.jQ k;exact fun _ _ _=>by unfold lp.l0;infer_instance
instance lp.mo {k a0}:qg (lp.f k a0) (lp.f (k+1) a0):=by have i0:=lp.jQ k;unfold lp.f;infer_instance
theorem lp.calls (k:Nat) (A0:Option Addr) (c0:Nat) (l0:List ByteArray) (r:List ByteArray) (w:World) (al:Kd.C Kd.string w A0 l0.length l0) (an:l0.length≤c0) (h:lp.f k l0=some r):
  Calls Tryz.prog 25 #[.slice A0 l0.length c0] w fun e w'=>∃bH:Value,e= .returned (bH)∧Kd.R Kd.string 9 w' w.heap.size (fun _=>True) bH r∧Below w.heap.size w w':=by
 have ay:=bm al;have ch:=bm an;clear al an;have HB:=bm (Below.refl w.heap.size w);have H:=h;clear h;unfold lp.f at H;obtain⟨dx,dy,H⟩:=vF H;obtain⟨aH,bs,H⟩:=vF H;obtain⟨dI,cc⟩:∃y_:List ByteArray,y_=(List.replicate ((l0.length:Int):Int).toNat (⟨#[]⟩:ByteArray)):=⟨_,rfl⟩;rw[←cc]at H
 have cQ:=bm cc;clear cc;have H':=bm H;clear H;go_enter Tryz.func25,Tryz.ntmps25;go_wp2_with (first|((with_reducible refine gate_dst (N:=7) rfl ?_);refine Kd.R_make Kd.string _ 9 rfl (N:=7) rfl 37 _ _ rfl (l0.length:Int) rfl rfl Tryz.underlying37 (.string ⟨#[]⟩) 16 info9 rfl (by decide) (by omega) (⟨#[]⟩:ByteArray) (ok:=fun _=>True) (okp:=fun _=>True) rfl (fun _ hk=>hk) trivial (pG) (Nat.le_trans (Nat.mul_le_mul_right _ (pG:(l0.length:Int).toNat≤17592186044416)) (by omega)) (Below.refl _ _) (Nat.le_refl _) ?_;intro fc w4 aB hb cu a8;clear cu a8;(first|rw[←cQ.out]at aB|(simp only[Int.reduceToNat]at aB;rw[←cQ.out]at aB));have eb:=vX aB HB;replace HB:=bW HB hb;clear hb aB));go_loopg [4] k (fun kq v4 w'=>∃(ab:List ByteArray) (I:Int),v4= .int .i64 I∧jX (lp.l0 kq l0 ab I=some r)∧jX (kq≤k)∧jX (Kd.R Kd.string 9 w' w.heap.size (fun _=>True) fc ab)∧jX (Below w.heap.size w w'))
 case atStart=>exact⟨(dI),(0),(by first|rfl|(simp;done)|(simp[*];done)),H',⟨Nat.le_refl _⟩,⟨by(repeat apply Kd.RS);exact eb.out⟩,⟨wZ HB⟩⟩
 case round=>
  clear H';obtain⟨ab,I,rfl,HA,ao,rv,HB⟩:=hrel;cases gk with
  |zero=>exact absurd HA.out (by simp[lp.l0])
  |succ k1=>
   have H:=HA.out;clear HA;simp only[lp.l0]at H;rcases vG H with⟨aJ,H⟩|⟨aJ,H⟩
   ·obtain⟨br,H⟩:=vE H;obtain⟨cp,H⟩:=vE H;obtain⟨cR,cd⟩:∃y_:List ByteArray,y_=(ab.set (I:Int).toNat (rdOf ByteArray.empty l0 I)):=⟨_,rfl⟩;rw[←cd]at H
    have ec:=bm cd;clear cd;have H':=bm H;clear H;have cS:0≤(I:Int):=pG;have cT:I<(l0.length:Int):=pG;obtain⟨fJ,fe,bf⟩:=Kd.at_string ay.out I cS cT;cases fe;replace bf:=vA HB bf;replace cS:=vD cS;replace cT:=vD cT;have p9:0≤(I:Int):=pG;have q9:(I:Int)<((ab.length:Int):Int):=pG;obtain⟨b1,dN,cy,cz,dO,fy,cA⟩:=Kd.R_form rv.out (by omega);(first|cases cy|(injection cy with xR EJ EK;(first|subst xR|(injection xR with xR;subst xR));subst EK;clear EJ));have dP:=bm cz;have fz:=bm cA;clear cz dO cA;obtain⟨dQ,dR⟩:=Kd.R_celln (⟨#[]⟩:ByteArray) rv.out (I:Int) p9 q9;replace p9:=vD p9;replace q9:=vD q9;have bb:=Kd.R_putg rv.out (I:Int) (rdOf ByteArray.empty l0 I);go_wp2_with (first|((with_reducible refine gate_store (t:=9) (p:=20) rfl ?_);refine store_event (t:=9) (p:=20) (v:=?Gb) (w1:=(wr.setCell ⟨b1,(I:Int).toNat,none⟩ (.string (rdOf ByteArray.empty l0 I)))) ?hg ?ho ?hn ?hr ?_;(case ho=>rfl);(case hg=>rfl);(case hn=>rfl);(case hr=>first|(go_simp;done)|(go_simp;rfl));intro aN hw;have hg:wr.grownBy aN (some b1):=(by rw[hw];exact bb.2);have bJ:Kd.R Kd.string 9 aN w.heap.size (fun _=>True) (.slice (some ⟨b1,0,none⟩) ab.length dN) cR:=(by rw[hw,ec.out];exact bb.1);clear bb;replace rv:=bm (bJ);replace HB:=bm ((by rw[hw];exact CH (HB.out) dP.out:Below w.heap.size w aN));clear hg hw bJ));go_roundg k1
    case measure=>have:=ao.out;omega
    case rel=>exact⟨(cR),(wrap64 (I+1)),(by first|rfl|(simp;done)|(simp[*];done)),H',⟨by have:=ao.out;omega⟩,⟨by(repeat apply Kd.RS);exact rv.out⟩,⟨wZ HB⟩⟩
   ·obtain rfl:=vU H;go_wp2;go_ret;exact⟨_,by first|rfl|(simp[*,jS,jT]<;>rfl),by(repeat apply Kd.RS);exact rv.out,wZ HB⟩
def oL.l0:Nat→List Int→List Int→Int→Option (Bool)
 |0,_,_,_=>none
 |k+1,x0,x1,x5=>if x5<(x0.length:Int)then(if 0≤x5 then(if x5<(x1.length:Int)then(if(rd x0 x5)=(rd x1 x5)then(oL.l0 k x0 x1 (wrap64 (x5+1)))else(some false))else(none))else(none))else(some true)
def oL.f (k:Nat) (l0:List Int) (l1:List Int):Option (Bool):=if(l0.length:Int)=(l1.length:Int)then(oL.l0 k l0 l1 0)else(some false)
theorem oL.jQ:∀k,(∀y0 y1 y2,qg (oL.l0 k y0 y1 y2) (oL.l0 (k+1) y0 y1 y2))
 |0=>fun _ _ _=> .z (by simp only[oL.l0])
 |k+1=>by
  have i0:=oL.jQ k;exact fun _ _ _=>by unfold oL.l0;infer_instance
instance oL.mo {k a0 a1}:qg (oL.f k a0 a1) (oL.f (k+1) a0 a1):=by have i0:=oL.jQ k;unfold oL.f;infer_instance
theorem oL.calls (k:Nat) (A0:Option Addr) (c0:Nat) (l0:List Int) (A1:Option Addr) (c1:Nat) (l1:List Int) (r:Bool) (w:World) (al:Kd.C (Kd.int .i64) w A0 l0.length l0) (an:l0.length≤c0) (cU:Kd.C (Kd.int .i64) w A1 l1.length l1) (cV:l1.length≤c1) (h:oL.f k l0 l1=some r):
  Calls Tryz.prog 75 #[.slice A0 l0.length c0,.slice A1 l1.length c1] w fun e w'=>e= .returned (.bool r)∧Drawn0 w w':=by
 have ay:=bm al;have ch:=bm an;clear al an;have cW:=bm cU;have fK:=bm cV;clear cU cV;have H:=h;clear h;unfold oL.f at H;rcases iT H with⟨c3,H⟩|⟨c3,H⟩
 ·obtain⟨aH,bs⟩:=vW c3;have cX:(l0.length==l1.length)=true:=by first|simpa using c3|(simp at c3⊢;omega)
  clear c3;have H':=bm H;clear H;go_enter Tryz.func75,Tryz.ntmps75;go_wp2;repeat(go_quiet (fail);try go_wp2)
  go_loopg [5] k (fun kq v5 w'=>∃(o:Int),v5= .int .i64 o∧jX (oL.l0 kq l0 l1 o=some r)∧jX (kq≤k)∧Drawn0 w w')
  case atStart=>exact⟨(0),(by first|rfl|(simp;done)|(simp[*];done)),H',⟨Nat.le_refl _⟩,by repeat(first|exact Drawn0.refl _|apply Drawn0.step)⟩
  case round=>
   clear H';obtain⟨o,rfl,HA,ao,⟨m1,rfl⟩⟩:=hrel;cases gk with
   |zero=>exact absurd HA.out (by simp[oL.l0])
   |succ k1=>
    have H:=HA.out;clear HA;simp only[oL.l0]at H;rcases vG H with⟨aI,H⟩|⟨aI,H⟩
    ·obtain⟨cj,H⟩:=vE H;obtain⟨aJ,H⟩:=vE H;rcases iT H with⟨c7,H⟩|⟨c7,H⟩
     ·obtain⟨br,ff⟩:=vW c7;clear c7;have H':=bm H;clear H;have bg:0≤(o:Int):=pG;have bh:o<(l0.length:Int):=pG;obtain⟨ed,da,db⟩:=Kd.at_int ay.out o bg bh;cases da;replace bg:=vD bg;replace bh:=vD bh;have bj:0≤(o:Int):=pG;have bk:o<(l1.length:Int):=pG;obtain⟨ee,dc,dd⟩:=Kd.at_int cW.out o bj bk;cases dc;replace bj:=vD bj;replace bk:=vD bk;go_wp2;repeat(go_quiet (fail);try go_wp2)
      go_roundg k1
      case measure=>have:=ao.out;omega
      case rel=>exact⟨(wrap64 (o+1)),(by first|rfl|(simp;done)|(simp[*];done)),H',⟨by have:=ao.out;omega⟩,by repeat(first|exact Drawn0.refl _|apply Drawn0.step)⟩
     ·obtain⟨br,ff⟩:=vV c7;obtain rfl:=vU H;have bg:0≤(o:Int):=pG;have bh:o<(l0.length:Int):=pG;obtain⟨ed,da,db⟩:=Kd.at_int ay.out o bg bh;cases da;replace bg:=vD bg;replace bh:=vD bh;have bj:0≤(o:Int):=pG;have bk:o<(l1.length:Int):=pG;obtain⟨ee,dc,dd⟩:=Kd.at_int cW.out o bj bk;cases dc;replace bj:=vD bj;replace bk:=vD bk;go_wp2;repeat(go_quiet (fail);try go_wp2)
      go_ret;exact vY
    ·obtain rfl:=vU H;go_wp2;repeat(go_quiet (fail);try go_wp2)
     go_ret;exact vY
 ·obtain⟨aH,bs⟩:=vV c3;have cX:(l0.length==l1.length)=false:=by first|simpa using c3|(simp at c3⊢;omega)
  obtain rfl:=vU H;go_enter Tryz.func75,Tryz.ntmps75;go_wp2;repeat(go_quiet (fail);try go_wp2)
  go_ret;exact vY
def pS.l0:Nat→List (List Int)→List (List Int)→Int→Option (Bool)
 |0,_,_,_=>none
 |k+1,x0,x1,x5=>if x5<(x0.length:Int)then(if 0≤x5 then(if x5<(x1.length:Int)then((oL.f k (qi x0 x5) (qi x1 x5)).bind fun de=>(if de=true then(pS.l0 k x0 x1 (wrap64 (x5+1)))else(some false)))else(none))else(none))else(some true)
def pS.f (k:Nat) (l0:List (List Int)) (l1:List (List Int)):Option (Bool):=if(l0.length:Int)=(l1.length:Int)then(pS.l0 k l0 l1 0)else(some false)
theorem pS.jQ:∀k,(∀y0 y1 y2,qg (pS.l0 k y0 y1 y2) (pS.l0 (k+1) y0 y1 y2))
 |0=>fun _ _ _=> .z (by simp only[pS.l0])
 |k+1=>by
  have i0:=pS.jQ k;exact fun _ _ _=>by unfold pS.l0;infer_instance
instance pS.mo {k a0 a1}:qg (pS.f k a0 a1) (pS.f (k+1) a0 a1):=by have i0:=pS.jQ k;unfold pS.f;infer_instance
theorem pS.calls (k:Nat) (A0:Option Addr) (c0:Nat) (l0:List (List Int)) (A1:Option Addr) (c1:Nat) (l1:List (List Int)) (r:Bool) (w:World) (al:Kd.C (Kd.slice 3 (Kd.int .i64)) w A0 l0.length l0) (an:l0.length≤c0) (cU:Kd.C (Kd.slice 3 (Kd.int .i64)) w A1 l1.length l1) (cV:l1.length≤c1) (h:pS.f k l0 l1=some r):
  Calls Tryz.prog 76 #[.slice A0 l0.length c0,.slice A1 l1.length c1] w fun e w'=>e= .returned (.bool r)∧Drawn0 w w':=by
 have ay:=bm al;have ch:=bm an;clear al an;have cW:=bm cU;have fK:=bm cV;clear cU cV;have H:=h;clear h;unfold pS.f at H;rcases iT H with⟨c3,H⟩|⟨c3,H⟩
 ·obtain⟨aH,bs⟩:=vW c3;have cX:(l0.length==l1.length)=true:=by first|simpa using c3|(simp at c3⊢;omega)
  clear c3;have H':=bm H;clear H;go_enter Tryz.func76,Tryz.ntmps76;go_wp2;repeat(go_quiet (fail);try go_wp2)
  go_loopg [5] k (fun kq v5 w'=>∃(o:Int),v5= .int .i64 o∧jX (pS.l0 kq l0 l1 o=some r)∧jX (kq≤k)∧Drawn0 w w')
  case atStart=>exact⟨(0),(by first|rfl|(simp;done)|(simp[*];done)),H',⟨Nat.le_refl _⟩,by repeat(first|exact Drawn0.refl _|apply Drawn0.step)⟩
  case round=>
   clear H';obtain⟨o,rfl,HA,ao,⟨m1,rfl⟩⟩:=hrel;cases gk with
   |zero=>exact absurd HA.out (by simp[pS.l0])
   |succ k1=>
    have H:=HA.out;clear HA;simp only[pS.l0]at H;rcases vG H with⟨aI,H⟩|⟨aI,H⟩
    ·obtain⟨cj,H⟩:=vE H;obtain⟨aJ,H⟩:=vE H;obtain⟨de,A7,H⟩:=bE H;try dsimp only at H
     by_cases c8:de=true
     ·subst c8;rw[if_pos rfl]at H;have H':=bm H;clear H;have bl:0≤(o:Int):=pG;have bn:o<(l0.length:Int):=pG;obtain⟨ef,dt,du,df,dh,aD,aE⟩:=xa ay.out o bl bn;cases df;have ah:=bm aE;have ai:=bm aD;clear aE aD;replace bl:=vD bl;replace bn:=vD bn;have bo:0≤(o:Int):=pG;have bp:o<(l1.length:Int):=pG;obtain⟨eg,dv,dw,di,dj,aF,aG⟩:=xa cW.out o bo bp;cases di;have aj:=bm aG;have ak:=bm aF;clear aG aF;replace bo:=vD bo;replace bp:=vD bp;go_wp2_with (first|(go_at_call 75;(with_reducible refine(oL.calls k1 _ _ (qi l0 o) _ _ (qi l1 o) true _ ?_ ?_ ?_ ?_ A7.out).mono ?_);exact cZ ah.out;exact ai.out;exact cZ aj.out;exact ak.out;rintro e w' ⟨rfl,⟨nd,rfl⟩⟩;(try first|exact⟨rfl,_,World.drewN_drewN _ _ _⟩|exact⟨rfl,_,Eq.trans (World.drewN_drewN _ _ _) (congrArg (World.drewN _) (Nat.add_assoc _ _ _))⟩)));repeat(go_quiet (first|(go_at_call 75;(with_reducible refine(oL.calls k1 _ _ (qi l0 o) _ _ (qi l1 o) true _ ?_ ?_ ?_ ?_ A7.out).mono ?_);exact cZ ah.out;exact ai.out;exact cZ aj.out;exact ak.out;rintro e w' ⟨rfl,⟨nd,rfl⟩⟩;(try first|exact⟨rfl,_,World.drewN_drewN _ _ _⟩|exact⟨rfl,_,Eq.trans (World.drewN_drewN _ _ _) (congrArg (World.drewN _) (Nat.add_assoc _ _ _))⟩)));try go_wp2_with (first|(go_at_call 75;(with_reducible refine(oL.calls k1 _ _ (qi l0 o) _ _ (qi l1 o) true _ ?_ ?_ ?_ ?_ A7.out).mono ?_);exact cZ ah.out;exact ai.out;exact cZ aj.out;exact ak.out;rintro e w' ⟨rfl,⟨nd,rfl⟩⟩;(try first|exact⟨rfl,_,World.drewN_drewN _ _ _⟩|exact⟨rfl,_,Eq.trans (World.drewN_drewN _ _ _) (congrArg (World.drewN _) (Nat.add_assoc _ _ _))⟩))))
      go_roundg k1
      case measure=>have:=ao.out;omega
      case rel=>exact⟨(wrap64 (o+1)),(by first|rfl|(simp;done)|(simp[*];done)),H',⟨by have:=ao.out;omega⟩,by repeat(first|exact Drawn0.refl _|apply Drawn0.step)⟩
     ·replace c8:=uZ c8;subst c8;rw[if_neg vM]at H;obtain rfl:=vU H;have bl:0≤(o:Int):=pG;have bn:o<(l0.length:Int):=pG;obtain⟨ef,dt,du,df,dh,aD,aE⟩:=xa ay.out o bl bn;cases df;have ah:=bm aE;have ai:=bm aD;clear aE aD;replace bl:=vD bl;replace bn:=vD bn;have bo:0≤(o:Int):=pG;have bp:o<(l1.length:Int):=pG;obtain⟨eg,dv,dw,di,dj,aF,aG⟩:=xa cW.out o bo bp;cases di;have aj:=bm aG;have ak:=bm aF;clear aG aF;replace bo:=vD bo;replace bp:=vD bp;go_wp2_with (first|(go_at_call 75;(with_reducible refine(oL.calls k1 _ _ (qi l0 o) _ _ (qi l1 o) false _ ?_ ?_ ?_ ?_ A7.out).mono ?_);exact cZ ah.out;exact ai.out;exact cZ aj.out;exact ak.out;rintro e w' ⟨rfl,⟨nd,rfl⟩⟩;(try first|exact⟨rfl,_,World.drewN_drewN _ _ _⟩|exact⟨rfl,_,Eq.trans (World.drewN_drewN _ _ _) (congrArg (World.drewN _) (Nat.add_assoc _ _ _))⟩)));repeat(go_quiet (first|(go_at_call 75;(with_reducible refine(oL.calls k1 _ _ (qi l0 o) _ _ (qi l1 o) false _ ?_ ?_ ?_ ?_ A7.out).mono ?_);exact cZ ah.out;exact ai.out;exact cZ aj.out;exact ak.out;rintro e w' ⟨rfl,⟨nd,rfl⟩⟩;(try first|exact⟨rfl,_,World.drewN_drewN _ _ _⟩|exact⟨rfl,_,Eq.trans (World.drewN_drewN _ _ _) (congrArg (World.drewN _) (Nat.add_assoc _ _ _))⟩)));try go_wp2_with (first|(go_at_call 75;(with_reducible refine(oL.calls k1 _ _ (qi l0 o) _ _ (qi l1 o) false _ ?_ ?_ ?_ ?_ A7.out).mono ?_);exact cZ ah.out;exact ai.out;exact cZ aj.out;exact ak.out;rintro e w' ⟨rfl,⟨nd,rfl⟩⟩;(try first|exact⟨rfl,_,World.drewN_drewN _ _ _⟩|exact⟨rfl,_,Eq.trans (World.drewN_drewN _ _ _) (congrArg (World.drewN _) (Nat.add_assoc _ _ _))⟩))))
      go_ret;exact vY
    ·obtain rfl:=vU H;go_wp2;repeat(go_quiet (fail);try go_wp2)
     go_ret;exact vY
 ·obtain⟨aH,bs⟩:=vV c3;have cX:(l0.length==l1.length)=false:=by first|simpa using c3|(simp at c3⊢;omega)
  obtain rfl:=vU H;go_enter Tryz.func76,Tryz.ntmps76;go_wp2;repeat(go_quiet (fail);try go_wp2)
  go_ret;exact vY
end Go.Proofs.YtihgpkohglcijaaGreatDoor.P
