import Derived.Test.YtihgpkohglcijaaGreatDoorPx0
import Derived.Test.YtihgpkohglcijaaGreatDoorPx27
namespace Go.Proofs.YtihgpkohglcijaaGreatDoor.P
open Go.RowKit Go.Proofs.YtihgpkohglcijaaGreatDoorW.PrintWords Go.Proofs.YtihgpkohglcijaaGreatDoorW.PrintLast Go.Proofs.YtihgpkohglcijaaGreatDoorW.PrintMore
attribute [local go_sem] max2_int min2_int max_two min_two max_three min_three max_four min_four   -- for this text's walks alone
set_option linter.unusedVariables false
set_option linter.unusedSimpArgs false
set_option maxHeartbeats 8000000
set_option maxRecDepth 100000
abbrev DN:Array Bool:= #[false,false,false,false,false,false,false]
abbrev DP:Array Bool:= #[true,false,false,false,false,false,false]
abbrev DQ:Array Bool:= #[true,true,false,false,false,false,false]
abbrev DR:Array Bool:= #[true,true,true,false,false,false,false]
def qN.f (k:Nat) (af:Int) (I:List Int) (J:List (List Int)) (av:Int) (aj:List Int) (ao:List (List Int)):Option (Bool):=if af=av then((oL.f k I aj).bind fun bs=>(if bs=true then((pS.f k J ao).bind fun bu=>(if bu=true then(some true)else(some false)))else(some false)))else(some false)
instance qN.mo {k a0 a1 a2 a3 a4 a5}:qg (qN.f k a0 a1 a2 a3 a4 a5) (qN.f (k+1) a0 a1 a2 a3 a4 a5):=by unfold qN.f;infer_instance
theorem qN.calls (k:Nat) (af:Int) (ak:Option Addr) (al:Nat) (I:List Int) (aq:Option Addr) (ar:Nat) (J:List (List Int)) (av:Int) (aE:Option Addr) (aF:Nat) (aj:List Int) (aH:Option Addr) (aI:Nat) (ao:List (List Int)) (r:Bool) (w:World) (aN:Kd.C (Kd.int .i64) w ak I.length I) (aO:I.length≤al) (aP:Kd.C (Kd.slice 3 (Kd.int .i64)) w aq J.length J) (aQ:J.length≤ar) (ca:Kd.C (Kd.int .i64) w aE aj.length aj) (cb:aj.length≤aF) (cc:Kd.C (Kd.slice 3 (Kd.int .i64)) w aH ao.length ao) (cd:ao.length≤aI) (h:qN.f k af I J av aj ao=some r):
  Calls Tryz.prog 26 #[.agg #[.int .i64 af,.slice ak I.length al,.slice aq J.length ar],.agg #[.int .i64 av,.slice aE aj.length aF,.slice aH ao.length aI]] w fun e w'=>e= .returned (.bool r)∧Below w.heap.size w w':=by
 have dr:=Tryz.underlying26;have az:=bm aN;have aA:=bm aO;clear aN aO;have aR:=bm aP;have aS:=bm aQ;clear aP aQ;have bD:=bm ca;have bF:=bm cb;clear ca cb;have cf:=bm cc;have cg:=bm cd;clear cc cd;have HB:=bm (Below.refl w.heap.size w);have H:=h;clear h;unfold qN.f at H;rcases iT H with⟨c3,H⟩|⟨c3,H⟩
 ·obtain⟨an,ch⟩:=vW c3;clear c3;obtain⟨bs,A4,H⟩:=bE H;try dsimp only at H
  by_cases c5:bs=true
  ·subst c5;rw[if_pos rfl]at H;obtain⟨bu,A6,H⟩:=bE H;try dsimp only at H
   by_cases c7:bu=true
   ·subst c7;rw[if_pos rfl]at H;obtain rfl:=vU H;go_enter Tryz.func26,Tryz.ntmps26;go_wp2_with (first|(refine rz 2 #[.int .i64 af,.slice ak I.length al,.slice aq J.length ar] 26 ?_;intro bH hg w8 aa hb;have ab:=bm (aa);have bJ:=bG HB hg;replace HB:=bW HB hb;clear hb aa hg)|(refine rz 3 #[.int .i64 av,.slice aE aj.length aF,.slice aH ao.length aI] 26 ?_;intro bO hg w9 aa hb;have aB:=bm (aa);have bT:=bG HB hg;replace HB:=bW HB hb;have aC:=bL ab hg;have aD:=bM ab hg;replace ab:=bU ab hb;clear hb aa hg;obtain⟨dt,du,dv,dw,dx,dy⟩:=b3 ab;obtain⟨cj,ck,cl,cm,cn,cp⟩:=b3 aB)|(refine gB (some 14) Tryz.func75 #[.slice ak I.length al,.slice aE aj.length aF] rfl ?_;(with_reducible refine(oL.calls k _ _ I _ _ aj true _ ?_ ?_ ?_ ?_ A4.out).mono ?_);exact cY az HB;exact aA.out;exact cY bD HB;exact bF.out;rintro e w' ⟨rfl,⟨nd,rfl⟩⟩;refine⟨_,rfl,?_⟩)|(refine gB (some 20) Tryz.func76 #[.slice aq J.length ar,.slice aH ao.length aI] rfl ?_;(with_reducible refine(pS.calls k _ _ J _ _ ao true _ ?_ ?_ ?_ ?_ A6.out).mono ?_);exact cZ (Kd.C_below aR.out (wZ HB));exact aS.out;exact cZ (Kd.C_below cf.out (wZ HB));exact cg.out;rintro e w' ⟨rfl,⟨nd,rfl⟩⟩;refine⟨_,rfl,?_⟩));go_ret;exact vZ HB
   ·replace c7:=uZ c7;subst c7;rw[if_neg vM]at H;obtain rfl:=vU H;go_enter Tryz.func26,Tryz.ntmps26;go_wp2_with (first|(refine rz 2 #[.int .i64 af,.slice ak I.length al,.slice aq J.length ar] 26 ?_;intro bH hg fI aa hb;have ab:=bm (aa);have bJ:=bG HB hg;replace HB:=bW HB hb;clear hb aa hg)|(refine rz 3 #[.int .i64 av,.slice aE aj.length aF,.slice aH ao.length aI] 26 ?_;intro bO hg fJ aa hb;have aB:=bm (aa);have bT:=bG HB hg;replace HB:=bW HB hb;have aC:=bL ab hg;have aD:=bM ab hg;replace ab:=bU ab hb;clear hb aa hg;obtain⟨dz,dA,dB,dC,dD,dE⟩:=b3 ab;obtain⟨dF,dG,dH,dI,dJ,dK⟩:=b3 aB)|(refine gB (some 14) Tryz.func75 #[.slice ak I.length al,.slice aE aj.length aF] rfl ?_;(with_reducible refine(oL.calls k _ _ I _ _ aj true _ ?_ ?_ ?_ ?_ A4.out).mono ?_);exact cY az HB;exact aA.out;exact cY bD HB;exact bF.out;rintro e w' ⟨rfl,⟨nd,rfl⟩⟩;refine⟨_,rfl,?_⟩)|(refine gB (some 20) Tryz.func76 #[.slice aq J.length ar,.slice aH ao.length aI] rfl ?_;(with_reducible refine(pS.calls k _ _ J _ _ ao false _ ?_ ?_ ?_ ?_ A6.out).mono ?_);exact cZ (Kd.C_below aR.out (wZ HB));exact aS.out;exact cZ (Kd.C_below cf.out (wZ HB));exact cg.out;rintro e w' ⟨rfl,⟨nd,rfl⟩⟩;refine⟨_,rfl,?_⟩));go_ret;exact vZ HB
  ·replace c5:=uZ c5;subst c5;rw[if_neg vM]at H;obtain rfl:=vU H;go_enter Tryz.func26,Tryz.ntmps26;go_wp2_with (first|(refine rz 2 #[.int .i64 af,.slice ak I.length al,.slice aq J.length ar] 26 ?_;intro bH hg fK aa hb;have ab:=bm (aa);have bJ:=bG HB hg;replace HB:=bW HB hb;clear hb aa hg)|(refine rz 3 #[.int .i64 av,.slice aE aj.length aF,.slice aH ao.length aI] 26 ?_;intro bO hg fL aa hb;have aB:=bm (aa);have bT:=bG HB hg;replace HB:=bW HB hb;have aC:=bL ab hg;have aD:=bM ab hg;replace ab:=bU ab hb;clear hb aa hg;obtain⟨dL,dM,dN,dO,dP,dQ⟩:=b3 ab;obtain⟨dR,dS,dT,dU,dV,dW⟩:=b3 aB)|(refine gB (some 14) Tryz.func75 #[.slice ak I.length al,.slice aE aj.length aF] rfl ?_;(with_reducible refine(oL.calls k _ _ I _ _ aj false _ ?_ ?_ ?_ ?_ A4.out).mono ?_);exact cY az HB;exact aA.out;exact cY bD HB;exact bF.out;rintro e w' ⟨rfl,⟨nd,rfl⟩⟩;refine⟨_,rfl,?_⟩));go_ret;exact vZ HB
 ·obtain⟨an,ch⟩:=vV c3;obtain rfl:=vU H;go_enter Tryz.func26,Tryz.ntmps26;go_wp2_with (first|(refine rz 2 #[.int .i64 af,.slice ak I.length al,.slice aq J.length ar] 26 ?_;intro bH hg fM aa hb;have ab:=bm (aa);have bJ:=bG HB hg;replace HB:=bW HB hb;clear hb aa hg)|(refine rz 3 #[.int .i64 av,.slice aE aj.length aF,.slice aH ao.length aI] 26 ?_;intro bO hg fN aa hb;have aB:=bm (aa);have bT:=bG HB hg;replace HB:=bW HB hb;have aC:=bL ab hg;have aD:=bM ab hg;replace ab:=bU ab hb;clear hb aa hg;obtain⟨dX,dY,dZ,ea,eb,ec⟩:=b3 ab;obtain⟨ed,ee,ef,eg,eh,ei⟩:=b3 aB));go_ret;exact vZ HB
def ov.l0:Nat→List ByteArray→List ByteArray→Int→Option (Bool)
 |0,_,_,_=>none
 |k+1,x0,x1,x5=>if x5<(x0.length:Int)then(if 0≤x5 then(if x5<(x1.length:Int)then(if(rdOf ByteArray.empty x0 x5).toList=(rdOf ByteArray.empty x1 x5).toList then(ov.l0 k x0 x1 (wrap64 (x5+1)))else(some false))else(none))else(none))else(some true)
def ov.f (k:Nat) (l0:List ByteArray) (l1:List ByteArray):Option (Bool):=if(l0.length:Int)=(l1.length:Int)then(ov.l0 k l0 l1 0)else(some false)
theorem ov.jQ:∀k,(∀y0 y1 y2,qg (ov.l0 k y0 y1 y2) (ov.l0 (k+1) y0 y1 y2))
 |0=>fun _ _ _=> .z (by simp only[ov.l0])
 |k+1=>by
  have i0:=ov.jQ k;exact fun _ _ _=>by unfold ov.l0;infer_instance
instance ov.mo {k a0 a1}:qg (ov.f k a0 a1) (ov.f (k+1) a0 a1):=by have i0:=ov.jQ k;unfold ov.f;infer_instance
theorem ov.calls (k:Nat) (A0:Option Addr) (c0:Nat) (l0:List ByteArray) (A1:Option Addr) (c1:Nat) (l1:List ByteArray) (r:Bool) (w:World) (aT:Kd.C Kd.string w A0 l0.length l0) (aU:l0.length≤c0) (ej:Kd.C Kd.string w A1 l1.length l1) (ek:l1.length≤c1) (h:ov.f k l0 l1=some r):
  Calls Tryz.prog 27 #[.slice A0 l0.length c0,.slice A1 l1.length c1] w fun e w'=>e= .returned (.bool r)∧Drawn0 w w':=by
 have aV:=bm aT;have cU:=bm aU;clear aT aU;have el:=bm ej;have fO:=bm ek;clear ej ek;have H:=h;clear h;unfold ov.f at H;rcases iT H with⟨c3,H⟩|⟨c3,H⟩
 ·obtain⟨an,ch⟩:=vW c3;have en:(l0.length==l1.length)=true:=by first|simpa using c3|(simp at c3⊢;omega)
  clear c3;have H':=bm H;clear H;go_enter Tryz.func27,Tryz.ntmps27;go_wp2;repeat(go_quiet (fail);try go_wp2)
  go_loopg [5] k (fun kq v5 w'=>∃(j:Int),v5= .int .i64 j∧jX (ov.l0 kq l0 l1 j=some r)∧jX (kq≤k)∧Drawn0 w w')
  case atStart=>exact⟨(0),(by first|rfl|(simp;done)|(simp[*];done)),H',⟨Nat.le_refl _⟩,by repeat(first|exact Drawn0.refl _|apply Drawn0.step)⟩
  case round=>
   clear H';obtain⟨j,rfl,HA,au,⟨m1,rfl⟩⟩:=hrel;cases gk with
   |zero=>exact absurd HA.out (by simp[ov.l0])
   |succ k1=>
    have H:=HA.out;clear HA;simp only[ov.l0]at H;rcases vG H with⟨aG,H⟩|⟨aG,H⟩
    ·obtain⟨cq,H⟩:=vE H;obtain⟨b4,H⟩:=vE H;rcases iT H with⟨c7,H⟩|⟨c7,H⟩
     ·obtain⟨eo,ep⟩:=vW c7;clear c7;have H':=bm H;clear H;have aW:0≤(j:Int):=pG;have aY:j<(l0.length:Int):=pG;obtain⟨cV,cr,ct⟩:=Kd.at_string aV.out j aW aY;cases cr;replace aW:=vD aW;replace aY:=vD aY;have aZ:0≤(j:Int):=pG;have a6:j<(l1.length:Int):=pG;obtain⟨cW,cu,cv⟩:=Kd.at_string el.out j aZ a6;cases cu;replace aZ:=vD aZ;replace a6:=vD a6;go_wp2;repeat(go_quiet (fail);try go_wp2)
      go_roundg k1
      case measure=>have:=au.out;omega
      case rel=>exact⟨(wrap64 (j+1)),(by first|rfl|(simp;done)|(simp[*];done)),H',⟨by have:=au.out;omega⟩,by repeat(first|exact Drawn0.refl _|apply Drawn0.step)⟩
     ·obtain⟨eo,ep⟩:=vV c7;obtain rfl:=vU H;have aW:0≤(j:Int):=pG;have aY:j<(l0.length:Int):=pG;obtain⟨cV,cr,ct⟩:=Kd.at_string aV.out j aW aY;cases cr;replace aW:=vD aW;replace aY:=vD aY;have aZ:0≤(j:Int):=pG;have a6:j<(l1.length:Int):=pG;obtain⟨cW,cu,cv⟩:=Kd.at_string el.out j aZ a6;cases cu;replace aZ:=vD aZ;replace a6:=vD a6;go_wp2;repeat(go_quiet (fail);try go_wp2)
      go_ret;exact vY
    ·obtain rfl:=vU H;go_wp2;repeat(go_quiet (fail);try go_wp2)
     go_ret;exact vY
 ·obtain⟨an,ch⟩:=vV c3;have en:(l0.length==l1.length)=false:=by first|simpa using c3|(simp at c3⊢;omega)
  obtain rfl:=vU H;go_enter Tryz.func27,Tryz.ntmps27;go_wp2;repeat(go_quiet (fail);try go_wp2)
  go_ret;exact vY
def ll.l0:Nat→List Int→Int→Int→Option (Int×List Int)
 |0,_,_,_=>none
 |k+1,x0,x1,x5=>if x5<(x0.length:Int)then(if 0≤x5 then(ll.l0 k (x0.set (x5:Int).toNat x1) (wrap64 (x1+1)) (wrap64 (x5+1)))else(none))else(some (x1,x0))
def ll.f (k:Nat) (l0:List Int) (a1:Int):Option (Int×List Int):=ll.l0 k l0 a1 0
theorem ll.jQ:∀k,(∀y0 y1 y2,qg (ll.l0 k y0 y1 y2) (ll.l0 (k+1) y0 y1 y2))
 |0=>fun _ _ _=> .z (by simp only[ll.l0])
 |k+1=>by
  have i0:=ll.jQ k;exact fun _ _ _=>by unfold ll.l0;infer_instance
instance ll.mo {k a0 a1}:qg (ll.f k a0 a1) (ll.f (k+1) a0 a1):=by have i0:=ll.jQ k;unfold ll.f;infer_instance
theorem ll.mono:∀a0 a1 k,LeO (ll.f k a0 a1) (ll.f (k+1) a0 a1):=fun _ _ _=>ll.mo.h
theorem ll.calls (k:Nat) (ah:Nat→Prop) (ad:Value) (l0:List Int) (a1:Int) (r1:Int) (r2:List Int) (w0 w:World) (hB:Below w0.heap.size w0 w) (b5:Kd.R (Kd.int .i64) 3 w w0.heap.size ah ad l0) (h:ll.f k l0 a1=some (r1,r2)):
  Calls Tryz.prog 77 #[ad,.int .i64 a1] w fun e w'=>e= .returned (.int .i64 r1)∧Kd.R (Kd.int .i64) 3 w' w0.heap.size (fun k_=>(ah k_∨w.heap.size≤k_)) ad r2∧Below w0.heap.size w0 w'∧Kept w w' (fun k_=>ah k_):=by
 have cw:=bm (show Kd.R (Kd.int .i64) 3 w w0.heap.size (fun k_=>(ah k_∨w.heap.size≤k_)) ad l0 from Kd.R_mono b5 (fun k_ hk=>(.inl hk)));have HK:=bm (Kept.refl w (fun k_=>ah k_));have fb:=bm hB.size;have HB:=bm hB;clear hB;have H:=h;clear h;unfold ll.f at H;have H':=bm H;clear H;go_enter Tryz.func77,Tryz.ntmps77;go_wp2;go_loopg [1,5] k (fun kq v1 v5 w'=>∃(ae:List Int) (o:Int) (j:Int),v1= .int .i64 o∧v5= .int .i64 j∧jX (ll.l0 kq ae o j=some (r1,r2))∧jX (kq≤k)∧jX (Kd.R (Kd.int .i64) 3 w' w0.heap.size (fun k_=>(ah k_∨w.heap.size≤k_)) ad ae)∧jX (Kept w w' (fun k_=>ah k_))∧jX (Below w0.heap.size w0 w'))
 case atStart=>exact⟨(l0),(a1),(0),(by first|rfl|(simp;done)|(simp[*];done)),(by first|rfl|(simp;done)|(simp[*];done)),H',⟨Nat.le_refl _⟩,⟨by(repeat apply Kd.RS);exact cw.out⟩,⟨by repeat(with_reducible first|exact HK.out|apply Kept.alloc|apply Kept.drewN|apply Kept.drew)⟩,⟨wZ HB⟩⟩
 case round=>
  clear H';obtain⟨ae,o,j,rfl,rfl,HA,au,vQ,HK,HB⟩:=hrel;cases gk with
  |zero=>exact absurd HA.out (by simp[ll.l0])
  |succ k1=>
   have H:=HA.out;clear HA;simp only[ll.l0]at H;rcases vG H with⟨an,H⟩|⟨an,H⟩
   ·obtain⟨aG,H⟩:=vE H;obtain⟨cx,bV⟩:∃y_:List Int,y_=(ae.set (j:Int).toNat o):=⟨_,rfl⟩;rw[←bV]at H
    have cX:=bm bV;clear bV;have H':=bm H;clear H;obtain⟨cQ,b6,b7⟩:=Kd.R_slice vQ.out;subst b7;have p5:0≤(j:Int):=pG;have q5:(j:Int)<((ae.length:Int):Int):=pG;obtain⟨b8,cy,b9,er,fc,fP,et⟩:=Kd.R_form vQ.out (by omega);(first|cases b9|(injection b9 with xR EJ EK;(first|subst xR|(injection xR with xR;subst xR));subst EK;clear EJ));have fe:=bm er;have fQ:=bm et;clear er fc et;have ff:=bm (show(ah b8∨w.heap.size≤b8) from(vQ.out.1 _ rfl));obtain⟨fg,fh⟩:=Kd.R_celln 0 vQ.out (j:Int) p5 q5;replace p5:=vD p5;replace q5:=vD q5;have da:=Kd.R_putg vQ.out (j:Int) o;go_wp2_with (first|((with_reducible refine gate_store (t:=3) (p:=15) rfl ?_);refine store_event (t:=3) (p:=15) (v:=?Kh) (w1:=(wr.setCell ⟨b8,(j:Int).toNat,none⟩ (.int .i64 o))) ?hg ?ho ?hn ?hr ?_;(case ho=>rfl);(case hg=>rfl);(case hn=>rfl);(case hr=>first|(go_simp;done)|(go_simp;rfl));intro w8 hw;have hg:wr.grownBy w8 (some b8):=(by rw[hw];exact da.2);have cz:Kd.R (Kd.int .i64) 3 w8 w0.heap.size (fun k_=>(ah k_∨w.heap.size≤k_)) (.slice (some ⟨b8,0,none⟩) ae.length b6) cx:=(by rw[hw,cX.out];exact da.1);clear da;replace HB:=bm ((by rw[hw];exact CH (HB.out) fe.out:Below w0.heap.size w0 w8));replace HK:=bm (Kept.of_grown (S:=(fun k_=>ah k_)) hg (by repeat(with_reducible first|exact HK.out|apply Kept.alloc|apply Kept.drewN|apply Kept.drew)) (fun k_ e_=>(vQ.out.1 k_ e_)));replace vQ:=bm (cz);clear hg hw cz));go_roundg k1
    case measure=>have:=au.out;omega
    case rel=>exact⟨(cx),(wrap64 (o+1)),(wrap64 (j+1)),(by first|rfl|(simp;done)|(simp[*];done)),(by first|rfl|(simp;done)|(simp[*];done)),H',⟨by have:=au.out;omega⟩,⟨by(repeat apply Kd.RS);exact vQ.out⟩,⟨by repeat(with_reducible first|exact HK.out|apply Kept.alloc|apply Kept.drewN|apply Kept.drew)⟩,⟨wZ HB⟩⟩
   ·obtain⟨rfl,rfl⟩:=s2 H;obtain⟨fi,fj,db⟩:=Kd.R_slice vQ.out;subst db;go_wp2;go_ret;exact⟨by first|rfl|(simp[*,jS,jT]<;>rfl),by(repeat apply Kd.RS);exact vQ.out,wZ HB,by repeat(with_reducible first|exact HK.out|apply Kept.alloc|apply Kept.drewN|apply Kept.drew)⟩
def la.l0:Nat→List (List Int)→Int→Int→Option (Int×List (List Int))
 |0,_,_,_=>none
 |k+1,xs,a,i=>if i<(xs.length:Int)then(if 0≤i then((ll.f k (xs.getD i.toNat []) a).bind fun b=>la.l0 k (xs.set i.toNat b.2) b.1 (wrap64 (i+1)))else none)else some (a,xs)
def la.f (k:Nat) (l0:List (List Int)) (a1:Int):Option (Int×List (List Int)):=la.l0 k l0 a1 0
theorem la.jQ:∀k y0 y1 y2,LeO (la.l0 k y0 y1 y2) (la.l0 (k+1) y0 y1 y2)
 |0,_,_,_=>fun r h=>by simp[la.l0]at h
 |k+1,y0,y1,y2=>by
  unfold la.l0;exact LeO.ite (LeO.ite (LeO.bind (ll.mono _ _ _) (fun _=>la.jQ k _ _ _)) (LeO.refl _)) (LeO.refl _)
theorem la.mono:∀a0 a1 k,LeO (la.f k a0 a1) (la.f (k+1) a0 a1):=fun _ _ k=>la.jQ k _ _ _
instance la.mo {k a0 a1}:qg (la.f k a0 a1) (la.f (k+1) a0 a1):=⟨la.mono a0 a1 k⟩
theorem la.calls (k:Nat) (ah:Nat→Prop) (ad:Value) (l0:List (List Int)) (a1:Int) (r1:Int) (r2:List (List Int)) (w0 w:World) (hB:Below w0.heap.size w0 w) (b5:Kd.S (Kd.slice 3 (Kd.int .i64)) 23 w w0.heap.size ah ad l0) (h:la.f k l0 a1=some (r1,r2)):
  Calls Tryz.prog 78 #[ad,.int .i64 a1] w fun e w'=>e= .returned (.int .i64 r1)∧Kd.S (Kd.slice 3 (Kd.int .i64)) 23 w' w0.heap.size (fun k_=>(ah k_∨w.heap.size≤k_)) ad r2∧Below w0.heap.size w0 w'∧Kept w w' (fun k_=>ah k_):=by
 have cw:=bm (Kd.S_mono (ok':=fun k_=>(ah k_∨w.heap.size≤k_)) b5 (fun k_ hk=> .inl hk));have HK:=bm (Kept.refl w (fun k_=>ah k_));have HB:=bm hB;have H':=bm (show la.l0 k l0 a1 0=some (r1,r2) from h);clear hB h b5;go_enter Tryz.func78,Tryz.ntmps78;go_wp2;go_loopg [1,5] k (fun kq v1 v5 w'=>∃(ae:List (List Int)) (o:Int) (j:Int),v1= .int .i64 o∧v5= .int .i64 j∧jX (la.l0 kq ae o j=some (r1,r2))∧jX (kq≤k)∧jX (Kd.S (Kd.slice 3 (Kd.int .i64)) 23 w' w0.heap.size (fun k_=>(ah k_∨w.heap.size≤k_)) ad ae)∧jX (Kept w w' (fun k_=>ah k_))∧jX (Below w0.heap.size w0 w'))
 case atStart=>exact⟨l0,a1,0,(by first|rfl|(simp;done)|(simp[*];done)),(by first|rfl|(simp;done)|(simp[*];done)),H',⟨Nat.le_refl _⟩,⟨by(repeat apply Kd.SS);exact cw.out⟩,⟨by repeat(with_reducible first|exact HK.out|apply Kept.alloc|apply Kept.drewN|apply Kept.drew)⟩,⟨wZ HB⟩⟩
 case round=>
  clear H';obtain⟨ae,o,j,rfl,rfl,HA,au,vQ,HK,HB⟩:=hrel;cases gk with
  |zero=>exact absurd HA.out (by simp[la.l0])
  |succ k1=>
   have H:=HA.out;clear HA;simp only[la.l0]at H;rcases iT H with⟨c3,H⟩|⟨c3,H⟩
   ·have an:=vC c3;obtain⟨c4,H⟩:=iN H;have aG:=vC c4;have cA:=Option.bind_eq_some_iff.mp H;clear H;obtain⟨⟨b1,b2⟩,hb,H⟩:=cA;have H':=bm H;clear H;obtain⟨b8,cy,b9,_,_,_,_⟩:=Kd.S_form vQ.out (by omega);subst b9;obtain⟨oki,cs,fk,hM,cB,cS,hH⟩:=Kd.S_lend vQ.out ([]:List Int) j c4 c3;obtain⟨v,rfl,hRv⟩:=hM;obtain⟨A0,c0,rfl⟩:=Kd.R_slice hRv;have hx:=cB 0 _ rfl;rw[show j.toNat*(Kd.slice 3 (Kd.int .i64)).sz+0=j.toNat from by show j.toNat*1+0=_;omega]at hx;generalize ae.getD j.toNat []=y at hx hRv hb hH;have HH:=bm hH;have HR:=bm hRv;have eu:=bm cS;have ev:=bm hb;clear hH hRv cB fk cS hb;have p5:=vD c4;have q5:=vD c3;clear c3 c4;go_wp2_with (first|(go_at_call 77;(with_reducible refine(ll.calls k1 oki _ _ o b1 b2 w0 _ HB.out HR.out ev.out).mono ?_);rintro e w8 ⟨rfl,ew,ey,dc⟩;have fl:=bm (Kd.H_back (Kd.H_kept (Kd.H_widen HH.out) dc (fun k_ _ hn hk=>hn (.inl hk))) (x':=b2) ⟨_,rfl,ew⟩ (fun k_ hk=>hk.elim .inl (fun h8=> .inr ⟨.inr (Nat.le_trans HK.out.1 h8),h8⟩)));have fm:=bm (Kept.then_ HK.out dc (fun k_ hk=>(eu.out k_ hk).1));have fo:=bm ey;clear ew ey dc HH HR eu ev HK HB vQ));go_roundg k1
    case measure=>have:=au.out;omega
    case rel=>exact⟨_,b1,(wrap64 (j+1)),(by first|rfl|(simp;done)|(simp[*];done)),(by first|rfl|(simp;done)|(simp[*];done)),H',⟨by have:=au.out;omega⟩,⟨by(repeat apply Kd.SS);exact fl.out⟩,⟨by repeat(with_reducible first|exact fm.out|apply Kept.alloc|apply Kept.drewN|apply Kept.drew)⟩,⟨wZ fo⟩⟩
   ·have an:=vB c3;clear c3;obtain⟨rfl,rfl⟩:=s2 H;obtain⟨fi,fj,db⟩:=Kd.S_slice vQ.out;subst db;go_wp2;go_ret;exact⟨by first|rfl|(simp;done)|(simp[*];done),by(repeat apply Kd.SS);exact vQ.out,wZ HB,by repeat(with_reducible first|exact HK.out|apply Kept.alloc|apply Kept.drewN|apply Kept.drew)⟩
def qF.f (k:Nat) (Ki:Int) (I:List Int) (J:List (List Int)) (a1:Int):Option (Int×List Int×List (List Int)):=(ll.f k I a1).bind fun b1=>((la.f k J b1.1).bind fun b2=>(some (b2.1,b1.2,b2.2)))
theorem qF.mono:∀a0 a1 a2 a3 k,LeO (qF.f k a0 a1 a2 a3) (qF.f (k+1) a0 a1 a2 a3):=fun _ _ _ _ _=>LeO.bind (ll.mono _ _ _) (fun _=>LeO.bind (la.mono _ _ _) (fun _=>LeO.refl _))
instance qF.mo {k a0 a1 a2 a3}:qg (qF.f k a0 a1 a2 a3) (qF.f (k+1) a0 a1 a2 a3):=⟨qF.mono a0 a1 a2 a3 k⟩
theorem qF.calls (k:Nat) (af:Int) (aL aM:Nat→Prop) (dd de:Value) (I:List Int) (J:List (List Int)) (a1:Int) (r1:Int) (r2:List Int) (r3:List (List Int)) (w0 w:World) (hB:Below w0.heap.size w0 w) (ez:Kd.R (Kd.int .i64) 3 w w0.heap.size aL dd I) (eA:Kd.S (Kd.slice 3 (Kd.int .i64)) 23 w w0.heap.size aM de J) (hd:∀k_,aM k_→¬aL k_) (h:qF.f k af I J a1=some (r1,r2,r3)):
  Calls Tryz.prog 28 #[.agg #[.int .i64 af,dd,de],.int .i64 a1] w fun e w'=>e= .returned (.int .i64 r1)∧Kd.R (Kd.int .i64) 3 w' w0.heap.size (fun k_=>(aL k_∨w.heap.size≤k_)) dd r2∧Kd.S (Kd.slice 3 (Kd.int .i64)) 23 w' w0.heap.size (fun k_=>(aM k_∨w.heap.size≤k_)) de r3∧Below w0.heap.size w0 w'∧Kept w w' (fun k_=>aL k_∨aM k_):=by
 have fx:=Tryz.underlying26;have a7:=bm (Kd.R_mono (ok':=fun k_=>aL k_∧k_<w.heap.size) (Kd.R_bound ez) (fun k_ hk=>⟨hk.1,hk.2.2.1⟩));have a8:=bm (Kd.S_mono (ok':=fun k_=>aM k_∧k_<w.heap.size) (Kd.S_bound eA) (fun k_ hk=>⟨hk.1,hk.2.2.1⟩));clear ez eA;have HD:=bm hd;clear hd;have HK:=bm (Kept.refl w (fun k_=>aL k_∨aM k_));have HB:=bm hB;clear hB;have cA:=Option.bind_eq_some_iff.mp (show((ll.f k I a1).bind fun b1=>((la.f k J b1.1).bind fun b2=>(some (b2.1,b1.2,b2.2))))=some (r1,r2,r3) from h);clear h;obtain⟨⟨t116,t117⟩,eB,H⟩:=cA;have cA:=Option.bind_eq_some_iff.mp H;clear H;obtain⟨⟨t118,t119⟩,eC,H⟩:=cA;have A3:=bm eB;have A4:=bm (show la.f k J t116=some (t118,t119) from eC);clear eB eC;obtain⟨rfl,rfl,rfl⟩:=s3 H;obtain⟨df,cy,b9⟩:=Kd.R_slice a7.out;subst b9;obtain⟨cQ,b6,b7⟩:=Kd.S_slice a8.out;subst b7;go_enter Tryz.func28,Tryz.ntmps28;go_wp2_with (first|(refine rz 2 #[.int .i64 af,.slice df I.length cy,.slice cQ J.length b6] 26 ?_;intro dh hg w6 aa hb;have bw:=bR a7 hb;have eD:=bS a8 hb;have cC:=bm (Kept.below (S:=(fun k_=>aL k_∨aM k_)) (by repeat(with_reducible first|exact HK.out|apply Kept.alloc|apply Kept.drewN|apply Kept.drew)) hb);have bx:=bW HB hb;have bz:=bm (aa);have eE:=bm ((by rw[hg];exact(by first|exact HK.out.1|exact(show Kept w _ (fun k_=>aL k_∨aM k_) from by repeat(with_reducible first|exact HK.out|apply Kept.alloc|apply Kept.drewN|apply Kept.drew)).1):w.heap.size≤dh));clear a7;clear a8;clear HK;clear HB;have a7:=bw;have a8:=eD;have HK:=cC;have HB:=bx;have ba:=bz;have di:=eE;clear bw cC bx bz eE eD;clear hb aa hg;obtain⟨eT,eU,eV,eW,eX,eY⟩:=b3 ba)|(refine gB (some 8) Tryz.func77 #[.slice df I.length cy,.int .i64 a1] rfl ?_;(with_reducible refine(ll.calls k (fun k_=>aL k_∧k_<w.heap.size) (.slice df I.length cy) I a1 t116 t117 w0 _ ?_ ?_ A3.out).mono ?_);exact HB.out;exact a7.out;rintro e w8 ⟨rfl,eF,hb,bA⟩;refine⟨_,rfl,?_⟩;have bw:=bm (Kd.R_mono (ok':=fun k_=>(aL k_∨w.heap.size≤k_)) eF (fun k_ hk=>hk.elim (fun h_=> .inl h_.1) (fun h_=> .inr (Nat.le_trans HK.out.1 h_))));have cD:=bm (Kd.S_kept a8.out bA (fun k_ hk hs=>HD.out k_ hk.1 hs.1));have cC:=bm (blk_kept ba.out bA (fun cE=>Nat.not_lt.2 di.out cE.2));have bx:=bm (Kept.then_ (S:=(fun k_=>aL k_∨aM k_)) HK.out bA (fun k_ cE=>Or.inl (Or.inl cE.1)));have bz:=bm (hb);clear a7;clear a8;clear ba;clear HK;clear HB;have a7:=bw;have a8:=cD;have ba:=cC;have HK:=bx;have HB:=bz;clear bw cC bx bz cD;clear hb bA eF;obtain⟨eZ,e0,e1,e2,e3,e4⟩:=b3 ba)|(refine gB (some 12) Tryz.func78 #[.slice cQ J.length b6,.int .i64 t116] rfl ?_;(with_reducible refine(la.calls k (fun k_=>aM k_∧k_<w.heap.size) (.slice cQ J.length b6) J t116 t118 t119 w0 _ ?_ ?_ A4.out).mono ?_);exact HB.out;exact a8.out;rintro e w9 ⟨rfl,eG,hb,bA⟩;refine⟨_,rfl,?_⟩;have bw:=bm (Kd.R_kept a7.out bA (fun k_ hk hs=>hk.elim (fun h1=>HD.out k_ hs.1 h1) (fun h2=>Nat.not_lt.2 h2 hs.2)));have cD:=bm (Kd.S_mono (ok':=fun k_=>(aM k_∨w.heap.size≤k_)) eG (fun k_ hk=>hk.elim (fun h_=> .inl h_.1) (fun h_=> .inr (Nat.le_trans HK.out.1 h_))));have bx:=bm (Kept.then_ (S:=(fun k_=>aL k_∨aM k_)) HK.out bA (fun k_ cE=>Or.inl (Or.inr cE.1)));have bz:=bm (hb);clear a7;clear a8;clear HK;clear HB;have a7:=bw;have a8:=cD;have HK:=bx;have HB:=bz;clear bw bx bz cD;clear hb bA eG))
 go_ret;exact⟨by first|rfl|(simp[*,jS,jT]<;>rfl),a7.out,a8.out,HB.out,HK.out⟩
def oC.l0:Nat→Int→ByteArray→Option (ByteArray)
 |0,_,_=>none
 |k+1,x0,x3=>if x0>0 then((some (([(wrap64 (48+(Int.tmod x0 10)))%256]:List Int):List Int)).bind fun bB=>(if(strOfNums bB).size+x3.size≤9223372036854775807 then(oC.l0 k (wrap64 (Int.tdiv x0 10)) ((strOfNums bB)++x3))else(none)))else(if 1+x3.size≤9223372036854775807 then(some ((⟨#[109]⟩:ByteArray)++x3))else(none))
def oC.f (k:Nat) (a0:Int):Option (ByteArray):=if a0≤0 then(some (⟨#[109,48]⟩:ByteArray))else(oC.l0 k a0 (⟨#[]⟩:ByteArray))
theorem oC.jQ:∀k,(∀y0 y1,qg (oC.l0 k y0 y1) (oC.l0 (k+1) y0 y1))
 |0=>fun _ _=> .z (by simp only[oC.l0])
 |k+1=>by
  have i0:=oC.jQ k;exact fun _ _=>by unfold oC.l0;infer_instance
instance oC.mo {k a0}:qg (oC.f k a0) (oC.f (k+1) a0):=by have i0:=oC.jQ k;unfold oC.f;infer_instance
theorem oC.calls (k:Nat) (a0:Int) (r:ByteArray) (w:World) (h:oC.f k a0=some r):
  Calls Tryz.prog 79 #[.int .i64 a0] w fun e w'=>e= .returned (.string r)∧Below w.heap.size w w':=by
 have HB:=bm (Below.refl w.heap.size w);have H:=h;clear h;unfold oC.f at H;rcases vG H with⟨eH,H⟩|⟨eH,H⟩
 ·obtain rfl:=vU H;go_enter Tryz.func79,Tryz.ntmps79;go_wp2;go_ret;exact vZ HB
 ·have H':=bm H;clear H;go_enter Tryz.func79,Tryz.ntmps79;go_wp2;go_loopg [0,3] k (fun kq v0 v3 w'=>∃(ae:Int) (bn:ByteArray),v0= .int .i64 ae∧v3= .string bn∧jX (oC.l0 kq ae bn=some r)∧jX (kq≤k)∧jX (Below w.heap.size w w'))
  case atStart=>exact⟨(a0),((⟨#[]⟩:ByteArray)),(by first|rfl|(simp;done)|(simp[*];done)),(by first|rfl|(simp;done)|(simp[*];done)),H',⟨Nat.le_refl _⟩,⟨wZ HB⟩⟩
  case round=>
   clear H';obtain⟨ae,bn,rfl,rfl,HA,au,HB⟩:=hrel;cases gk with
   |zero=>exact absurd HA.out (by simp[oC.l0])
   |succ k1=>
    have H:=HA.out;clear HA;simp only[oC.l0]at H;rcases vG H with⟨an,H⟩|⟨an,H⟩
    ·obtain⟨bB,cF,H⟩:=bY H;obtain⟨c4,H⟩:=iN H;have aG:=vD c4;have fy:=vC c4;try have fz:(9223372036854775807<(strOfNums bB).size+bn.size)=False:=eq_false (Nat.not_lt.2 c4)
     have H':=bm H;clear H;go_wp2_with (first|((with_reducible refine gate_dst (N:=12) rfl ?_);refine Kd.R_lit (Kd.int .u8) _ 5 ?hg (N:=12) ?hd (xs:=([(wrap64 (48+(Int.tmod ae 10)))%256]:List Int)) (inner:=[.int .u8 ((wrap64 (48+(Int.tmod ae 10)))%256)]) (ok:=fun _=>True) (okp:=fun _=>True) ?hr ?hp (fun _ hk=>hk) trivial (Below.refl _ _) (Nat.le_refl _) (by simp) ?_;(case hd=>rfl);(case hg=>rfl);(case hr=>first|(go_simp;done)|(go_simp;rfl));(case hp=>exact(Reps.one (show Kd.M (Kd.int .u8) _ _ _ ((wrap64 (48+(Int.tmod ae 10)))%256) [.int .u8 ((wrap64 (48+(Int.tmod ae 10)))%256)] from rfl) (Reps.none _ _)));intro fA w5 cG hb fp dj;clear fp dj;(first|rw[←cF.out]at cG|(simp only[Int.reduceToNat]at cG;rw[←cF.out]at cG));have dk:=vX cG HB;replace HB:=bW HB hb;clear hb cG;have fB:=own_string (P:=Tryz.prog) Tryz.underlying22 Tryz.underlying5 Tryz.underlying9 (Kd.own_of_R dk.out)));go_roundg k1
     case measure=>have:=au.out;omega
     case rel=>exact⟨(wrap64 (Int.tdiv ae 10)),((strOfNums bB)++bn),(by first|rfl|(simp;done)|(simp[*];done)),(by first|rfl|(simp;done)|(simp[*];done)),H',⟨by have:=au.out;omega⟩,⟨wZ HB⟩⟩
    ·obtain⟨c8,H⟩:=iN H;have cT:=vD c8;have fC:=vC c8;try have fD:(9223372036854775807<1+bn.size)=False:=eq_false (Nat.not_lt.2 c8)
     obtain rfl:=vU H;go_wp2;go_ret;exact vZ HB
def ld.l0:Nat→List ByteArray→Int→Int→Option (Int×List ByteArray)
 |0,_,_,_=>none
 |k+1,x0,x1,x5=>if x5<(x0.length:Int)then((oC.f k x1).bind fun bo=>(if 0≤x5 then(ld.l0 k (x0.set (x5:Int).toNat bo) (wrap64 (x1+1)) (wrap64 (x5+1)))else(none)))else(some (x1,x0))
def ld.f (k:Nat) (l0:List ByteArray) (a1:Int):Option (Int×List ByteArray):=ld.l0 k l0 a1 0
theorem ld.jQ:∀k,(∀y0 y1 y2,qg (ld.l0 k y0 y1 y2) (ld.l0 (k+1) y0 y1 y2))
 |0=>fun _ _ _=> .z (by simp only[ld.l0])
 |k+1=>by
  have i0:=ld.jQ k;exact fun _ _ _=>by unfold ld.l0;infer_instance
instance ld.mo {k a0 a1}:qg (ld.f k a0 a1) (ld.f (k+1) a0 a1):=by have i0:=ld.jQ k;unfold ld.f;infer_instance
theorem ld.calls (k:Nat) (ah:Nat→Prop) (ad:Value) (l0:List ByteArray) (a1:Int) (r1:Int) (r2:List ByteArray) (w0 w:World) (hB:Below w0.heap.size w0 w) (b5:Kd.R Kd.string 9 w w0.heap.size ah ad l0) (h:ld.f k l0 a1=some (r1,r2)):
  Calls Tryz.prog 29 #[ad,.int .i64 a1] w fun e w'=>e= .returned (.int .i64 r1)∧Kd.R Kd.string 9 w' w0.heap.size (fun k_=>(ah k_∨w.heap.size≤k_)) ad r2∧Below w0.heap.size w0 w'∧Kept w w' (fun k_=>ah k_):=by
 have cw:=bm (show Kd.R Kd.string 9 w w0.heap.size (fun k_=>(ah k_∨w.heap.size≤k_)) ad l0 from Kd.R_mono b5 (fun k_ hk=>(.inl hk)));have HK:=bm (Kept.refl w (fun k_=>ah k_));have fb:=bm hB.size;have HB:=bm hB;clear hB;have H:=h;clear h;unfold ld.f at H;have H':=bm H;clear H;go_enter Tryz.func29,Tryz.ntmps29;go_wp2;go_loopg [1,5] k (fun kq v1 v5 w'=>∃(ae:List ByteArray) (o:Int) (j:Int),v1= .int .i64 o∧v5= .int .i64 j∧jX (ld.l0 kq ae o j=some (r1,r2))∧jX (kq≤k)∧jX (Kd.R Kd.string 9 w' w0.heap.size (fun k_=>(ah k_∨w.heap.size≤k_)) ad ae)∧jX (Kept w w' (fun k_=>ah k_))∧jX (Below w0.heap.size w0 w'))
 case atStart=>exact⟨(l0),(a1),(0),(by first|rfl|(simp;done)|(simp[*];done)),(by first|rfl|(simp;done)|(simp[*];done)),H',⟨Nat.le_refl _⟩,⟨by(repeat apply Kd.RS);exact cw.out⟩,⟨by repeat(with_reducible first|exact HK.out|apply Kept.alloc|apply Kept.drewN|apply Kept.drew)⟩,⟨wZ HB⟩⟩
 case round=>
  clear H';obtain⟨ae,o,j,rfl,rfl,HA,au,vQ,HK,HB⟩:=hrel;cases gk with
  |zero=>exact absurd HA.out (by simp[ld.l0])
  |succ k1=>
   have H:=HA.out;clear HA;simp only[ld.l0]at H;rcases vG H with⟨an,H⟩|⟨an,H⟩
   ·obtain⟨bo,A4,H⟩:=bE H;try dsimp only at H
    obtain⟨cq,H⟩:=vE H;obtain⟨cH,bZ⟩:∃y_:List ByteArray,y_=(ae.set (j:Int).toNat bo):=⟨_,rfl⟩;rw[←bZ]at H
    have dm:=bm bZ;clear bZ;have H':=bm H;clear H;obtain⟨fR,fq,fr⟩:=Kd.R_slice vQ.out;subst fr;go_wp2_with (first|(refine gB (some 15) Tryz.func79 #[.int .i64 o] rfl ?_;(with_reducible refine(oC.calls k1 o bo _ A4.out).mono ?_);rintro e w8 ⟨rfl,hb⟩;refine⟨_,rfl,?_⟩;replace vQ:=bR vQ hb;replace HK:=bm (Kept.below (S:=(fun k_=>ah k_)) (by repeat(with_reducible first|exact HK.out|apply Kept.alloc|apply Kept.drewN|apply Kept.drew)) hb);replace HB:=bW HB hb;clear hb;have p6:0≤(j:Int):=pG;have q6:(j:Int)<((ae.length:Int):Int):=pG;obtain⟨cI,b6,b7,eI,fs,fS,eJ⟩:=Kd.R_form vQ.out (by omega);(first|cases b7|(injection b7 with xR EJ EK;(first|subst xR|(injection xR with xR;subst xR));subst EK;clear EJ));have ft:=bm eI;have fT:=bm eJ;clear eI fs eJ;have fu:=bm (show(ah cI∨w.heap.size≤cI) from(vQ.out.1 _ rfl));obtain⟨fv,fw⟩:=Kd.R_celln (⟨#[]⟩:ByteArray) vQ.out (j:Int) p6 q6;replace p6:=vD p6;replace q6:=vD q6;obtain⟨fE,fF⟩:=Kd.R_celln (⟨#[]⟩:ByteArray) vQ.out (j:Int) (pG) (pG);have dn:=Kd.R_putg vQ.out (j:Int) bo)|((with_reducible refine gate_store (t:=9) (p:=16) rfl ?_);refine store_event (t:=9) (p:=16) (v:=?Jz) (w1:=(w8.setCell ⟨cI,(j:Int).toNat,none⟩ (.string bo))) ?hg ?ho ?hn ?hr ?_;(case ho=>rfl);(case hg=>rfl);(case hn=>rfl);(case hr=>first|(go_simp;done)|(go_simp;rfl));intro cR hw;have hg:w8.grownBy cR (some cI):=(by rw[hw];exact dn.2);have cz:Kd.R Kd.string 9 cR w0.heap.size (fun k_=>(ah k_∨w.heap.size≤k_)) (.slice (some ⟨cI,0,none⟩) ae.length fq) cH:=(by rw[hw,dm.out];exact dn.1);clear dn;replace HB:=bm ((by rw[hw];exact CH (HB.out) ft.out:Below w0.heap.size w0 cR));replace HK:=bm (Kept.of_grown (S:=(fun k_=>ah k_)) hg (by repeat(with_reducible first|exact HK.out|apply Kept.alloc|apply Kept.drewN|apply Kept.drew)) (fun k_ e_=>(vQ.out.1 k_ e_)));replace vQ:=bm (cz);clear hg hw cz));go_roundg k1
    case measure=>have:=au.out;omega
    case rel=>exact⟨(cH),(wrap64 (o+1)),(wrap64 (j+1)),(by first|rfl|(simp;done)|(simp[*];done)),(by first|rfl|(simp;done)|(simp[*];done)),H',⟨by have:=au.out;omega⟩,⟨by(repeat apply Kd.RS);exact vQ.out⟩,⟨by repeat(with_reducible first|exact HK.out|apply Kept.alloc|apply Kept.drewN|apply Kept.drew)⟩,⟨wZ HB⟩⟩
   ·obtain⟨rfl,rfl⟩:=s2 H;obtain⟨fG,fH,eK⟩:=Kd.R_slice vQ.out;subst eK;go_wp2;go_ret;exact⟨by first|rfl|(simp[*,jS,jT]<;>rfl),by(repeat apply Kd.RS);exact vQ.out,wZ HB,by repeat(with_reducible first|exact HK.out|apply Kept.alloc|apply Kept.drewN|apply Kept.drew)⟩
def oE.l0:Nat→List Int→Int→Int→Option (Int)
 |0,_,_,_=>none
 |k+1,x0,x1,x5=>if x5<(x0.length:Int)then(if 0≤x5 then(if(rd x0 x5)=x1 then(oE.l0 k x0 (wrap64 (x1+1)) (wrap64 (x5+1)))else(some (-1)))else(none))else(some x1)
def oE.f (k:Nat) (l0:List Int) (a1:Int):Option (Int):=oE.l0 k l0 a1 0
theorem oE.jQ:∀k,(∀y0 y1 y2,qg (oE.l0 k y0 y1 y2) (oE.l0 (k+1) y0 y1 y2))
 |0=>fun _ _ _=> .z (by simp only[oE.l0])
 |k+1=>by
  have i0:=oE.jQ k;exact fun _ _ _=>by unfold oE.l0;infer_instance
instance oE.mo {k a0 a1}:qg (oE.f k a0 a1) (oE.f (k+1) a0 a1):=by have i0:=oE.jQ k;unfold oE.f;infer_instance
theorem oE.calls (k:Nat) (A0:Option Addr) (c0:Nat) (l0:List Int) (a1:Int) (r:Int) (w:World) (aT:Kd.C (Kd.int .i64) w A0 l0.length l0) (aU:l0.length≤c0) (h:oE.f k l0 a1=some r):
  Calls Tryz.prog 80 #[.slice A0 l0.length c0,.int .i64 a1] w fun e w'=>e= .returned (.int .i64 r)∧Drawn0 w w':=by
 have aV:=bm aT;have cU:=bm aU;clear aT aU;have H:=h;clear h;unfold oE.f at H;have H':=bm H;clear H;go_enter Tryz.func80,Tryz.ntmps80;go_wp2;go_loopg [1,5] k (fun kq v1 v5 w'=>∃(o:Int) (j:Int),v1= .int .i64 o∧v5= .int .i64 j∧jX (oE.l0 kq l0 o j=some r)∧jX (kq≤k)∧Drawn0 w w')
 case atStart=>exact⟨(a1),(0),(by first|rfl|(simp;done)|(simp[*];done)),(by first|rfl|(simp;done)|(simp[*];done)),H',⟨Nat.le_refl _⟩,by repeat(first|exact Drawn0.refl _|apply Drawn0.step)⟩
 case round=>
  clear H';obtain⟨o,j,rfl,rfl,HA,au,⟨m1,rfl⟩⟩:=hrel;cases gk with
  |zero=>exact absurd HA.out (by simp[oE.l0])
  |succ k1=>
   have H:=HA.out;clear HA;simp only[oE.l0]at H;rcases vG H with⟨an,H⟩|⟨an,H⟩
   ·obtain⟨aG,H⟩:=vE H;rcases iT H with⟨c5,H⟩|⟨c5,H⟩
    ·obtain⟨cq,eL⟩:=vW c5;clear c5;have H':=bm H;clear H;have bb:0≤(j:Int):=pG;have bc:j<(l0.length:Int):=pG;obtain⟨dp,cJ,cK⟩:=Kd.at_int aV.out j bb bc;cases cJ;replace bb:=vD bb;replace bc:=vD bc;go_wp2;go_roundg k1
     case measure=>have:=au.out;omega
     case rel=>exact⟨(wrap64 (o+1)),(wrap64 (j+1)),(by first|rfl|(simp;done)|(simp[*];done)),(by first|rfl|(simp;done)|(simp[*];done)),H',⟨by have:=au.out;omega⟩,by repeat(first|exact Drawn0.refl _|apply Drawn0.step)⟩
    ·obtain⟨cq,eL⟩:=vV c5;obtain rfl:=vU H;have bb:0≤(j:Int):=pG;have bc:j<(l0.length:Int):=pG;obtain⟨dp,cJ,cK⟩:=Kd.at_int aV.out j bb bc;cases cJ;replace bb:=vD bb;replace bc:=vD bc;go_wp2;go_ret;exact vY
   ·obtain rfl:=vU H;go_wp2;go_ret;exact vY
def oH.l0:Nat→List (List Int)→Int→Int→Option (Int)
 |0,_,_,_=>none
 |k+1,x0,x1,x5=>if x5<(x0.length:Int)then(if 0≤x5 then((oE.f k (qi x0 x5) x1).bind fun bp=>(if bp<0 then(some (-1))else(oH.l0 k x0 bp (wrap64 (x5+1)))))else(none))else(some x1)
def oH.f (k:Nat) (l0:List (List Int)) (a1:Int):Option (Int):=oH.l0 k l0 a1 0
theorem oH.jQ:∀k,(∀y0 y1 y2,qg (oH.l0 k y0 y1 y2) (oH.l0 (k+1) y0 y1 y2))
 |0=>fun _ _ _=> .z (by simp only[oH.l0])
 |k+1=>by
  have i0:=oH.jQ k;exact fun _ _ _=>by unfold oH.l0;infer_instance
instance oH.mo {k a0 a1}:qg (oH.f k a0 a1) (oH.f (k+1) a0 a1):=by have i0:=oH.jQ k;unfold oH.f;infer_instance
theorem oH.calls (k:Nat) (A0:Option Addr) (c0:Nat) (l0:List (List Int)) (a1:Int) (r:Int) (w:World) (aT:Kd.C (Kd.slice 3 (Kd.int .i64)) w A0 l0.length l0) (aU:l0.length≤c0) (h:oH.f k l0 a1=some r):
  Calls Tryz.prog 81 #[.slice A0 l0.length c0,.int .i64 a1] w fun e w'=>e= .returned (.int .i64 r)∧Drawn0 w w':=by
 have aV:=bm aT;have cU:=bm aU;clear aT aU;have H:=h;clear h;unfold oH.f at H;have H':=bm H;clear H;go_enter Tryz.func81,Tryz.ntmps81;go_wp2;go_loopg [1,5] k (fun kq v1 v5 w'=>∃(o:Int) (j:Int),v1= .int .i64 o∧v5= .int .i64 j∧jX (oH.l0 kq l0 o j=some r)∧jX (kq≤k)∧Drawn0 w w')
 case atStart=>exact⟨(a1),(0),(by first|rfl|(simp;done)|(simp[*];done)),(by first|rfl|(simp;done)|(simp[*];done)),H',⟨Nat.le_refl _⟩,by repeat(first|exact Drawn0.refl _|apply Drawn0.step)⟩
 case round=>
  clear H';obtain⟨o,j,rfl,rfl,HA,au,⟨m1,rfl⟩⟩:=hrel;cases gk with
  |zero=>exact absurd HA.out (by simp[oH.l0])
  |succ k1=>
   have H:=HA.out;clear HA;simp only[oH.l0]at H;rcases vG H with⟨an,H⟩|⟨an,H⟩
   ·obtain⟨aG,H⟩:=vE H;obtain⟨bp,A5,H⟩:=bE H;try dsimp only at H
    rcases vG H with⟨b4,H⟩|⟨b4,H⟩
    ·obtain rfl:=vU H;have bd:0≤(j:Int):=pG;have bf:j<(l0.length:Int):=pG;obtain⟨dq,bq,br,cL,cM,ax,ay⟩:=xa aV.out j bd bf;cases cL;have bg:=bm ay;have bh:=bm ax;clear ay ax;replace bd:=vD bd;replace bf:=vD bf;go_wp2_with (first|(refine gB (some 17) Tryz.func80 #[.slice bq (qi l0 j).length br,.int .i64 o] rfl ?_;(with_reducible refine(oE.calls k1 _ _ (qi l0 j) o bp _ ?_ ?_ A5.out).mono ?_);exact cZ bg.out;exact bh.out;rintro e w' ⟨rfl,⟨nd,rfl⟩⟩;refine⟨_,rfl,?_⟩));go_ret;exact vY
    ·have H':=bm H;clear H;have bd:0≤(j:Int):=pG;have bf:j<(l0.length:Int):=pG;obtain⟨dq,bq,br,cL,cM,ax,ay⟩:=xa aV.out j bd bf;cases cL;have bg:=bm ay;have bh:=bm ax;clear ay ax;replace bd:=vD bd;replace bf:=vD bf;go_wp2_with (first|(refine gB (some 17) Tryz.func80 #[.slice bq (qi l0 j).length br,.int .i64 o] rfl ?_;(with_reducible refine(oE.calls k1 _ _ (qi l0 j) o bp _ ?_ ?_ A5.out).mono ?_);exact cZ bg.out;exact bh.out;rintro e w' ⟨rfl,⟨nd,rfl⟩⟩;refine⟨_,rfl,?_⟩));go_roundg k1
     case measure=>have:=au.out;omega
     case rel=>exact⟨(bp),(wrap64 (j+1)),(by first|rfl|(simp;done)|(simp[*];done)),(by first|rfl|(simp;done)|(simp[*];done)),H',⟨by have:=au.out;omega⟩,by repeat(first|exact Drawn0.refl _|apply Drawn0.step)⟩
   ·obtain rfl:=vU H;go_wp2;go_ret;exact vY
def rr.f (k:Nat) (af:Int) (I:List Int) (J:List (List Int)) (a1:Int):Option (Int):=(oE.f k I a1).bind fun aw=>(if aw<0 then(some (-1))else((oH.f k J aw).bind fun aJ=>(if aJ<0 then(some (-1))else(some aJ))))
instance rr.mo {k a0 a1 a2 a3}:qg (rr.f k a0 a1 a2 a3) (rr.f (k+1) a0 a1 a2 a3):=by unfold rr.f;infer_instance
theorem rr.calls (k:Nat) (af:Int) (ak:Option Addr) (al:Nat) (I:List Int) (aq:Option Addr) (ar:Nat) (J:List (List Int)) (a1:Int) (r:Int) (w:World) (aN:Kd.C (Kd.int .i64) w ak I.length I) (aO:I.length≤al) (aP:Kd.C (Kd.slice 3 (Kd.int .i64)) w aq J.length J) (aQ:J.length≤ar) (h:rr.f k af I J a1=some r):
  Calls Tryz.prog 30 #[.agg #[.int .i64 af,.slice ak I.length al,.slice aq J.length ar],.int .i64 a1] w fun e w'=>e= .returned (.int .i64 r)∧Below w.heap.size w w':=by
 have dr:=Tryz.underlying26;have az:=bm aN;have aA:=bm aO;clear aN aO;have aR:=bm aP;have aS:=bm aQ;clear aP aQ;have HB:=bm (Below.refl w.heap.size w);have H:=h;clear h;unfold rr.f at H;obtain⟨aw,A3,H⟩:=bE H;try dsimp only at H
 rcases vG H with⟨aG,H⟩|⟨aG,H⟩
 ·obtain rfl:=vU H;go_enter Tryz.func30,Tryz.ntmps30;go_wp2_with (first|(refine rz 2 #[.int .i64 af,.slice ak I.length al,.slice aq J.length ar] 26 ?_;intro cN hg w5 aa hb;have bj:=bm (aa);have cO:=bG HB hg;replace HB:=bW HB hb;clear hb aa hg;obtain⟨e5,e6,e7,e8,e9,fa⟩:=b3 bj)|(refine gB (some 8) Tryz.func80 #[.slice ak I.length al,.int .i64 a1] rfl ?_;(with_reducible refine(oE.calls k _ _ I a1 aw _ ?_ ?_ A3.out).mono ?_);exact cY az HB;exact aA.out;rintro e w' ⟨rfl,⟨nd,rfl⟩⟩;refine⟨_,rfl,?_⟩));go_ret;exact vZ HB
 ·obtain⟨aJ,A7,H⟩:=bE H;try dsimp only at H
  rcases vG H with⟨cT,H⟩|⟨cT,H⟩
  ·obtain rfl:=vU H;go_enter Tryz.func30,Tryz.ntmps30;go_wp2_with (first|(refine rz 2 #[.int .i64 af,.slice ak I.length al,.slice aq J.length ar] 26 ?_;intro cN hg w9 aa hb;have bj:=bm (aa);have cO:=bG HB hg;replace HB:=bW HB hb;clear hb aa hg;obtain⟨eM,eN,eO,eP,eQ,eR⟩:=b3 bj)|(refine gB (some 8) Tryz.func80 #[.slice ak I.length al,.int .i64 a1] rfl ?_;(with_reducible refine(oE.calls k _ _ I a1 aw _ ?_ ?_ A3.out).mono ?_);exact cY az HB;exact aA.out;rintro e w' ⟨rfl,⟨nd,rfl⟩⟩;refine⟨_,rfl,?_⟩)|(refine gB (some 14) Tryz.func81 #[.slice aq J.length ar,.int .i64 aw] rfl ?_;(with_reducible refine(oH.calls k _ _ J aw aJ _ ?_ ?_ A7.out).mono ?_);exact cZ (Kd.C_below aR.out (wZ HB));exact aS.out;rintro e w' ⟨rfl,⟨nd,rfl⟩⟩;refine⟨_,rfl,?_⟩));go_ret;exact vZ HB
  ·obtain rfl:=vU H;go_enter Tryz.func30,Tryz.ntmps30;go_wp2_with (first|(refine rz 2 #[.int .i64 af,.slice ak I.length al,.slice aq J.length ar] 26 ?_;intro cN hg fU aa hb;have bj:=bm (aa);have cO:=bG HB hg;replace HB:=bW HB hb;clear hb aa hg;obtain⟨cj,ck,cl,cm,cn,cp⟩:=b3 bj)|(refine gB (some 8) Tryz.func80 #[.slice ak I.length al,.int .i64 a1] rfl ?_;(with_reducible refine(oE.calls k _ _ I a1 aw _ ?_ ?_ A3.out).mono ?_);exact cY az HB;exact aA.out;rintro e w' ⟨rfl,⟨nd,rfl⟩⟩;refine⟨_,rfl,?_⟩)|(refine gB (some 14) Tryz.func81 #[.slice aq J.length ar,.int .i64 aw] rfl ?_;(with_reducible refine(oH.calls k _ _ J aw aJ _ ?_ ?_ A7.out).mono ?_);exact cZ (Kd.C_below aR.out (wZ HB));exact aS.out;rintro e w' ⟨rfl,⟨nd,rfl⟩⟩;refine⟨_,rfl,?_⟩));go_ret;exact vZ HB
def lf.l0:Nat→List ByteArray→Int→Int→Option (Int)
 |0,_,_,_=>none
 |k+1,x0,x1,x5=>if x5<(x0.length:Int)then(if 0≤x5 then((oC.f k x1).bind fun aK=>(if(rdOf ByteArray.empty x0 x5).toList=aK.toList then(lf.l0 k x0 (wrap64 (x1+1)) (wrap64 (x5+1)))else(some (-1))))else(none))else(some x1)
def lf.f (k:Nat) (l0:List ByteArray) (a1:Int):Option (Int):=lf.l0 k l0 a1 0
theorem lf.jQ:∀k,(∀y0 y1 y2,qg (lf.l0 k y0 y1 y2) (lf.l0 (k+1) y0 y1 y2))
 |0=>fun _ _ _=> .z (by simp only[lf.l0])
 |k+1=>by
  have i0:=lf.jQ k;exact fun _ _ _=>by unfold lf.l0;infer_instance
instance lf.mo {k a0 a1}:qg (lf.f k a0 a1) (lf.f (k+1) a0 a1):=by have i0:=lf.jQ k;unfold lf.f;infer_instance
theorem lf.calls (k:Nat) (A0:Option Addr) (c0:Nat) (l0:List ByteArray) (a1:Int) (r:Int) (w:World) (aT:Kd.C Kd.string w A0 l0.length l0) (aU:l0.length≤c0) (h:lf.f k l0 a1=some r):
  Calls Tryz.prog 31 #[.slice A0 l0.length c0,.int .i64 a1] w fun e w'=>e= .returned (.int .i64 r)∧Below w.heap.size w w':=by
 have aV:=bm aT;have cU:=bm aU;clear aT aU;have HB:=bm (Below.refl w.heap.size w);have H:=h;clear h;unfold lf.f at H;have H':=bm H;clear H;go_enter Tryz.func31,Tryz.ntmps31;go_wp2;go_loopg [1,5] k (fun kq v1 v5 w'=>∃(o:Int) (j:Int),v1= .int .i64 o∧v5= .int .i64 j∧jX (lf.l0 kq l0 o j=some r)∧jX (kq≤k)∧jX (Below w.heap.size w w'))
 case atStart=>exact⟨(a1),(0),(by first|rfl|(simp;done)|(simp[*];done)),(by first|rfl|(simp;done)|(simp[*];done)),H',⟨Nat.le_refl _⟩,⟨wZ HB⟩⟩
 case round=>
  clear H';obtain⟨o,j,rfl,rfl,HA,au,HB⟩:=hrel;cases gk with
  |zero=>exact absurd HA.out (by simp[lf.l0])
  |succ k1=>
   have H:=HA.out;clear HA;simp only[lf.l0]at H;rcases vG H with⟨an,H⟩|⟨an,H⟩
   ·obtain⟨aG,H⟩:=vE H;obtain⟨aK,A5,H⟩:=bE H;try dsimp only at H
    rcases iT H with⟨c6,H⟩|⟨c6,H⟩
    ·obtain⟨b4,eS⟩:=vW c6;clear c6;have H':=bm H;clear H;try go_wp2
     replace HB:=bm (xO HB.out);have bk:0≤(j:Int):=pG;have bl:j<(l0.length:Int):=pG;obtain⟨b0,cP,ag⟩:=Kd.at_string aV.out j bk bl;have ai:=ag;cases cP;replace ag:=vA HB ag;replace bk:=vD bk;replace bl:=vD bl;refine start_ (n:=7) (S:=fun w'=>w'.cell? (b0.add (j).toNat)=some (.string (rdOf ByteArray.empty l0 j))) (ds:=[]) DN (by kernel_rfl) rfl rfl (((HB.out.cell (World.block_lt_of_cell? w _ ai)).trans ai)) (fun hHeld=>?_);generalize wr.drew=w7 at HB ag hHeld⊢;refine pure_ (i:=0) (N:=some 12) (v:=?_) (a':=?_) DP rfl rfl (by kernel_rfl) (fun _ _ _ h=>h) (Or.inl ⟨by rfl,?_⟩) ?_ ?_;rotate_left
     ·intro w';go_simp;with_reducible rfl
     rotate_left
     ·simp only[Act.put,qA,qB,qC,i64_w,i32_w];rfl
     refine pure_ (i:=1) (N:=some 13) (v:=?_) (a':=?_) DQ rfl rfl (by kernel_rfl) (fun _ _ _ h=>h) (Or.inl ⟨by rfl,?_⟩) ?_ ?_;rotate_left
     ·intro w';go_simp;with_reducible rfl
     rotate_left
     ·simp only[Act.put,qA,qB,qC,i64_w,i32_w];rfl
     refine pure_ (i:=2) (N:=some 14) (v:=?_) (a':=?_) DR rfl rfl (by kernel_rfl) (fun _ _ _ h=>h) (Or.inl ⟨by rfl,?_⟩) ?_ ?_;rotate_left
     ·intro w';go_simp;with_reducible rfl
     rotate_left
     ·simp only[Act.put,qA,qB,qC,i64_w,i32_w];rfl
     refine pure_ (i:=4) (N:=some 16) (v:=?_) (a':=?_) #[true,true,true,false,true,false,false] rfl rfl (by kernel_rfl) (fun _ _ _ h=>h) (Or.inl ⟨by rfl,?_⟩) ?_ ?_;rotate_left
     ·intro w';go_simp;with_reducible rfl
     rotate_left
     ·simp only[Act.put,qA,qB,qC,i64_w,i32_w];rfl
     refine take_ (i:=3) (N:=some 15) (v:=?_) (a':=?_) #[true,true,true,true,true,false,false] rfl rfl (by kernel_rfl) (fun _ _ _ h=>h) (Or.inl ⟨by rfl,?_⟩) hHeld ?_ ?_;rotate_left
     ·intro w' s0;go_simp;with_reducible rfl
     rotate_left
     ·simp only[Act.put,qA,qB,qC,i64_w,i32_w];rfl
     refine one_ (i:=5) (N:=some 17) #[true,true,true,true,true,true,false] rfl rfl (by kernel_rfl) (by decide) (fun K hK=>?_);refine goes_ Tryz.func79 (by kernel_rfl) rfl #[.int .i64 o] (by rfl) rfl rfl (by(try simp only[List.map_toArray,List.map_cons,List.map_nil]);first|done|rfl|(simp only[List.length_drop,List.length_take];rfl)) ?_;with_reducible refine(oC.calls k1 o aK _ A5.out).mono ?_
     rintro e w8 ⟨rfl,hb⟩;refine⟨_,rfl,?_⟩;replace HB:=bW HB hb;(try clear hb);(try clear hb2);(try clear hk);(try clear hi);refine hK.out _ _ (((HB.out.cell (World.block_lt_of_cell? w _ ai)).trans ai)) (fun hHeld=>?_);clear hK K;refine vL 17 ?_
     refine pure_ (i:=6) (N:=some 18) (v:=?_) (a':=?_) #[true,true,true,true,true,true,true] rfl rfl (by kernel_rfl) (fun _ _ _ h=>h) (Or.inl ⟨by rfl,?_⟩) ?_ ?_;rotate_left
     ·intro w';go_simp;with_reducible rfl
     rotate_left
     ·simp only[Act.put,qA,qB,qC,i64_w,i32_w];rfl
     refine done_ (by kernel_rfl) ?_;try go_wp2
     go_roundg k1
     case measure=>have:=au.out;omega
     case rel=>exact⟨(wrap64 (o+1)),(wrap64 (j+1)),(by first|rfl|(simp;done)|(simp[*];done)),(by first|rfl|(simp;done)|(simp[*];done)),H',⟨by have:=au.out;omega⟩,⟨wZ HB⟩⟩
    ·obtain⟨b4,eS⟩:=vV c6;obtain rfl:=vU H;try go_wp2
     replace HB:=bm (xO HB.out);have bk:0≤(j:Int):=pG;have bl:j<(l0.length:Int):=pG;obtain⟨b0,cP,ag⟩:=Kd.at_string aV.out j bk bl;have ai:=ag;cases cP;replace ag:=vA HB ag;replace bk:=vD bk;replace bl:=vD bl;refine start_ (n:=7) (S:=fun w'=>w'.cell? (b0.add (j).toNat)=some (.string (rdOf ByteArray.empty l0 j))) (ds:=[]) DN (by kernel_rfl) rfl rfl (((HB.out.cell (World.block_lt_of_cell? w _ ai)).trans ai)) (fun hHeld=>?_);generalize wr.drew=w9 at HB ag hHeld⊢;refine pure_ (i:=0) (N:=some 12) (v:=?_) (a':=?_) DP rfl rfl (by kernel_rfl) (fun _ _ _ h=>h) (Or.inl ⟨by rfl,?_⟩) ?_ ?_;rotate_left
     ·intro w';go_simp;with_reducible rfl
     rotate_left
     ·simp only[Act.put,qA,qB,qC,i64_w,i32_w];rfl
     refine pure_ (i:=1) (N:=some 13) (v:=?_) (a':=?_) DQ rfl rfl (by kernel_rfl) (fun _ _ _ h=>h) (Or.inl ⟨by rfl,?_⟩) ?_ ?_;rotate_left
     ·intro w';go_simp;with_reducible rfl
     rotate_left
     ·simp only[Act.put,qA,qB,qC,i64_w,i32_w];rfl
     refine pure_ (i:=2) (N:=some 14) (v:=?_) (a':=?_) DR rfl rfl (by kernel_rfl) (fun _ _ _ h=>h) (Or.inl ⟨by rfl,?_⟩) ?_ ?_;rotate_left
     ·intro w';go_simp;with_reducible rfl
     rotate_left
     ·simp only[Act.put,qA,qB,qC,i64_w,i32_w];rfl
     refine pure_ (i:=4) (N:=some 16) (v:=?_) (a':=?_) #[true,true,true,false,true,false,false] rfl rfl (by kernel_rfl) (fun _ _ _ h=>h) (Or.inl ⟨by rfl,?_⟩) ?_ ?_;rotate_left
     ·intro w';go_simp;with_reducible rfl
     rotate_left
     ·simp only[Act.put,qA,qB,qC,i64_w,i32_w];rfl
     refine take_ (i:=3) (N:=some 15) (v:=?_) (a':=?_) #[true,true,true,true,true,false,false] rfl rfl (by kernel_rfl) (fun _ _ _ h=>h) (Or.inl ⟨by rfl,?_⟩) hHeld ?_ ?_;rotate_left
     ·intro w' s0;go_simp;with_reducible rfl
     rotate_left
     ·simp only[Act.put,qA,qB,qC,i64_w,i32_w];rfl
     refine one_ (i:=5) (N:=some 17) #[true,true,true,true,true,true,false] rfl rfl (by kernel_rfl) (by decide) (fun K hK=>?_);refine goes_ Tryz.func79 (by kernel_rfl) rfl #[.int .i64 o] (by rfl) rfl rfl (by(try simp only[List.map_toArray,List.map_cons,List.map_nil]);first|done|rfl|(simp only[List.length_drop,List.length_take];rfl)) ?_;with_reducible refine(oC.calls k1 o aK _ A5.out).mono ?_
     rintro e cR ⟨rfl,hb⟩;refine⟨_,rfl,?_⟩;replace HB:=bW HB hb;(try clear hb);(try clear hb2);(try clear hk);(try clear hi);refine hK.out _ _ (((HB.out.cell (World.block_lt_of_cell? w _ ai)).trans ai)) (fun hHeld=>?_);clear hK K;refine vL 17 ?_
     refine pure_ (i:=6) (N:=some 18) (v:=?_) (a':=?_) #[true,true,true,true,true,true,true] rfl rfl (by kernel_rfl) (fun _ _ _ h=>h) (Or.inl ⟨by rfl,?_⟩) ?_ ?_;rotate_left
     ·intro w';go_simp;with_reducible rfl
     rotate_left
     ·simp only[Act.put,qA,qB,qC,i64_w,i32_w];rfl
     refine done_ (by kernel_rfl) ?_;try go_wp2
     go_ret;exact vZ HB
   ·obtain rfl:=vU H;go_wp2;go_ret;exact vZ HB
end Go.Proofs.YtihgpkohglcijaaGreatDoor.P
