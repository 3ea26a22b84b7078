import Derived.Test.YtigeaokfhnlkcaaGreatDoorPx0
import Derived.Test.YtigeaokfhnlkcaaGreatDoorPx2
import Derived.Test.YtigeaokfhnlkcaaGreatDoorPx4
import Derived.Test.YtigeaokfhnlkcaaGreatDoorPx5
namespace Go.Proofs.YtigeaokfhnlkcaaGreatDoor.P
open Go.RowKit YtigeaokfhnlkcaaGreatDoorW PrintWords PrintLast PrintMore
attribute [local go_sem] max2_int min2_int max_two min_two max_three min_three max_four min_four
set_option linter.unusedVariables false
set_option linter.unusedSimpArgs false
set_option maxHeartbeats 8000000
set_option maxRecDepth 100000
mutual
def iu.l0:Nat→Int→BA→Int→Option (Int×Int×Bool)
 |0,_,_,_=>none
 |k+1,x0,x1,x6=>if(wrap64 (x6+1))<(x1.size:Int)then(if 0≤x6 then(if x6<(x1.size:Int)then(if(bt x1 x6)=45 then(if 0≤(wrap64 (x6+1))then(iu.j1 k x0 x1 x6 ((bt x1 (wrap64 (x6+1))) !=62))else(none))else(iu.j1 k x0 x1 x6 true))else(none))else(none))else(some (0,0,false))
def iu.j1:Nat→Int→BA→Int→Bool→Option (Int×Int×Bool)
 |0,_,_,_,_=>none
 |k+1,x0,x1,x6,x28=>if x28=true then(iu.l0 k x0 x1 (wrap64 (x6+1)))else(if 0≤x6 then(if x6≤(x1.size:Int)then((jv.f k x0 (x1.extract 0 (x6:Int).toNat)).bind fun br=>(if 0≤(wrap64 (x6+2))then(if(wrap64 (x6+2))≤(x1.size:Int)then((jv.f k x0 (x1.extract ((wrap64 (x6+2)):Int).toNat x1.size)).bind fun b6=>(if br.2=true then(if b6.2=true then(if br.1=0 then(iu.l0 k x0 x1 (wrap64 (x6+1)))else(some (br.1,b6.1,true)))else(iu.l0 k x0 x1 (wrap64 (x6+1))))else(iu.l0 k x0 x1 (wrap64 (x6+1)))))else(none))else(none)))else(none))else(none))
end
def iu.f (k:Nat) (a0:Int) (a1:BA):Option (Int×Int×Bool):=iu.l0 k a0 a1 0
theorem iu.hZ:∀k,(∀y0 y1 y2,lS (iu.l0 k y0 y1 y2) (iu.l0 (k+1) y0 y1 y2))∧(∀y0 y1 y2 y3,lS (iu.j1 k y0 y1 y2 y3) (iu.j1 (k+1) y0 y1 y2 y3))
 |0=>⟨fun _ _ _=> .z (by simp only[iu.l0]),fun _ _ _ _=> .z (by simp only[iu.j1])⟩
 |k+1=>by
  have⟨i0,i1⟩:=iu.hZ k;exact⟨fun _ _ _=>by unfold iu.l0;infer_instance,fun _ _ _ _=>by unfold iu.j1;infer_instance⟩
instance iu.mo {k a0 a1}:lS (iu.f k a0 a1) (iu.f (k+1) a0 a1):=by have⟨i0,i1⟩:=iu.hZ k;unfold iu.f;infer_instance
theorem iu.calls (k:Nat) (a0:Int) (a1:BA) (r1:Int) (r2:Int) (r3:Bool) (w:World) (h:iu.f k a0 a1=some (r1,r2,r3)):
  Calls Tryz.prog 60 #[.int .i64 a0,.string a1] w fun e w'=>e= .returned (.tuple #[.agg #[.int .i64 r1,.int .i64 r2],.bool r3])∧Below w.heap.size w w':=by
 have dV:=Tryz.underlying87;have HB:=bm (Below.refl w.heap.size w);have H:=h;clear h;unfold iu.f at H;have H':=bm H;clear H;go_enter Tryz.func60,Tryz.ntmps60;go_wp2_with (first|(refine re 4 #[.int .i64 0,.int .i64 0] 87 ?_;intro aU hg _ cv hb;have J:=bm (cv);have dz:=bG HB hg;replace HB:=bW HB hb;clear hb cv hg));go_loopg [6] k (fun kq v6 w'=>∃(j:Int) (o:Int) (I:Int),v6= .int .i64 j∧hJ (iu.l0 kq a0 a1 j=some (r1,r2,r3))∧hJ (kq≤k)∧hJ (w'.heap[aU]?=some (.cells #[.int .i64 o,.int .i64 I] 87 (0,0)))∧hJ (Below w.heap.size w w'))
 case atStart=>exact⟨(0),(0),(0),eA,H',⟨Nat.le_refl _⟩,⟨kS J⟩,⟨wZ HB⟩⟩
 case round=>
  clear H';obtain⟨j,o,I,rfl,HA,aj,J,HB⟩:=hrel;cases gk with
  |zero=>exact absurd HA.out (by simp[iu.l0])
  |succ k1=>
   have H:=HA.out;clear HA;simp only[iu.l0]at H;rcases pP H with⟨b7,H⟩|⟨b7,H⟩
   ·have cA:=bm H;clear H;go_upto_region 4 with(fail)
    go_cut [28] (fun v28 wc=>∃(kq:Nat) (aV:Bool),v28= .bool aV∧hJ (iu.j1 kq a0 a1 j aV=some (r1,r2,r3))∧hJ (kq≤k1)∧oI wc aU #[.int .i64 o,.int .i64 I] 87∧hJ (Below w.heap.size w wc))
    case first=>
     have H:=cA.out;clear cA;obtain⟨b8,H⟩:=pN H;(first|rw[b8]|(simp only[i64_w,i32_w];rw[b8])|skip);obtain⟨dW,H⟩:=pN H;rcases iT H with⟨c9,H⟩|⟨c9,H⟩
     ·obtain⟨bB,bD⟩:=pf c9;clear c9;obtain⟨af,aa⟩:∃j_:Int,(wrap64 (j+1))=j_:=⟨_,rfl⟩;first|rw[aa]at H|simp only[aa]at H
      (try rw[aa]at b7);have dr:(IntKind.i64.wrap (j+1))=af:=(i64_w _).trans aa;obtain⟨aW,H⟩:=pN H;have H':=bm H;clear H;have p8:0≤(j:Int):=ko;have q8:j<(a1.size:Int):=ko;have dA:=bt_at a1 j;replace p8:=pM p8;replace q8:=pM q8;have cS:0≤((af):Int):=ko;have cT:(af)<(a1.size:Int):=ko;have dX:=bt_at a1 (af);replace cS:=pM cS;replace cT:=pM cT;go_wp2;go_meet
      case rel=>exact⟨_,(((bt a1 (af)) !=62)),(by first|rfl|(simp;done)|(simp only[←aa]<;>(first|rfl|simp))|(simp[*];done)),H',⟨by have:=aj.out;first|omega|exact Nat.le_refl _⟩,⟨kS J⟩,⟨wZ HB⟩⟩
     ·obtain⟨bB,bD⟩:=pe c9;have H':=bm H;clear H;have p8:0≤(j:Int):=ko;have q8:j<(a1.size:Int):=ko;have dA:=bt_at a1 j;replace p8:=pM p8;replace q8:=pM q8;go_wp2;go_meet
      case rel=>exact⟨_,(true),eA,H',⟨by have:=aj.out;first|omega|exact Nat.le_refl _⟩,⟨kS J⟩,⟨wZ HB⟩⟩
    case rest=>
     clear cA;obtain⟨kq,aV,rfl,HA,bb,J,HB⟩:=hcut;cases kq with
     |zero=>exact absurd HA.out (by simp[iu.j1])
     |succ uR=>
      have H:=HA.out;clear HA;simp only[iu.j1]at H;by_cases az:aV=true
      ·subst az;rw[if_pos rfl]at H;have H':=bm H;clear H;go_wp2;go_roundg uR
       case measure=>have:=aj.out;have:=bb.out;omega
       case rel=>exact⟨(wrap64 (j+1)),(o),(I),eA,H',⟨by have:=aj.out;have:=bb.out;omega⟩,⟨kS J⟩,⟨wZ HB⟩⟩
      ·replace az:=pD az;subst az;rw[if_neg pV]at H;obtain⟨bs,dB,H⟩:=pO H;obtain⟨dC,dD,H⟩:=pO H;obtain⟨⟨an,cU⟩,b9,H⟩:=bE H;try dsimp only at H
       obtain⟨ao,ad⟩:∃j_:Int,(wrap64 (j+2))=j_:=⟨_,rfl⟩;first|rw[ad]at H|simp only[ad]at H
       (try rw[ad]at b9);have ds:(IntKind.i64.wrap (j+2))=ao:=(i64_w _).trans ad;obtain⟨dE,dF,H⟩:=pO H;obtain⟨dG,dH,H⟩:=pO H;obtain⟨⟨bc,cw⟩,cm,H⟩:=bE H;try dsimp only at H
       by_cases cn:cU=true
       ·subst cn;rw[if_pos rfl]at H;by_cases cp:cw=true
        ·subst cp;rw[if_pos rfl]at H;rcases iT H with⟨bV,H⟩|⟨bV,H⟩
         ·obtain⟨cD,cE⟩:=pf bV;clear bV;have H':=bm H;clear H;go_wp2_with (first|(refine gB (some 34) Tryz.func59 #[.int .i64 a0,.string (a1.extract 0 (j:Int).toNat)] rfl ?_;(refine(jv.calls uR a0 (a1.extract 0 (j:Int).toNat) an true _ b9.out).mono ?_);rintro e w' ⟨rfl,⟨nd,rfl⟩⟩;refine⟨_,rfl,?_⟩)|((with_reducible refine gate_callee (f:=59) rfl ?_);refine Ai (some 43) rfl rfl Tryz.func59 (by kernel_rfl) rfl #[.int .i64 a0,.string (a1.extract ((ao):Int).toNat a1.size)] rfl (by(try simp only[List.map_toArray,List.map_cons,List.map_nil]);first|done|(simp only[ad];rfl)|rfl|(simp only[List.length_drop,List.length_take];rfl)) ?_;(refine(jv.calls uR a0 (a1.extract ((ao):Int).toNat a1.size) bc true _ cm.out).mono ?_);rintro e w' ⟨rfl,⟨nd,rfl⟩⟩;refine⟨_,rfl,?_⟩));go_roundg uR
          case measure=>have:=aj.out;have:=bb.out;omega
          case rel=>exact⟨(wrap64 (j+1)),(o),(I),eA,H',⟨by have:=aj.out;have:=bb.out;omega⟩,⟨kS J⟩,⟨wZ HB⟩⟩
         ·obtain⟨cD,cE⟩:=pe bV;obtain⟨rfl,rfl,rfl⟩:=s3 H;go_wp2_with (first|(refine gB (some 34) Tryz.func59 #[.int .i64 a0,.string (a1.extract 0 (j:Int).toNat)] rfl ?_;(refine(jv.calls uR a0 (a1.extract 0 (j:Int).toNat) an true _ b9.out).mono ?_);rintro e w' ⟨rfl,⟨nd,rfl⟩⟩;refine⟨_,rfl,?_⟩;(try(rw[drewN_self wc];generalize rk:World.drewN wc _=wc;replace J:oI wc aU #[.int .i64 o,.int .i64 I] 87:=⟨by rw[←rk];exact(kS J)⟩;replace HB:hJ (Below w.heap.size w wc):=⟨by rw[←rk];exact(wZ HB)⟩;clear rk)))|((with_reducible refine gate_callee (f:=59) rfl ?_);refine Ai (some 43) rfl rfl Tryz.func59 (by kernel_rfl) rfl #[.int .i64 a0,.string (a1.extract ((ao):Int).toNat a1.size)] rfl (by(try simp only[List.map_toArray,List.map_cons,List.map_nil]);first|done|(simp only[ad];rfl)|rfl|(simp only[List.length_drop,List.length_take];rfl)) ?_;(refine(jv.calls uR a0 (a1.extract ((ao):Int).toNat a1.size) bc true _ cm.out).mono ?_);rintro e w' ⟨rfl,⟨nd,rfl⟩⟩;refine⟨_,rfl,?_⟩;(try(rw[drewN_self wc];generalize rk:World.drewN wc _=wc;replace J:oI wc aU #[.int .i64 o,.int .i64 I] 87:=⟨by rw[←rk];exact(kS J)⟩;replace HB:hJ (Below w.heap.size w wc):=⟨by rw[←rk];exact(wZ HB)⟩;clear rk));obtain⟨_,_,_,_⟩:=b2 J));refine rE #[.int .i64 an,.int .i64 bc] (kP J) Tryz.underlying87 ?_;exact⟨by first|rfl|(simp[iJ,iK]<;>rfl)|(simp only[←ad];first|rfl|(simp[iJ,iK]<;>rfl))|(simp[*,iJ,iK]<;>rfl),wZ HB⟩
        ·replace cp:=pD cp;subst cp;rw[if_neg pV]at H;have H':=bm H;clear H;go_wp2_with (first|(refine gB (some 34) Tryz.func59 #[.int .i64 a0,.string (a1.extract 0 (j:Int).toNat)] rfl ?_;(refine(jv.calls uR a0 (a1.extract 0 (j:Int).toNat) an true _ b9.out).mono ?_);rintro e w' ⟨rfl,⟨nd,rfl⟩⟩;refine⟨_,rfl,?_⟩)|((with_reducible refine gate_callee (f:=59) rfl ?_);refine Ai (some 43) rfl rfl Tryz.func59 (by kernel_rfl) rfl #[.int .i64 a0,.string (a1.extract ((ao):Int).toNat a1.size)] rfl (by(try simp only[List.map_toArray,List.map_cons,List.map_nil]);first|done|(simp only[ad];rfl)|rfl|(simp only[List.length_drop,List.length_take];rfl)) ?_;(refine(jv.calls uR a0 (a1.extract ((ao):Int).toNat a1.size) bc false _ cm.out).mono ?_);rintro e w' ⟨rfl,⟨nd,rfl⟩⟩;refine⟨_,rfl,?_⟩));go_roundg uR
         case measure=>have:=aj.out;have:=bb.out;omega
         case rel=>exact⟨(wrap64 (j+1)),(o),(I),eA,H',⟨by have:=aj.out;have:=bb.out;omega⟩,⟨kS J⟩,⟨wZ HB⟩⟩
       ·replace cn:=pD cn;subst cn;rw[if_neg pV]at H;have H':=bm H;clear H;go_wp2_with (first|(refine gB (some 34) Tryz.func59 #[.int .i64 a0,.string (a1.extract 0 (j:Int).toNat)] rfl ?_;(refine(jv.calls uR a0 (a1.extract 0 (j:Int).toNat) an false _ b9.out).mono ?_);rintro e w' ⟨rfl,⟨nd,rfl⟩⟩;refine⟨_,rfl,?_⟩)|((with_reducible refine gate_callee (f:=59) rfl ?_);refine Ai (some 43) rfl rfl Tryz.func59 (by kernel_rfl) rfl #[.int .i64 a0,.string (a1.extract ((ao):Int).toNat a1.size)] rfl (by(try simp only[List.map_toArray,List.map_cons,List.map_nil]);first|done|(simp only[ad];rfl)|rfl|(simp only[List.length_drop,List.length_take];rfl)) ?_;(refine(jv.calls uR a0 (a1.extract ((ao):Int).toNat a1.size) bc cw _ cm.out).mono ?_);rintro e w' ⟨rfl,⟨nd,rfl⟩⟩;refine⟨_,rfl,?_⟩));go_roundg uR
        case measure=>have:=aj.out;have:=bb.out;omega
        case rel=>exact⟨(wrap64 (j+1)),(o),(I),eA,H',⟨by have:=aj.out;have:=bb.out;omega⟩,⟨kS J⟩,⟨wZ HB⟩⟩
   ·obtain⟨rfl,rfl,rfl⟩:=s3 H;obtain⟨_,_,_,_⟩:=b2 J;go_wp2;refine rE #[.int .i64 0,.int .i64 0] (kP J) Tryz.underlying87 ?_;exact⟨eF,wZ HB⟩
def qX.f (a0:Bool):Option (BA):=if a0=true then(some (⟨#[121,101,115]⟩:BA))else(some (⟨#[110,111]⟩:BA))
theorem qX.calls (a0:Bool) (r:BA) (w:World) (h:qX.f a0=some r):
  Calls Tryz.prog 61 #[.bool a0] w fun e w'=>e= .returned (.string r)∧Drawn0 w w':=by
 have H:=h;clear h;unfold qX.f at H;by_cases c2:a0=true
 ·subst c2;rw[if_pos rfl]at H;obtain rfl:=pd H;go_enter Tryz.func61,Tryz.ntmps61;go_wp2;go_ret;exact rq
 ·replace c2:=pD c2;subst c2;rw[if_neg pV]at H;obtain rfl:=pd H;go_enter Tryz.func61,Tryz.ntmps61;go_wp2;go_ret;exact rq
mutual
def iV.j0:Nat→LI→Int→Bool→Option (Int)
 |0,_,_,_=>none
 |k+1,x1,x2,x18=>if x18=true then(some (-1))else(iV.l0 k x1 x2 10 0)
def iV.l0:Nat→LI→Int→Int→Int→Option (Int)
 |0,_,_,_,_=>none
 |k+1,x1,x2,x7,x8=>if x8<(x1.length:Int)then((kz.f x2 x8).bind fun ar=>(if ar=1 then(if 0≤x8 then(iV.l0 k x1 x2 (mn x7 (rd x1 x8)) (wrap64 (x8+1)))else(none))else(iV.l0 k x1 x2 x7 (wrap64 (x8+1)))))else(some x7)
end
def iV.f (k:Nat) (a0:Int) (l1:LI) (a2:Int):Option (Int):=(iv.f k a0 l1).bind fun bd=>(if bd=true then((kc.f a0 a2).bind fun aK=>(iV.j0 k l1 a2 (!aK)))else(iV.j0 k l1 a2 true))
theorem iV.hZ:∀k,(∀y0 y1 y2,lS (iV.j0 k y0 y1 y2) (iV.j0 (k+1) y0 y1 y2))∧(∀y0 y1 y2 y3,lS (iV.l0 k y0 y1 y2 y3) (iV.l0 (k+1) y0 y1 y2 y3))
 |0=>⟨fun _ _ _=> .z (by simp only[iV.j0]),fun _ _ _ _=> .z (by simp only[iV.l0])⟩
 |k+1=>by
  have⟨i0,i1⟩:=iV.hZ k;exact⟨fun _ _ _=>by unfold iV.j0;infer_instance,fun _ _ _ _=>by unfold iV.l0;infer_instance⟩
instance iV.mo {k a0 a1 a2}:lS (iV.f k a0 a1 a2) (iV.f (k+1) a0 a1 a2):=by have⟨i0,i1⟩:=iV.hZ k;unfold iV.f;infer_instance
theorem iV.calls (k:Nat) (a0:Int) (A1:Option Addr) (c1:Nat) (l1:LI) (a2:Int) (r:Int) (w:World) (bf:Kd.C KI w A1 l1.length l1) (bg:l1.length≤c1) (h:iV.f k a0 l1 a2=some r):
  Calls Tryz.prog 101 #[.int .i64 a0,.slice A1 l1.length c1,.int .i64 a2] w fun e w'=>e= .returned (.int .i64 r)∧Below w.heap.size w w':=by
 have ay:=bm bf;have aA:=bm bg;clear bf bg;have HB:=bm (Below.refl w.heap.size w);have H:=h;clear h;unfold iV.f at H;have ak:=bm H;clear H;go_enter Tryz.func101,Tryz.ntmps101;go_upto_region 1 with(fail)
 go_cut [18] (fun dI wc=>∃(kq:Nat) (aY:Bool),dI= .bool aY∧hJ (iV.j0 kq l1 a2 aY=some r)∧hJ (kq≤k)∧hJ (Below w.heap.size w wc))
 case first=>
  have H:=ak.out;clear ak;obtain⟨bd,A5,H⟩:=bE H;try dsimp only at H
  by_cases c6:bd=true
  ·subst c6;rw[if_pos rfl]at H;obtain⟨aK,A7,H⟩:=bE H;try dsimp only at H
   have H':=bm H;clear H;go_wp2_with (first|(refine gB (some 11) Tryz.func68 #[.int .i64 a0,.slice A1 l1.length c1] rfl ?_;(refine(iv.calls k a0 _ _ l1 true _ ?_ ?_ A5.out).mono ?_);exact cY ay HB;exact aA.out;rintro e _ ⟨rfl,hb⟩;refine⟨_,rfl,?_⟩;replace HB:=bW HB hb;clear hb)|(go_at_call 97;(with_reducible refine(kc.calls a0 a2 aK _ A7.out).mono ?_);rintro e w' ⟨rfl,⟨nd,rfl⟩⟩));go_meet
   case rel=>exact⟨_,(!aK),eA,H',⟨by first|omega|exact Nat.le_refl _⟩,⟨wZ HB⟩⟩
  ·replace c6:=pD c6;subst c6;rw[if_neg pV]at H;have H':=bm H;clear H;go_wp2_with (first|(refine gB (some 11) Tryz.func68 #[.int .i64 a0,.slice A1 l1.length c1] rfl ?_;(refine(iv.calls k a0 _ _ l1 false _ ?_ ?_ A5.out).mono ?_);exact cY ay HB;exact aA.out;rintro e _ ⟨rfl,hb⟩;refine⟨_,rfl,?_⟩;replace HB:=bW HB hb;clear hb));go_meet
   case rel=>exact⟨_,(true),eA,H',⟨by first|omega|exact Nat.le_refl _⟩,⟨wZ HB⟩⟩
 case rest=>
  clear ak;obtain⟨kq,aY,rfl,HA,bu,HB⟩:=hcut;cases kq with
  |zero=>exact absurd HA.out (by simp[iV.j0])
  |succ sO=>
   have H:=HA.out;clear HA;simp only[iV.j0]at H;by_cases c10:aY=true
   ·subst c10;rw[if_pos rfl]at H;obtain rfl:=pd H;go_wp2;go_ret;exact⟨eF,wZ HB⟩
   ·replace c10:=pD c10;subst c10;rw[if_neg pV]at H;have H':=bm H;clear H;go_wp2;go_loopg [7,8] sO (fun kq v7 v8 w'=>∃(aC:Int) (ab:Int),v7= .int .i64 aC∧v8= .int .i64 ab∧hJ (iV.l0 kq l1 a2 aC ab=some r)∧hJ (kq≤sO)∧hJ (Below w.heap.size w w'))
    case atStart=>exact⟨(10),(0),eA,eA,H',⟨Nat.le_refl _⟩,⟨wZ HB⟩⟩
    case round=>
     clear H';obtain⟨aC,ab,rfl,rfl,HA,aD,HB⟩:=hrel;cases gk with
     |zero=>exact absurd HA.out (by simp[iV.l0])
     |succ k2=>
      have H:=HA.out;clear HA;simp only[iV.l0]at H;rcases pP H with⟨aW,H⟩|⟨aW,H⟩
      ·obtain⟨ar,bw,H⟩:=bE H;try dsimp only at H
       rcases iT H with⟨az,H⟩|⟨az,H⟩
       ·obtain⟨cF,cG⟩:=pf az;clear az;obtain⟨bs,H⟩:=pN H;obtain⟨cx,aE⟩:∃j_:Int,(mn aC (rd l1 ab))=j_:=⟨_,rfl⟩;first|rw[aE]at H|simp only[aE]at H
        (try rw[aE]at bw);have dt:(if(rd l1 ab)<aC then(rd l1 ab)else aC)=cx:=aE;have H':=bm H;clear H;go_wp2_with (first|(refine gB (some 27) Tryz.func98 #[.int .i64 a2,.int .i64 ab] rfl ?_;(refine(kz.calls a2 ab ar _ bw.out).mono ?_);rintro e w' ⟨rfl,⟨nd,rfl⟩⟩;refine⟨_,rfl,?_⟩;have ca:0≤(ab:Int):=ko;have cb:ab<(l1.length:Int):=ko;obtain⟨dJ,de,aG⟩:=Kd.at_int ay.out ab ca cb;cases de;replace aG:=pE HB aG;replace ca:=pM ca;replace cb:=pM cb));go_roundg k2
        case measure=>have:=bu.out;have:=aD.out;omega
        case rel=>exact⟨(cx),(wrap64 (ab+1)),(by first|rfl|(simp;done)|(simp only[←aE]<;>(first|rfl|simp))|(simp[*];done)),eA,H',⟨by have:=bu.out;have:=aD.out;omega⟩,⟨wZ HB⟩⟩
       ·obtain⟨cF,cG⟩:=pe az;have H':=bm H;clear H;go_wp2_with (first|(refine gB (some 27) Tryz.func98 #[.int .i64 a2,.int .i64 ab] rfl ?_;(refine(kz.calls a2 ab ar _ bw.out).mono ?_);rintro e w' ⟨rfl,⟨nd,rfl⟩⟩;refine⟨_,rfl,?_⟩));go_roundg k2
        case measure=>have:=bu.out;have:=aD.out;omega
        case rel=>exact⟨(aC),(wrap64 (ab+1)),eA,eA,H',⟨by have:=bu.out;have:=aD.out;omega⟩,⟨wZ HB⟩⟩
      ·obtain rfl:=pd H;go_wp2;go_ret;exact⟨eF,wZ HB⟩
def jz.j0:Nat→Int→LI→Int→Bool→Option (Int)
 |0,_,_,_,_=>none
 |k+1,x0,x1,x2,x16=>if x16=true then(some (-1))else((mh.f x0).bind fun bh=>((iV.f k x0 x1 (wrap64 (bh - x2))).bind fun cc=>(some cc)))
def jz.f (k:Nat) (a0:Int) (l1:LI) (a2:Int):Option (Int):=(iv.f k a0 l1).bind fun bj=>(if bj=true then((kc.f a0 a2).bind fun aM=>(jz.j0 k a0 l1 a2 (!aM)))else(jz.j0 k a0 l1 a2 true))
theorem jz.hZ:∀k,(∀y0 y1 y2 y3,lS (jz.j0 k y0 y1 y2 y3) (jz.j0 (k+1) y0 y1 y2 y3))
 |0=>fun _ _ _ _=> .z (by simp only[jz.j0])
 |k+1=>by
  have i0:=jz.hZ k;exact fun _ _ _ _=>by unfold jz.j0;infer_instance
instance jz.mo {k a0 a1 a2}:lS (jz.f k a0 a1 a2) (jz.f (k+1) a0 a1 a2):=by have i0:=jz.hZ k;unfold jz.f;infer_instance
theorem jz.calls (k:Nat) (a0:Int) (A1:Option Addr) (c1:Nat) (l1:LI) (a2:Int) (r:Int) (w:World) (bf:Kd.C KI w A1 l1.length l1) (bg:l1.length≤c1) (h:jz.f k a0 l1 a2=some r):
  Calls Tryz.prog 63 #[.int .i64 a0,.slice A1 l1.length c1,.int .i64 a2] w fun e w'=>e= .returned (.int .i64 r)∧Below w.heap.size w w':=by
 have ay:=bm bf;have aA:=bm bg;clear bf bg;have HB:=bm (Below.refl w.heap.size w);have H:=h;clear h;unfold jz.f at H;have ak:=bm H;clear H;go_enter Tryz.func63,Tryz.ntmps63;go_upto_region 1 with(fail)
 go_cut [16] (fun cH wc=>∃(kq:Nat) (ae:Bool),cH= .bool ae∧hJ (jz.j0 kq a0 l1 a2 ae=some r)∧hJ (kq≤k)∧hJ (Below w.heap.size w wc))
 case first=>
  have H:=ak.out;clear ak;obtain⟨bj,A5,H⟩:=bE H;try dsimp only at H
  by_cases c6:bj=true
  ·subst c6;rw[if_pos rfl]at H;obtain⟨aM,A7,H⟩:=bE H;try dsimp only at H
   have H':=bm H;clear H;go_wp2_with (first|(refine gB (some 9) Tryz.func68 #[.int .i64 a0,.slice A1 l1.length c1] rfl ?_;(refine(iv.calls k a0 _ _ l1 true _ ?_ ?_ A5.out).mono ?_);exact cY ay HB;exact aA.out;rintro e _ ⟨rfl,hb⟩;refine⟨_,rfl,?_⟩;replace HB:=bW HB hb;clear hb)|(go_at_call 97;(with_reducible refine(kc.calls a0 a2 aM _ A7.out).mono ?_);rintro e w' ⟨rfl,⟨nd,rfl⟩⟩));go_meet
   case rel=>exact⟨_,(!aM),eA,H',⟨by first|omega|exact Nat.le_refl _⟩,⟨wZ HB⟩⟩
  ·replace c6:=pD c6;subst c6;rw[if_neg pV]at H;have H':=bm H;clear H;go_wp2_with (first|(refine gB (some 9) Tryz.func68 #[.int .i64 a0,.slice A1 l1.length c1] rfl ?_;(refine(iv.calls k a0 _ _ l1 false _ ?_ ?_ A5.out).mono ?_);exact cY ay HB;exact aA.out;rintro e _ ⟨rfl,hb⟩;refine⟨_,rfl,?_⟩;replace HB:=bW HB hb;clear hb));go_meet
   case rel=>exact⟨_,(true),eA,H',⟨by first|omega|exact Nat.le_refl _⟩,⟨wZ HB⟩⟩
 case rest=>
  clear ak;obtain⟨kq,ae,rfl,HA,bu,HB⟩:=hcut;cases kq with
  |zero=>exact absurd HA.out (by simp[jz.j0])
  |succ sO=>
   have H:=HA.out;clear HA;simp only[jz.j0]at H;by_cases c10:ae=true
   ·subst c10;rw[if_pos rfl]at H;obtain rfl:=pd H;go_wp2;go_ret;exact⟨eF,wZ HB⟩
   ·replace c10:=pD c10;subst c10;rw[if_neg pV]at H;obtain⟨bh,cd,H⟩:=bE H;try dsimp only at H
    obtain⟨cc,bw,H⟩:=bE H;try dsimp only at H
    obtain rfl:=pd H;go_wp2_with (first|(refine gB (some 20) Tryz.func96 #[.int .i64 a0] rfl ?_;(refine(mh.calls a0 bh _ cd.out).mono ?_);rintro e w' ⟨rfl,⟨nd,rfl⟩⟩;refine⟨_,rfl,?_⟩)|(refine gB (some 23) Tryz.func101 #[.int .i64 a0,.slice A1 l1.length c1,.int .i64 (wrap64 (bh - a2))] rfl ?_;(refine(iV.calls sO a0 _ _ l1 (wrap64 (bh - a2)) cc _ ?_ ?_ bw.out).mono ?_);exact cZ (Kd.C_below ay.out (wZ HB));exact aA.out;rintro e _ ⟨rfl,hb⟩;refine⟨_,rfl,?_⟩;replace HB:=bW HB hb;clear hb));go_ret;exact⟨eF,wZ HB⟩
def kK.j0:Nat→Int→LI→Int→Bool→Option (Int)
 |0,_,_,_,_=>none
 |k+1,x0,x1,x2,x17=>if x17=true then(some (-1))else((mh.f x0).bind fun au=>((gZ.f k x1 au).bind fun bk=>((gZ.f k x1 (wrap64 (au - x2))).bind fun bl=>((jU.f k bk bl).bind fun cf=>(some cf)))))
def kK.f (k:Nat) (a0:Int) (l1:LI) (a2:Int):Option (Int):=(iv.f k a0 l1).bind fun bn=>(if bn=true then((kc.f a0 a2).bind fun aN=>(kK.j0 k a0 l1 a2 (!aN)))else(kK.j0 k a0 l1 a2 true))
theorem kK.hZ:∀k,(∀y0 y1 y2 y3,lS (kK.j0 k y0 y1 y2 y3) (kK.j0 (k+1) y0 y1 y2 y3))
 |0=>fun _ _ _ _=> .z (by simp only[kK.j0])
 |k+1=>by
  have i0:=kK.hZ k;exact fun _ _ _ _=>by unfold kK.j0;infer_instance
instance kK.mo {k a0 a1 a2}:lS (kK.f k a0 a1 a2) (kK.f (k+1) a0 a1 a2):=by have i0:=kK.hZ k;unfold kK.f;infer_instance
theorem kK.calls (k:Nat) (a0:Int) (A1:Option Addr) (c1:Nat) (l1:LI) (a2:Int) (r:Int) (w:World) (bf:Kd.C KI w A1 l1.length l1) (bg:l1.length≤c1) (h:kK.f k a0 l1 a2=some r):
  Calls Tryz.prog 64 #[.int .i64 a0,.slice A1 l1.length c1,.int .i64 a2] w fun e w'=>e= .returned (.int .i64 r)∧Below w.heap.size w w':=by
 have ay:=bm bf;have aA:=bm bg;clear bf bg;have HB:=bm (Below.refl w.heap.size w);have H:=h;clear h;unfold kK.f at H;have ak:=bm H;clear H;go_enter Tryz.func64,Tryz.ntmps64;go_upto_region 1 with(fail)
 go_cut [17] (fun cI wc=>∃(kq:Nat) (aZ:Bool),cI= .bool aZ∧hJ (kK.j0 kq a0 l1 a2 aZ=some r)∧hJ (kq≤k)∧hJ (Below w.heap.size w wc))
 case first=>
  have H:=ak.out;clear ak;obtain⟨bn,A5,H⟩:=bE H;try dsimp only at H
  by_cases c6:bn=true
  ·subst c6;rw[if_pos rfl]at H;obtain⟨aN,A7,H⟩:=bE H;try dsimp only at H
   have H':=bm H;clear H;go_wp2_with (first|(refine gB (some 10) Tryz.func68 #[.int .i64 a0,.slice A1 l1.length c1] rfl ?_;(refine(iv.calls k a0 _ _ l1 true _ ?_ ?_ A5.out).mono ?_);exact cY ay HB;exact aA.out;rintro e _ ⟨rfl,hb⟩;refine⟨_,rfl,?_⟩;replace HB:=bW HB hb;clear hb)|(go_at_call 97;(with_reducible refine(kc.calls a0 a2 aN _ A7.out).mono ?_);rintro e w' ⟨rfl,⟨nd,rfl⟩⟩));go_meet
   case rel=>exact⟨_,(!aN),eA,H',⟨by first|omega|exact Nat.le_refl _⟩,⟨wZ HB⟩⟩
  ·replace c6:=pD c6;subst c6;rw[if_neg pV]at H;have H':=bm H;clear H;go_wp2_with (first|(refine gB (some 10) Tryz.func68 #[.int .i64 a0,.slice A1 l1.length c1] rfl ?_;(refine(iv.calls k a0 _ _ l1 false _ ?_ ?_ A5.out).mono ?_);exact cY ay HB;exact aA.out;rintro e _ ⟨rfl,hb⟩;refine⟨_,rfl,?_⟩;replace HB:=bW HB hb;clear hb));go_meet
   case rel=>exact⟨_,(true),eA,H',⟨by first|omega|exact Nat.le_refl _⟩,⟨wZ HB⟩⟩
 case rest=>
  clear ak;obtain⟨kq,aZ,rfl,HA,bu,HB⟩:=hcut;cases kq with
  |zero=>exact absurd HA.out (by simp[kK.j0])
  |succ sO=>
   have H:=HA.out;clear HA;simp only[kK.j0]at H;by_cases c10:aZ=true
   ·subst c10;rw[if_pos rfl]at H;obtain rfl:=pd H;go_wp2;go_ret;exact⟨eF,wZ HB⟩
   ·replace c10:=pD c10;subst c10;rw[if_neg pV]at H;obtain⟨au,cd,H⟩:=bE H;try dsimp only at H
    obtain⟨bk,bw,H⟩:=bE H;try dsimp only at H
    obtain⟨bl,dK,H⟩:=bE H;try dsimp only at H
    obtain⟨cf,dL,H⟩:=bE H;try dsimp only at H
    obtain rfl:=pd H;go_wp2_with (first|(refine gB (some 19) Tryz.func96 #[.int .i64 a0] rfl ?_;(refine(mh.calls a0 au _ cd.out).mono ?_);rintro e w' ⟨rfl,⟨nd,rfl⟩⟩;refine⟨_,rfl,?_⟩)|(refine gB (some 22) Tryz.func95 #[.slice A1 l1.length c1,.int .i64 au] rfl ?_;(refine(gZ.calls sO _ _ l1 au bk _ ?_ ?_ bw.out).mono ?_);exact cZ (Kd.C_below ay.out (wZ HB));exact aA.out;rintro e _ ⟨rfl,hb⟩;refine⟨_,rfl,?_⟩;replace HB:=bW HB hb;clear hb)|(refine gB (some 27) Tryz.func95 #[.slice A1 l1.length c1,.int .i64 (wrap64 (au - a2))] rfl ?_;(refine(gZ.calls sO _ _ l1 (wrap64 (au - a2)) bl _ ?_ ?_ dK.out).mono ?_);exact cY ay HB;exact aA.out;rintro e _ ⟨rfl,hb⟩;refine⟨_,rfl,?_⟩;replace HB:=bW HB hb;clear hb)|(refine gB (some 28) Tryz.func102 #[.int .i64 bk,.int .i64 bl] rfl ?_;(refine(jU.calls sO bk bl cf _ dL.out).mono ?_);rintro e w' ⟨rfl,⟨nd,rfl⟩⟩;refine⟨_,rfl,?_⟩));go_ret;exact⟨eF,wZ HB⟩
def kM.l0:Nat→Int→Int→Int→Int→Option (Int)
 |0,_,_,_,_=>none
 |k+1,x0,x1,x5,x6=>if x6<3 then(if 0≤x6 then(if(Int.tmod (shr .i64 x0 x6) 2)=(Int.tmod (shr .i64 x1 x6) 2)then(kM.l0 k x0 x1 x5 (wrap64 (x6+1)))else(kM.l0 k x0 x1 (wrap64 (x5+1)) (wrap64 (x6+1))))else(none))else(some x5)
def kM.f (k:Nat) (a0:Int) (a1:Int):Option (Int):=kM.l0 k a0 a1 0 0
theorem kM.hZ:∀k,(∀y0 y1 y2 y3,lS (kM.l0 k y0 y1 y2 y3) (kM.l0 (k+1) y0 y1 y2 y3))
 |0=>fun _ _ _ _=> .z (by simp only[kM.l0])
 |k+1=>by
  have i0:=kM.hZ k;exact fun _ _ _ _=>by unfold kM.l0;infer_instance
instance kM.mo {k a0 a1}:lS (kM.f k a0 a1) (kM.f (k+1) a0 a1):=by have i0:=kM.hZ k;unfold kM.f;infer_instance
theorem kM.calls (k:Nat) (a0:Int) (a1:Int) (r:Int) (w:World) (h:kM.f k a0 a1=some r):
  Calls Tryz.prog 125 #[.int .i64 a0,.int .i64 a1] w fun e w'=>e= .returned (.int .i64 r)∧Drawn0 w w':=by
 have H:=h;clear h;unfold kM.f at H;have H':=bm H;clear H;go_enter Tryz.func125,Tryz.ntmps125;go_wp2;repeat(go_quiet (fail);try go_wp2)
 go_loopg [5,6] k (fun kq v5 v6 w'=>∃(bo:Int) (j:Int),v5= .int .i64 bo∧v6= .int .i64 j∧hJ (kM.l0 kq a0 a1 bo j=some r)∧hJ (kq≤k)∧Drawn0 w w')
 case atStart=>exact⟨(0),(0),eA,eA,H',⟨Nat.le_refl _⟩,by repeat(first|exact Drawn0.refl _|apply Drawn0.step)⟩
 case round=>
  clear H';obtain⟨bo,j,rfl,rfl,HA,aj,⟨m1,rfl⟩⟩:=hrel;cases gk with
  |zero=>exact absurd HA.out (by simp[kM.l0])
  |succ k1=>
   have H:=HA.out;clear HA;simp only[kM.l0]at H;rcases pP H with⟨df,H⟩|⟨df,H⟩
   ·obtain⟨b7,dY,H⟩:=pO H;obtain⟨bZ,bF⟩:∃j_:Int,(shr .i64 a0 j)=j_:=⟨_,rfl⟩;first|rw[bF]at H|simp only[bF]at H
    have dM:(a0/2^min j.toNat 64)=bZ:=bF;have dN:j≤64→(a0/2^j.toNat)=bZ:=shr_small bF;have b8:=pM (ko:0≤j);obtain⟨b0,bH⟩:∃j_:Int,(shr .i64 a1 j)=j_:=⟨_,rfl⟩;first|rw[bH]at H|simp only[bH]at H
    have dO:(a1/2^min j.toNat 64)=b0:=bH;have dP:j≤64→(a1/2^j.toNat)=b0:=shr_small bH;rcases iT H with⟨c8,H⟩|⟨c8,H⟩
    ·obtain⟨dg,dh⟩:=pf c8;clear c8;have H':=bm H;clear H;go_wp2;repeat(go_quiet (fail);try go_wp2)
     go_roundg k1
     case measure=>have:=aj.out;omega
     case rel=>exact⟨(bo),(wrap64 (j+1)),eA,eA,H',⟨by have:=aj.out;omega⟩,by repeat(first|exact Drawn0.refl _|apply Drawn0.step)⟩
    ·obtain⟨dg,dh⟩:=pe c8;have H':=bm H;clear H;go_wp2;repeat(go_quiet (fail);try go_wp2)
     go_roundg k1
     case measure=>have:=aj.out;omega
     case rel=>exact⟨(wrap64 (bo+1)),(wrap64 (j+1)),eA,eA,H',⟨by have:=aj.out;omega⟩,by repeat(first|exact Drawn0.refl _|apply Drawn0.step)⟩
   ·obtain rfl:=pd H;go_wp2;repeat(go_quiet (fail);try go_wp2)
    go_ret;exact rq
mutual
def iI.j0:Nat→Int→Int→LI→Bool→Option LI
 |0,_,_,_,_=>none
 |k+1,x0,x1,x5,x17=>if x17=true then(some x5)else(iI.l0 k x0 x1 x5 0)
def iI.l0:Nat→Int→Int→LI→Int→Option LI
 |0,_,_,_,_=>none
 |k+1,x0,x1,x5,x6=>if 0≤x0 then(if x6<(shl .i64 1 x0)then(iI.l1 k x0 x1 x5 x6 4 0)else(some x5))else(none)
def iI.l1:Nat→Int→Int→LI→Int→Int→Int→Option LI
 |0,_,_,_,_,_,_=>none
 |k+1,x0,x1,x5,x6,x7,x8=>if 0≤x0 then(if x8<(shl .i64 1 x0)then((kz.f x1 x8).bind fun av=>(if av=1 then((kM.f k x8 x6).bind fun aQ=>(iI.l1 k x0 x1 x5 x6 (mn x7 aQ) (wrap64 (x8+1))))else(iI.l1 k x0 x1 x5 x6 x7 (wrap64 (x8+1)))))else(if x5.length<17592186044416 then(iI.l0 k x0 x1 (x5++ [x7]) (wrap64 (x6+1)))else(none)))else(none)
end
def iI.f (k:Nat) (a0:Int) (a1:Int):Option LI:=(some (([]:LI):LI)).bind fun ag=>((kc.f a0 a1).bind fun aH=>(if aH=true then(iI.j0 k a0 a1 ag (a1==0))else(iI.j0 k a0 a1 ag true)))
theorem iI.hZ:∀k,(∀y0 y1 y2 y3,lS (iI.j0 k y0 y1 y2 y3) (iI.j0 (k+1) y0 y1 y2 y3))∧(∀y0 y1 y2 y3,lS (iI.l0 k y0 y1 y2 y3) (iI.l0 (k+1) y0 y1 y2 y3))∧(∀y0 y1 y2 y3 y4 y5,lS (iI.l1 k y0 y1 y2 y3 y4 y5) (iI.l1 (k+1) y0 y1 y2 y3 y4 y5))
 |0=>⟨fun _ _ _ _=> .z (by simp only[iI.j0]),fun _ _ _ _=> .z (by simp only[iI.l0]),fun _ _ _ _ _ _=> .z (by simp only[iI.l1])⟩
 |k+1=>by
  have⟨i0,i1,i2⟩:=iI.hZ k;exact⟨fun _ _ _ _=>by unfold iI.j0;infer_instance,fun _ _ _ _=>by unfold iI.l0;infer_instance,fun _ _ _ _ _ _=>by unfold iI.l1;infer_instance⟩
instance iI.mo {k a0 a1}:lS (iI.f k a0 a1) (iI.f (k+1) a0 a1):=by have⟨i0,i1,i2⟩:=iI.hZ k;unfold iI.f;infer_instance
theorem iI.mono:∀a0 a1 k,LeO (iI.f k a0 a1) (iI.f (k+1) a0 a1):=fun _ _ _=>iI.mo.h
theorem iI.calls (k:Nat) (a0:Int) (a1:Int) (r:LI) (w:World) (h:iI.f k a0 a1=some r):
  Calls Tryz.prog 103 #[.int .i64 a0,.int .i64 a1] w fun e w'=>∃di:Value,e= .returned (di)∧Kd.R KI 3 w' w.heap.size (fun _=>True) di r∧Below w.heap.size w w':=by
 have HB:=bm (Below.refl w.heap.size w);have H:=h;clear h;unfold iI.f at H;obtain⟨ag,bx⟩:∃y_:LI,y_=(([]:LI)):=⟨_,rfl⟩;replace H:((kc.f a0 a1).bind fun aH=>(if aH=true then(iI.j0 k a0 a1 ag (a1==0))else(iI.j0 k a0 a1 ag true)))=some r:=by first|(rw[bx];exact H)|exact H
 have cg:=bm bx;clear bx;have cJ:=bm H;clear H;go_enter Tryz.func103,Tryz.ntmps103;go_upto_region 2 with(first|((with_reducible refine gate_dst (N:=9) rfl ?_);refine Kd.R_lit KI _ 3 ?hg (N:=9) ?hd (xs:=([]:LI)) (inner:=[]) (ok:=fun _=>True) (okp:=fun _=>True) ?hr ?hp (fun _ hk=>hk) trivial (Below.refl _ _) (Nat.le_refl _) (by simp) ?_;(case hd=>rfl);(case hg=>rfl);(case hr=>first|(go_simp;done)|(go_simp;rfl));(case hp=>exact(Reps.none _ _));intro dj _ ch hb dQ cK;clear dQ cK;(first|rw[←cg.out]at ch|(simp only[Int.reduceToNat]at ch;rw[←cg.out]at ch));have cj:=rL ch HB;replace HB:=bW HB hb;clear hb ch))
 (try simp only[Act.put,qA,qB,qC]);go_cut [17] (fun cI wc=>∃(kq:Nat) (a6:Bool),cI= .bool a6∧hJ (iI.j0 kq a0 a1 ag a6=some r)∧hJ (kq≤k)∧hJ (Kd.R KI 3 wc w.heap.size (fun _=>True) dj ag)∧hJ (Below w.heap.size w wc))
 case first=>
  have H:=cJ.out;clear cJ;obtain⟨aH,A6,H⟩:=bE H;try dsimp only at H
  by_cases c7:aH=true
  ·subst c7;rw[if_pos rfl]at H;have H':=bm H;clear H;go_wp2_with (first|(refine gB (some 12) Tryz.func97 #[.int .i64 a0,.int .i64 a1] rfl ?_;(refine(kc.calls a0 a1 true _ A6.out).mono ?_);rintro e w' ⟨rfl,⟨nd,rfl⟩⟩;refine⟨_,rfl,?_⟩));go_meet
   case rel=>exact⟨_,((a1==0)),eA,H',⟨by first|omega|exact Nat.le_refl _⟩,⟨rS cj⟩,⟨wZ HB⟩⟩
  ·replace c7:=pD c7;subst c7;rw[if_neg pV]at H;have H':=bm H;clear H;go_wp2_with (first|(refine gB (some 12) Tryz.func97 #[.int .i64 a0,.int .i64 a1] rfl ?_;(refine(kc.calls a0 a1 false _ A6.out).mono ?_);rintro e w' ⟨rfl,⟨nd,rfl⟩⟩;refine⟨_,rfl,?_⟩));go_meet
   case rel=>exact⟨_,(true),eA,H',⟨by first|omega|exact Nat.le_refl _⟩,⟨rS cj⟩,⟨wZ HB⟩⟩
 case rest=>
  clear cJ;obtain⟨kq,a6,rfl,HA,b1,oT,HB⟩:=hcut;cases kq with
  |zero=>exact absurd HA.out (by simp[iI.j0])
  |succ wU=>
   have H:=HA.out;clear HA;simp only[iI.j0]at H;by_cases c8:a6=true
   ·subst c8;rw[if_pos rfl]at H;obtain rfl:=pd H;go_wp2;go_ret;exact⟨_,eF,by(repeat apply Kd.RS);exact oT.out,wZ HB⟩
   ·replace c8:=pD c8;subst c8;rw[if_neg pV]at H;have H':=bm H;clear H;go_wp2;go_loopg [5,6] wU (fun kq v5 v6 w'=>∃(aI:LI) (aw:Int),v6= .int .i64 aw∧hJ (iI.l0 kq a0 a1 aI aw=some r)∧hJ (kq≤wU)∧hJ (Kd.R KI 3 w' w.heap.size (fun _=>True) v5 aI)∧hJ (Below w.heap.size w w'))
    case atStart=>exact⟨(ag),(0),eA,H',⟨Nat.le_refl _⟩,⟨rS oT⟩,⟨wZ HB⟩⟩
    case round=>
     clear H';obtain⟨aI,aw,rfl,HA,aD,oT,HB⟩:=hrel;cases gk with
     |zero=>exact absurd HA.out (by simp[iI.l0])
     |succ k2=>
      have H:=HA.out;clear HA;simp only[iI.l0]at H;obtain⟨bB,bD,H⟩:=pO H;obtain⟨af,aa⟩:∃j_:Int,(shl .i64 1 a0)=j_:=⟨_,rfl⟩;first|rw[aa]at H|simp only[aa]at H
      have a7:(IntKind.i64.wrap (1*2^min a0.toNat 64))=af:=aa;have a8:a0≤64→(IntKind.i64.wrap (1*2^a0.toNat))=af:=shl_small aa;have cq:(IntKind.i64.wrap (2^min a0.toNat 64))=af:=by have h_:=a7;rw[Int.one_mul]at h_;exact h_
      have cr:a0≤64→(IntKind.i64.wrap (2^a0.toNat))=af:=fun ck=>by have h_:=a8 ck;rw[Int.one_mul]at h_;exact h_
      have ct:(wrap64 (1*2^min a0.toNat 64))=af:=(i64_w _).symm.trans a7;have cu:a0≤64→(wrap64 (1*2^a0.toNat))=af:=fun h_=>(i64_w _).symm.trans (a8 h_)
      rcases pP H with⟨aW,H⟩|⟨aW,H⟩
      ·have H':=bm H;clear H;go_wp2;go_loopg [7,8] k2 (fun kq v7 v8 w'=>∃(ai:Int) (ah:Int),v7= .int .i64 ai∧v8= .int .i64 ah∧hJ (iI.l1 kq a0 a1 aI aw ai ah=some r)∧hJ (kq≤k2)∧hJ (Kd.R KI 3 w' w.heap.size (fun _=>True) u5 aI)∧hJ (Below w.heap.size w w'))
       case atStart=>exact⟨(4),(0),eA,eA,H',⟨Nat.le_refl _⟩,⟨rS oT⟩,⟨wZ HB⟩⟩
       case round=>
        clear H';obtain⟨ai,ah,rfl,rfl,HA,b4,oT,HB⟩:=hrel;cases gk with
        |zero=>exact absurd HA.out (by simp[iI.l1])
        |succ k3=>
         have H:=HA.out;clear HA;simp only[iI.l1]at H;obtain⟨dR,dS,H⟩:=pO H;obtain⟨aR,ba⟩:∃j_:Int,(shl .i64 1 a0)=j_:=⟨_,rfl⟩;(try clear a7);(try clear cq);(try clear cr);(try clear cu);(try clear ct);(try clear a8);first|rw[ba]at H|simp only[ba]at H
         have bJ:(IntKind.i64.wrap (1*2^min a0.toNat 64))=aR:=ba;have bO:a0≤64→(IntKind.i64.wrap (1*2^a0.toNat))=aR:=shl_small ba;have du:(IntKind.i64.wrap (2^min a0.toNat 64))=aR:=by have h_:=bJ;rw[Int.one_mul]at h_;exact h_
         have dv:a0≤64→(IntKind.i64.wrap (2^a0.toNat))=aR:=fun ck=>by have h_:=bO ck;rw[Int.one_mul]at h_;exact h_
         have dw:(wrap64 (1*2^min a0.toNat 64))=aR:=(i64_w _).symm.trans bJ;have dx:a0≤64→(wrap64 (1*2^a0.toNat))=aR:=fun h_=>(i64_w _).symm.trans (bO h_)
         rcases pP H with⟨bs,H⟩|⟨bs,H⟩
         ·obtain⟨av,cM,H⟩:=bE H;try dsimp only at H
          rcases iT H with⟨b5,H⟩|⟨b5,H⟩
          ·obtain⟨cN,cO⟩:=pf b5;clear b5;obtain⟨aQ,dk,H⟩:=bE H;try dsimp only at H
           obtain⟨cy,aq⟩:∃j_:Int,(mn ai aQ)=j_:=⟨_,rfl⟩;first|rw[aq]at H|simp only[aq]at H
           (try rw[aq]at cM);(try rw[aq]at dk);have dy:(if aQ<ai then aQ else ai)=cy:=aq;have H':=bm H;clear H;go_wp2_with (first|(refine gB (some 33) Tryz.func98 #[.int .i64 a1,.int .i64 ah] rfl ?_;(refine(kz.calls a1 ah av _ cM.out).mono ?_);rintro e w' ⟨rfl,⟨nd,rfl⟩⟩;refine⟨_,rfl,?_⟩)|(refine gB (some 38) Tryz.func125 #[.int .i64 ah,.int .i64 aw] rfl ?_;(refine(kM.calls k3 ah aw aQ _ dk.out).mono ?_);rintro e w' ⟨rfl,⟨nd,rfl⟩⟩;refine⟨_,rfl,?_⟩));go_roundg k3
           case measure=>have:=b1.out;have:=aD.out;have:=b4.out;omega
           case rel=>exact⟨(cy),(wrap64 (ah+1)),(by first|rfl|(simp;done)|(simp only[←aq]<;>(first|rfl|simp))|(simp[*];done)),eA,H',⟨by have:=b1.out;have:=aD.out;have:=b4.out;omega⟩,⟨rS oT⟩,⟨wZ HB⟩⟩
          ·obtain⟨cN,cO⟩:=pe b5;have H':=bm H;clear H;go_wp2_with (first|(refine gB (some 33) Tryz.func98 #[.int .i64 a1,.int .i64 ah] rfl ?_;(refine(kz.calls a1 ah av _ cM.out).mono ?_);rintro e w' ⟨rfl,⟨nd,rfl⟩⟩;refine⟨_,rfl,?_⟩));go_roundg k3
           case measure=>have:=b1.out;have:=aD.out;have:=b4.out;omega
           case rel=>exact⟨(ai),(wrap64 (ah+1)),eA,eA,H',⟨by have:=b1.out;have:=aD.out;have:=b4.out;omega⟩,⟨rS oT⟩,⟨wZ HB⟩⟩
         ·obtain⟨bT,H⟩:=iN H;have cP:=bm bT;clear bT;obtain⟨cz,bA⟩:∃y_:LI,y_=(aI++ [ai]):=⟨_,rfl⟩;rw[←bA]at H
          have cQ:=bm bA;clear bA;have H':=bm H;clear H;go_wp2_with (first|((with_reducible refine gate_builtin (b:=.append) (xs:= #[.tmp 40,.tmp 42]) rfl ?_);at_builtin;refine Kd.R_append KI (w0:=w) w.heap.size rfl (.tmp 40) (.tmp 42) 23 3 (.int .i64 0) 8 rfl Tryz.underlying23 info3 rfl (by decide) (by omega) u5 aI ai [.int .i64 ai] (fun _=>True) (fun _=>False) rfl rfl ?aP (fun _ hk=>hk.elim) ?aF ?aO ?aB ?aS ?aL ?_;(case aP=>exact rfl);(case aB=>exact(wZ HB));(case aF=>exact(fun _ _=>trivial));(case aO=>exact(rS oT));(case aS=>exact(below_size (wZ HB)));(case aL=>have:=cP.out;omega);intro _ _ ho hb hg dT;rw[←cQ.out]at ho;replace HB:=bm (hb);have cR:=bm (ho);clear oT;clear ho hb hg dT));go_roundg k3
          case measure=>have:=b1.out;have:=aD.out;have:=b4.out;omega
          case rel=>exact⟨(cz),(wrap64 (aw+1)),eA,H',⟨by have:=b1.out;have:=aD.out;have:=b4.out;omega⟩,⟨rS cR⟩,⟨wZ HB⟩⟩
      ·obtain rfl:=pd H;go_wp2;go_ret;exact⟨_,by first|rfl|(simp[iJ,iK]<;>rfl)|(simp only[←aa];first|rfl|(simp[iJ,iK]<;>rfl))|(simp[*,iJ,iK]<;>rfl),by(repeat apply Kd.RS);exact oT.out,wZ HB⟩
def ka.j0:Nat→Int→Int→Int→Bool→Option (Int)
 |0,_,_,_,_=>none
 |k+1,x0,x1,x2,x16=>if x16=true then(some (-1))else(if x1=0 then(some x2)else((iI.f k x0 x1).bind fun bp=>((gZ.f k bp x2).bind fun cl=>(some cl))))
def ka.f (k:Nat) (a0:Int) (a1:Int) (a2:Int):Option (Int):=(kc.f a0 a1).bind fun bq=>(if bq=true then((kc.f a0 a2).bind fun aT=>(ka.j0 k a0 a1 a2 (!aT)))else(ka.j0 k a0 a1 a2 true))
theorem ka.hZ:∀k,(∀y0 y1 y2 y3,lS (ka.j0 k y0 y1 y2 y3) (ka.j0 (k+1) y0 y1 y2 y3))
 |0=>fun _ _ _ _=> .z (by simp only[ka.j0])
 |k+1=>by
  have i0:=ka.hZ k;exact fun _ _ _ _=>by unfold ka.j0;infer_instance
instance ka.mo {k a0 a1 a2}:lS (ka.f k a0 a1 a2) (ka.f (k+1) a0 a1 a2):=by have i0:=ka.hZ k;unfold ka.f;infer_instance
theorem ka.calls (k:Nat) (a0:Int) (a1:Int) (a2:Int) (r:Int) (w:World) (h:ka.f k a0 a1 a2=some r):
  Calls Tryz.prog 66 #[.int .i64 a0,.int .i64 a1,.int .i64 a2] w fun e w'=>e= .returned (.int .i64 r)∧Below w.heap.size w w':=by
 have HB:=bm (Below.refl w.heap.size w);have H:=h;clear h;unfold ka.f at H;have ak:=bm H;clear H;go_enter Tryz.func66,Tryz.ntmps66;go_upto_region 1 with(fail)
 go_cut [16] (fun cH wc=>∃(kq:Nat) (ae:Bool),cH= .bool ae∧hJ (ka.j0 kq a0 a1 a2 ae=some r)∧hJ (kq≤k)∧hJ (Below w.heap.size w wc))
 case first=>
  have H:=ak.out;clear ak;obtain⟨bq,A5,H⟩:=bE H;try dsimp only at H
  by_cases c6:bq=true
  ·subst c6;rw[if_pos rfl]at H;obtain⟨aT,A7,H⟩:=bE H;try dsimp only at H
   have H':=bm H;clear H;go_wp2_with (first|(refine gB (some 9) Tryz.func97 #[.int .i64 a0,.int .i64 a1] rfl ?_;(refine(kc.calls a0 a1 true _ A5.out).mono ?_);rintro e w' ⟨rfl,⟨nd,rfl⟩⟩;refine⟨_,rfl,?_⟩)|(go_at_call 97;(with_reducible refine(kc.calls a0 a2 aT _ A7.out).mono ?_);rintro e w' ⟨rfl,⟨nd,rfl⟩⟩));go_meet
   case rel=>exact⟨_,(!aT),eA,H',⟨by first|omega|exact Nat.le_refl _⟩,⟨wZ HB⟩⟩
  ·replace c6:=pD c6;subst c6;rw[if_neg pV]at H;have H':=bm H;clear H;go_wp2_with (first|(refine gB (some 9) Tryz.func97 #[.int .i64 a0,.int .i64 a1] rfl ?_;(refine(kc.calls a0 a1 false _ A5.out).mono ?_);rintro e w' ⟨rfl,⟨nd,rfl⟩⟩;refine⟨_,rfl,?_⟩));go_meet
   case rel=>exact⟨_,(true),eA,H',⟨by first|omega|exact Nat.le_refl _⟩,⟨wZ HB⟩⟩
 case rest=>
  clear ak;obtain⟨kq,ae,rfl,HA,bu,HB⟩:=hcut;cases kq with
  |zero=>exact absurd HA.out (by simp[ka.j0])
  |succ sO=>
   have H:=HA.out;clear HA;simp only[ka.j0]at H;by_cases c8:ae=true
   ·subst c8;rw[if_pos rfl]at H;obtain rfl:=pd H;go_wp2;go_ret;exact⟨eF,wZ HB⟩
   ·replace c8:=pD c8;subst c8;rw[if_neg pV]at H;rcases iT H with⟨c9,H⟩|⟨c9,H⟩
    ·obtain⟨bB,bD⟩:=pf c9;clear c9;obtain rfl:=pd H;go_wp2;go_ret;exact⟨eF,wZ HB⟩
    ·obtain⟨bB,bD⟩:=pe c9;obtain⟨bp,dU,H⟩:=bE H;try dsimp only at H
     obtain⟨cl,cd,H⟩:=bE H;try dsimp only at H
     obtain rfl:=pd H;go_wp2_with (first|(refine gB (some 22) Tryz.func103 #[.int .i64 a0,.int .i64 a1] rfl ?_;(refine(iI.calls sO a0 a1 bp _ dU.out).mono ?_);rintro e _ ⟨_,rfl,dm,hb⟩;refine⟨_,rfl,?_⟩;have aJ:=rL dm HB;replace HB:=bW HB hb;clear hb;(try clear dm);obtain⟨dn,dp,dq⟩:=Kd.R_slice aJ.out;subst dq)|(refine gB (some 24) Tryz.func95 #[.slice dn bp.length dp,.int .i64 a2] rfl ?_;(refine(gZ.calls sO _ _ bp a2 cl _ ?_ ?_ cd.out).mono ?_);exact cZ (Kd.R_reads' aJ.out).2.2;exact(Kd.R_reads' aJ.out).2.1;rintro e _ ⟨rfl,hb⟩;refine⟨_,rfl,?_⟩;replace aJ:=bR aJ hb;replace HB:=bW HB hb;clear hb));go_ret;exact⟨eF,wZ HB⟩
end Go.Proofs.YtigeaokfhnlkcaaGreatDoor.P
