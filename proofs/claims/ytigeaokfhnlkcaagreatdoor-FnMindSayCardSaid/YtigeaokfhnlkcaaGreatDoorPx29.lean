import Derived.Test.YtigeaokfhnlkcaaGreatDoorPx0
import Derived.Test.YtigeaokfhnlkcaaGreatDoorPx2
import Derived.Test.YtigeaokfhnlkcaaGreatDoorPx4
import Derived.Test.YtigeaokfhnlkcaaGreatDoorPx5
import Derived.Test.YtigeaokfhnlkcaaGreatDoorPx28
namespace Go.Proofs.YtigeaokfhnlkcaaGreatDoor.P
open Go.RowKit YtigeaokfhnlkcaaGreatDoorW PrintWords PrintLast PrintMore
attribute [local go_sem] max2_int min2_int max_two min_two max_three min_three max_four min_four
set_option linter.unusedVariables false
set_option linter.unusedSimpArgs false
set_option maxHeartbeats 8000000
set_option maxRecDepth 100000
mutual
def jq.j0:Nat→Int→Int→Int→Bool→Option (Int)
 |0,_,_,_,_=>none
 |k+1,x0,x1,x2,x18=>if x18=true then(some (-1))else(jq.l0 k x0 x1 x2 0 0)
def jq.l0:Nat→Int→Int→Int→Int→Int→Option (Int)
 |0,_,_,_,_,_=>none
 |k+1,x0,x1,x2,x7,x8=>if 0≤x0 then(if x8<(shl .i64 1 x0)then((kz.f x1 x8).bind fun af=>(if af=1 then(if 0≤x8 then((ka.f k x0 (shl .i64 1 x8) x2).bind fun av=>((jU.f k x7 av).bind fun aB=>(jq.l0 k x0 x1 x2 aB (wrap64 (x8+1)))))else(none))else(jq.l0 k x0 x1 x2 x7 (wrap64 (x8+1)))))else(some x7))else(none)
end
def jq.f (k:Nat) (a0:Int) (a1:Int) (a2:Int):Option (Int):=(kc.f a0 a1).bind fun aw=>(if aw=true then((kc.f a0 a2).bind fun ak=>(jq.j0 k a0 a1 a2 (!ak)))else(jq.j0 k a0 a1 a2 true))
theorem jq.hZ:∀k,(∀y0 y1 y2 y3,lS (jq.j0 k y0 y1 y2 y3) (jq.j0 (k+1) y0 y1 y2 y3))∧(∀y0 y1 y2 y3 y4,lS (jq.l0 k y0 y1 y2 y3 y4) (jq.l0 (k+1) y0 y1 y2 y3 y4))
 |0=>⟨fun _ _ _ _=> .z (by simp only[jq.j0]),fun _ _ _ _ _=> .z (by simp only[jq.l0])⟩
 |k+1=>by
  have⟨i0,i1⟩:=jq.hZ k;exact⟨fun _ _ _ _=>by unfold jq.j0;infer_instance,fun _ _ _ _ _=>by unfold jq.l0;infer_instance⟩
instance jq.mo {k a0 a1 a2}:lS (jq.f k a0 a1 a2) (jq.f (k+1) a0 a1 a2):=by have⟨i0,i1⟩:=jq.hZ k;unfold jq.f;infer_instance
theorem jq.calls (k:Nat) (a0:Int) (a1:Int) (a2:Int) (r:Int) (w:World) (h:jq.f k a0 a1 a2=some r):
  Calls Tryz.prog 65 #[.int .i64 a0,.int .i64 a1,.int .i64 a2] w fun e w'=>e= .returned (.int .i64 r)∧Below w.heap.size w w':=by
 have HB:=bm (Below.refl w.heap.size w);have H:=h;clear h;unfold jq.f at H;have aA:=bm H;clear H;go_enter Tryz.func65,Tryz.ntmps65;go_upto_region 1 with(fail)
 go_cut [18] (fun bJ wc=>∃(kq:Nat) (ar:Bool),bJ= .bool ar∧hJ (jq.j0 kq a0 a1 a2 ar=some r)∧hJ (kq≤k)∧hJ (Below w.heap.size w wc))
 case first=>
  have H:=aA.out;clear aA;obtain⟨aw,A5,H⟩:=bE H;try dsimp only at H
  by_cases c6:aw=true
  ·subst c6;rw[if_pos rfl]at H;obtain⟨ak,A7,H⟩:=bE H;try dsimp only at H
   have H':=bm H;clear H;go_wp2_with (first|(refine gB (some 11) Tryz.func97 #[.int .i64 a0,.int .i64 a1] rfl ?_;(refine(kc.calls a0 a1 true _ A5.out).mono ?_);rintro e w' ⟨rfl,⟨nd,rfl⟩⟩;refine⟨_,rfl,?_⟩)|(go_at_call 97;(with_reducible refine(kc.calls a0 a2 ak _ A7.out).mono ?_);rintro e w' ⟨rfl,⟨nd,rfl⟩⟩));go_meet
   case rel=>exact⟨_,(!ak),eA,H',⟨by first|omega|exact Nat.le_refl _⟩,⟨wZ HB⟩⟩
  ·replace c6:=pD c6;subst c6;rw[if_neg pV]at H;have H':=bm H;clear H;go_wp2_with (first|(refine gB (some 11) Tryz.func97 #[.int .i64 a0,.int .i64 a1] rfl ?_;(refine(kc.calls a0 a1 false _ A5.out).mono ?_);rintro e w' ⟨rfl,⟨nd,rfl⟩⟩;refine⟨_,rfl,?_⟩));go_meet
   case rel=>exact⟨_,(true),eA,H',⟨by first|omega|exact Nat.le_refl _⟩,⟨wZ HB⟩⟩
 case rest=>
  clear aA;obtain⟨kq,ar,rfl,HA,aG,HB⟩:=hcut;cases kq with
  |zero=>exact absurd HA.out (by simp[jq.j0])
  |succ sO=>
   have H:=HA.out;clear HA;simp only[jq.j0]at H;by_cases c8:ar=true
   ·subst c8;rw[if_pos rfl]at H;obtain rfl:=pd H;go_wp2;go_ret;exact⟨eF,wZ HB⟩
   ·replace c8:=pD c8;subst c8;rw[if_neg pV]at H;have H':=bm H;clear H;go_wp2;go_loopg [7,8] sO (fun kq v7 v8 w'=>∃(al:Int) (j:Int),v7= .int .i64 al∧v8= .int .i64 j∧hJ (jq.l0 kq a0 a1 a2 al j=some r)∧hJ (kq≤sO)∧hJ (Below w.heap.size w w'))
    case atStart=>exact⟨(0),(0),eA,eA,H',⟨Nat.le_refl _⟩,⟨wZ HB⟩⟩
    case round=>
     clear H';obtain⟨al,j,rfl,rfl,HA,aQ,HB⟩:=hrel;cases gk with
     |zero=>exact absurd HA.out (by simp[jq.l0])
     |succ k2=>
      have H:=HA.out;clear HA;simp only[jq.l0]at H;obtain⟨b7,b8,H⟩:=pO H;obtain⟨an,ah⟩:∃j_:Int,(shl .i64 1 a0)=j_:=⟨_,rfl⟩;first|rw[ah]at H|simp only[ah]at H
      have aC:(IntKind.i64.wrap (1*2^min a0.toNat 64))=an:=ah;have aD:a0≤64→(IntKind.i64.wrap (1*2^a0.toNat))=an:=shl_small ah;have bp:(IntKind.i64.wrap (2^min a0.toNat 64))=an:=by have h_:=aC;rw[Int.one_mul]at h_;exact h_
      have bq:a0≤64→(IntKind.i64.wrap (2^a0.toNat))=an:=fun aH=>by have h_:=aD aH;rw[Int.one_mul]at h_;exact h_
      have br:(wrap64 (1*2^min a0.toNat 64))=an:=(i64_w _).symm.trans aC;have bs:a0≤64→(wrap64 (1*2^a0.toNat))=an:=fun h_=>(i64_w _).symm.trans (aD h_)
      rcases pP H with⟨aR,H⟩|⟨aR,H⟩
      ·obtain⟨af,aS,H⟩:=bE H;try dsimp only at H
       rcases iT H with⟨ai,H⟩|⟨ai,H⟩
       ·obtain⟨aT,aU⟩:=pf ai;clear ai;obtain⟨bO,bT,H⟩:=pO H;obtain⟨ag,ae⟩:∃j_:Int,(shl .i64 1 j)=j_:=⟨_,rfl⟩;first|rw[ae]at H|simp only[ae]at H
        (try rw[ae]at aS);have aE:(IntKind.i64.wrap (1*2^min j.toNat 64))=ag:=ae;have aF:j≤64→(IntKind.i64.wrap (1*2^j.toNat))=ag:=shl_small ae;have bu:(IntKind.i64.wrap (2^min j.toNat 64))=ag:=by have h_:=aE;rw[Int.one_mul]at h_;exact h_
        have bw:j≤64→(IntKind.i64.wrap (2^j.toNat))=ag:=fun aH=>by have h_:=aF aH;rw[Int.one_mul]at h_;exact h_
        have bx:(wrap64 (1*2^min j.toNat 64))=ag:=(i64_w _).symm.trans aE;have bA:j≤64→(wrap64 (1*2^j.toNat))=ag:=fun h_=>(i64_w _).symm.trans (aF h_)
        obtain⟨av,bV,H⟩:=bE H;try dsimp only at H
        obtain⟨aB,bZ,H⟩:=bE H;try dsimp only at H
        have H':=bm H;clear H;go_wp2_with (first|(refine gB (some 27) Tryz.func98 #[.int .i64 a1,.int .i64 j] rfl ?_;(refine(kz.calls a1 j af _ aS.out).mono ?_);rintro e w' ⟨rfl,⟨nd,rfl⟩⟩;refine⟨_,rfl,?_⟩)|((with_reducible refine gate_callee (f:=66) rfl ?_);refine Ai (some 34) rfl rfl Tryz.func66 (by kernel_rfl) rfl #[.int .i64 a0,.int .i64 ag,.int .i64 a2] rfl (by(try simp only[List.map_toArray,List.map_cons,List.map_nil]);first|done|(simp only[ae];rfl)|rfl|(simp only[List.length_drop,List.length_take];rfl)) ?_;(refine(ka.calls k2 a0 ag a2 av _ bV.out).mono ?_);rintro e _ ⟨rfl,hb⟩;refine⟨_,rfl,?_⟩;replace HB:=bW HB hb;clear hb)|(refine gB (some 35) Tryz.func102 #[.int .i64 al,.int .i64 av] rfl ?_;(refine(jU.calls k2 al av aB _ bZ.out).mono ?_);rintro e w' ⟨rfl,⟨nd,rfl⟩⟩;refine⟨_,rfl,?_⟩));go_roundg k2
        case measure=>have:=aG.out;have:=aQ.out;omega
        case rel=>exact⟨(aB),(wrap64 (j+1)),eA,eA,H',⟨by have:=aG.out;have:=aQ.out;omega⟩,⟨wZ HB⟩⟩
       ·obtain⟨aT,aU⟩:=pe ai;have H':=bm H;clear H;go_wp2_with (first|(refine gB (some 27) Tryz.func98 #[.int .i64 a1,.int .i64 j] rfl ?_;(refine(kz.calls a1 j af _ aS.out).mono ?_);rintro e w' ⟨rfl,⟨nd,rfl⟩⟩;refine⟨_,rfl,?_⟩));go_roundg k2
        case measure=>have:=aG.out;have:=aQ.out;omega
        case rel=>exact⟨(al),(wrap64 (j+1)),eA,eA,H',⟨by have:=aG.out;have:=aQ.out;omega⟩,⟨wZ HB⟩⟩
      ·obtain rfl:=pd H;go_wp2;go_ret;exact⟨by first|rfl|(simp[iJ,iK]<;>rfl)|(simp only[←ah];first|rfl|(simp[iJ,iK]<;>rfl))|(simp[*,iJ,iK]<;>rfl),wZ HB⟩
def rl.f (a0:Int) (I:Int) (ad:Int):Option (Bool):=(kc.f a0 I).bind fun ax=>(if ax=true then((kc.f a0 ad).bind fun ay=>(if ay=true then(some (I !=0))else(some false)))else(some false))
theorem rl.calls (a0:Int) (I:Int) (ad:Int) (r:Bool) (w:World) (h:rl.f a0 I ad=some r):
  Calls Tryz.prog 104 #[.int .i64 a0,.agg #[.int .i64 I,.int .i64 ad]] w fun e w'=>e= .returned (.bool r)∧Below w.heap.size w w':=by
 have a6:=Tryz.underlying87;have HB:=bm (Below.refl w.heap.size w);have H:=h;clear h;unfold rl.f at H;obtain⟨ax,A3,H⟩:=bE H;try dsimp only at H
 by_cases c4:ax=true
 subst c4;rw[if_pos rfl]at H;obtain⟨ay,A5,H⟩:=bE H;try dsimp only at H
 by_cases c6:ay=true
 subst c6;rw[if_pos rfl]at H;obtain rfl:=pd H
 rotate_left
 replace c6:=pD c6;subst c6;rw[if_neg pV]at H;obtain rfl:=pd H
 rotate_left
 replace c4:=pD c4;subst c4;rw[if_neg pV]at H;obtain rfl:=pd H
 rotate_left
 all_goals(go_enter Tryz.func104,Tryz.ntmps104;go_wp2_with (first|(refine re 3 #[.int .i64 I,.int .i64 ad] 87 ?_;intro _ hg _ ab hb;have aj:=bm (ab);have aK:=bG HB hg;replace HB:=bW HB hb;clear hb ab hg;obtain⟨_,_,_,_⟩:=b2 aj)|(refine gB (some 8) Tryz.func97 #[.int .i64 a0,.int .i64 I] rfl ?_;(refine(kc.calls a0 I true _ A3.out).mono ?_);rintro e w' ⟨rfl,⟨nd,rfl⟩⟩;refine⟨_,rfl,?_⟩)|(go_at_call 97;(with_reducible refine(kc.calls a0 ad true _ A5.out).mono ?_);rintro e w' ⟨rfl,⟨nd,rfl⟩⟩)|(go_at_call 97;(with_reducible refine(kc.calls a0 ad false _ A5.out).mono ?_);rintro e w' ⟨rfl,⟨nd,rfl⟩⟩)|(refine gB (some 8) Tryz.func97 #[.int .i64 a0,.int .i64 I] rfl ?_;(refine(kc.calls a0 I false _ A3.out).mono ?_);rintro e w' ⟨rfl,⟨nd,rfl⟩⟩;refine⟨_,rfl,?_⟩)))
 iterate 3(go_ret;exact⟨eF,wZ HB⟩)
def kk.j0:Nat→LI→Bool→Int→Int→Option (Bool)
 |0,_,_,_,_=>none
 |k+1,x1,x17,Cu,Cv=>if x17=true then(some false)else((gZ.f k x1 Cu).bind fun ao=>((ki.f k ao Cv).bind fun aP=>(some (aP==ao))))
def kk.f (k:Nat) (a0:Int) (l1:LI) (J:Int) (aa:Int):Option (Bool):=(iv.f k a0 l1).bind fun az=>(if az=true then((rl.f a0 J aa).bind fun aq=>(kk.j0 k l1 (!aq) J aa))else(kk.j0 k l1 true J aa))
theorem kk.hZ:∀k,(∀y0 y1 y2 y3,lS (kk.j0 k y0 y1 y2 y3) (kk.j0 (k+1) y0 y1 y2 y3))
 |0=>fun _ _ _ _=> .z (by simp only[kk.j0])
 |k+1=>by
  have i0:=kk.hZ k;exact fun _ _ _ _=>by unfold kk.j0;infer_instance
instance kk.mo {k a0 a1 a2 a3}:lS (kk.f k a0 a1 a2 a3) (kk.f (k+1) a0 a1 a2 a3):=by have i0:=kk.hZ k;unfold kk.f;infer_instance
theorem kk.calls (k:Nat) (a0:Int) (A1:Option Addr) (c1:Nat) (l1:LI) (J:Int) (aa:Int) (r:Bool) (w:World) (bc:Kd.C KI w A1 l1.length l1) (bd:l1.length≤c1) (h:kk.f k a0 l1 J aa=some r):
  Calls Tryz.prog 67 #[.int .i64 a0,.slice A1 l1.length c1,.agg #[.int .i64 J,.int .i64 aa]] w fun e w'=>e= .returned (.bool r)∧Below w.heap.size w w':=by
 have a6:=Tryz.underlying87;have aW:=bm bc;have aY:=bm bd;clear bc bd;have HB:=bm (Below.refl w.heap.size w);have H:=h;clear h;unfold kk.f at H;have aA:=bm H;clear H;go_enter Tryz.func67,Tryz.ntmps67;go_upto_region 1 with(first|(refine re 5 #[.int .i64 J,.int .i64 aa] 87 ?_;intro aZ hg _ ab hb;have o:=bm (ab);have b1:=bG HB hg;replace HB:=bW HB hb;clear hb ab hg))
 (try simp only[Act.put,qA,qB,qC]);go_cut [17] (fun b4 wc=>∃(kq:Nat) (au:Bool),b4= .bool au∧hJ (kk.j0 kq l1 au J aa=some r)∧hJ (kq≤k)∧oI wc aZ #[.int .i64 J,.int .i64 aa] 87∧hJ (Below w.heap.size w wc))
 case first=>
  have H:=aA.out;clear aA;obtain⟨az,A6,H⟩:=bE H;try dsimp only at H
  by_cases c7:az=true
  ·subst c7;rw[if_pos rfl]at H;obtain⟨aq,A8,H⟩:=bE H;try dsimp only at H
   have H':=bm H;clear H;go_wp2_with (first|(refine gB (some 10) Tryz.func68 #[.int .i64 a0,.slice A1 l1.length c1] rfl ?_;(refine(iv.calls k a0 _ _ l1 true _ ?_ ?_ A6.out).mono ?_);exact cY aW HB;exact aY.out;rintro e _ ⟨rfl,hb⟩;refine⟨_,rfl,?_⟩;replace o:=bU o hb;replace HB:=bW HB hb;clear hb;obtain⟨_,_,_,_⟩:=b2 o)|(go_at_call 104;(with_reducible refine(rl.calls a0 J aa aq _ A8.out).mono ?_);rintro e _ ⟨rfl,hb⟩;replace o:=bU o hb;replace HB:=bW HB hb;clear hb));go_meet
   case rel=>exact⟨_,(!aq),eA,H',⟨by first|omega|exact Nat.le_refl _⟩,⟨kS o⟩,⟨wZ HB⟩⟩
  ·replace c7:=pD c7;subst c7;rw[if_neg pV]at H;have H':=bm H;clear H;go_wp2_with (first|(refine gB (some 10) Tryz.func68 #[.int .i64 a0,.slice A1 l1.length c1] rfl ?_;(refine(iv.calls k a0 _ _ l1 false _ ?_ ?_ A6.out).mono ?_);exact cY aW HB;exact aY.out;rintro e _ ⟨rfl,hb⟩;refine⟨_,rfl,?_⟩;replace o:=bU o hb;replace HB:=bW HB hb;clear hb));go_meet
   case rel=>exact⟨_,(true),eA,H',⟨by first|omega|exact Nat.le_refl _⟩,⟨kS o⟩,⟨wZ HB⟩⟩
 case rest=>
  clear aA;obtain⟨kq,au,rfl,HA,aG,o,HB⟩:=hcut;cases kq with
  |zero=>exact absurd HA.out (by simp[kk.j0])
  |succ sO=>
   have H:=HA.out;clear HA;simp only[kk.j0]at H;by_cases ai:au=true
   ·subst ai;rw[if_pos rfl]at H;obtain rfl:=pd H;go_wp2;go_ret;exact⟨eF,wZ HB⟩
   ·replace ai:=pD ai;subst ai;rw[if_neg pV]at H;obtain⟨ao,b5,H⟩:=bE H;try dsimp only at H
    obtain⟨aP,b6,H⟩:=bE H;try dsimp only at H
    obtain rfl:=pd H;obtain⟨_,_,_,_⟩:=b2 o;go_wp2_with (first|(refine gB (some 21) Tryz.func95 #[.slice A1 l1.length c1,.int .i64 J] rfl ?_;(refine(gZ.calls sO _ _ l1 J ao _ ?_ ?_ b5.out).mono ?_);exact cY aW HB;exact aY.out;rintro e _ ⟨rfl,hb⟩;refine⟨_,rfl,?_⟩;replace o:=bU o hb;replace HB:=bW HB hb;clear hb;obtain⟨_,_,_,_⟩:=b2 o)|(refine gB (some 25) Tryz.func62 #[.int .i64 ao,.int .i64 aa] rfl ?_;(refine(ki.calls sO ao aa aP _ b6.out).mono ?_);rintro e w' ⟨rfl,⟨nd,rfl⟩⟩;refine⟨_,rfl,?_⟩));go_ret;exact⟨eF,wZ HB⟩
end Go.Proofs.YtigeaokfhnlkcaaGreatDoor.P
