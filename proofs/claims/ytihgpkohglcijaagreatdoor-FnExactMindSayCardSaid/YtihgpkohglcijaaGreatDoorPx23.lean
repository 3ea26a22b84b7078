import Derived.Test.YtihgpkohglcijaaGreatDoorPx0
import Derived.Test.YtihgpkohglcijaaGreatDoorPx15
import Derived.Test.YtihgpkohglcijaaGreatDoorPx18
import Derived.Test.YtihgpkohglcijaaGreatDoorPx19
namespace Go.Proofs.YtihgpkohglcijaaGreatDoor.P
open Go.RowKit Go.Proofs.YtihgpkohglcijaaGreatDoorW.PrintWords Go.Proofs.YtihgpkohglcijaaGreatDoorW.PrintLast Go.Proofs.YtihgpkohglcijaaGreatDoorW.PrintMore
attribute [local go_sem] max2_int min2_int max_two min_two max_three min_three max_four min_four   -- for this text's walks alone
set_option linter.unusedVariables false
set_option linter.unusedSimpArgs false
set_option maxHeartbeats 8000000
set_option maxRecDepth 100000
abbrev FT:Array Bool:= #[true,true,true,true,true,true,true,true,false,false,false]
abbrev FU:Array Bool:= #[true,true,true,true,true,true,true,true,true,false,false]
def kr.f:Nat→Int→Option (ByteArray)
 |0,_=>none
 |k+1,a0=>if a0<10 then(some (strOfNums (([(wrap64 (48+a0))%256]:List Int))))else((kr.f k (wrap64 (Int.tdiv a0 10))).bind fun ae=>((some (([(wrap64 (48+(Int.tmod a0 10)))%256]:List Int):List Int)).bind fun ag=>(if ae.size+(strOfNums ag).size≤9223372036854775807 then(some (ae++(strOfNums ag)))else(none))))
theorem kr.jQ:∀k,(∀y0,qg (kr.f k y0) (kr.f (k+1) y0))
 |0=>fun _=> .z (by simp only[kr.f])
 |k+1=>by
  have i0:=kr.jQ k;exact fun _=>by unfold kr.f;infer_instance
instance kr.mo {k a0}:qg (kr.f k a0) (kr.f (k+1) a0):=(kr.jQ k) a0
theorem kr.mono:∀a0 k,LeO (kr.f k a0) (kr.f (k+1) a0):=fun _ _=>kr.mo.h
def kr.T3:Bool×List (List Nat×List Nat):=(true,[([],[]),([0],[0]),([1],[1]),([],[]),([3],[3]),([4],[4]),([5],[5]),([6],[6]),([7],[7]),([2,8],[2,8]),([9,2,0,1,2,3,4,5,6,7,8,9],[9])])
def kr.B3:List Nat:=[0,1,3,0,8,24,56,120,248,511,1023]
theorem kr.Jr:rtab .any (opsOf Tryz.f50 3)=kr.T3:=by kernel_rfl
theorem kr.Hu:waitsOk kr.T3.2 kr.B3=true:=by kernel_rfl
theorem kr.calls (k:Nat):∀(a0:Int) (r:ByteArray) (w:World) (h:kr.f k a0=some r),
  Calls Tryz.prog 50 #[.int .i64 a0] w fun e w'=>e= .returned (.string r)∧Below w.heap.size w w':=by
 induction k using Nat.strongRecOn with
 | _ k ih=>
 intro a0 r w h;cases k with
 |zero=>exact absurd h (by simp[kr.f])
 |succ k=>
 simp only[kr.f]at h;have HB:=bm (Below.refl w.heap.size w);have H:(if a0<10 then(some (strOfNums (([(wrap64 (48+a0))%256]:List Int))))else((kr.f k (wrap64 (Int.tdiv a0 10))).bind fun ae=>((some (([(wrap64 (48+(Int.tmod a0 10)))%256]:List Int):List Int)).bind fun ag=>(if ae.size+(strOfNums ag).size≤9223372036854775807 then(some (ae++(strOfNums ag)))else(none)))))=some r:=h;clear h;rcases vG H with⟨cd,H⟩|⟨cd,H⟩
 ·obtain⟨cf,a6⟩:∃y_:List Int,y_=(([(wrap64 (48+a0))%256]:List Int)):=⟨_,rfl⟩;rw[←a6]at H
  have bl:=bm a6;clear a6;obtain rfl:=vU H;go_enter Tryz.func50,Tryz.ntmps50;go_wp2_with (first|((with_reducible refine gate_dst (N:=8) rfl ?_);refine Kd.R_lit (Kd.int .u8) _ 5 ?hg (N:=8) ?hd (xs:=([(wrap64 (48+a0))%256]:List Int)) (inner:=[.int .u8 ((wrap64 (48+a0))%256)]) (ok:=fun _=>True) (okp:=fun _=>True) ?hr ?hp (fun _ hk=>hk) trivial (Below.refl _ _) (Nat.le_refl _) (by simp) ?_;(case hd=>rfl);(case hg=>rfl);(case hr=>first|(go_simp;done)|(go_simp;rfl));(case hp=>exact(Reps.one (show Kd.M (Kd.int .u8) _ _ _ ((wrap64 (48+a0))%256) [.int .u8 ((wrap64 (48+a0))%256)] from rfl) (Reps.none _ _)));intro da w3 bn hb bo ar;clear bo ar;(first|rw[←bl.out]at bn|(simp only[Int.reduceToNat]at bn;rw[←bl.out]at bn));have bV:=vX bn HB;replace HB:=bW HB hb;clear hb bn;have db:=own_string (P:=Tryz.prog) Tryz.underlying22 Tryz.underlying5 Tryz.underlying9 (Kd.own_of_R bV.out)));go_ret;exact vZ HB
 ·obtain⟨ae,A6,H⟩:=bE H;try dsimp only at H
  obtain⟨ag,a7⟩:∃y_:List Int,y_=(([(wrap64 (48+(Int.tmod a0 10)))%256]:List Int)):=⟨_,rfl⟩;rw[←a7]at H
  have aF:=bm a7;clear a7;obtain⟨c7,H⟩:=iN H;have cg:=vD c7;have dc:=vC c7;try have dd:(9223372036854775807<ae.size+(strOfNums ag).size)=False:=eq_false (Nat.not_lt.2 c7)
  obtain rfl:=vU H;go_enter Tryz.func50,Tryz.ntmps50;try go_wp2
  replace HB:=bm (xO HB.out);refine start_ (n:=11) (S:=fun w'=>True) (ds:=[]) #[false,false,false,false,false,false,false,false,false,false,false] (by kernel_rfl) rfl rfl trivial (fun hHeld=>?_);refine with_tabW kr.Jr kr.Hu (fun ah di=>?_);generalize w.drew=w8 at HB hHeld⊢;refine pA 0 10 ah ?_ ?_ ?_ ?_ (pA 1 11 ah ?_ ?_ ?_ ?_ (pA 3 13 ah ?_ ?_ ?_ ?_ (pA 4 14 ah ?_ ?_ ?_ ?_ (pA 5 15 ah ?_ ?_ ?_ ?_ (pA 6 16 ah ?_ ?_ ?_ ?_ ?_)))))
  all_goals first|(intro w';go_simp;with_reducible rfl)|(simp only[Act.put,qA,qB,qC,i64_w,i32_w];rfl)|skip
  refine join_ (σ:=Value) 2 FU (fun s_=>[(12,.string ae),(17,s_),(18,.string (strOfNums ag))]) (fun s_ w'=>(Kd.R (Kd.int .u8) 5 w' w.heap.size (fun _=>True) s_ ag)∧(Below w.heap.size w w')) ?_ ?_;rotate_left
  ·intro wJ;refine two_ (i:=2) (j:=7) (Ni:=some 12) (Nj:=some 17) #[true,true,true,true,true,true,true,false,false,false,false] #[true,true,false,true,true,true,true,true,false,false,false] rfl rfl rfl rfl (two_of ah.out (by kernel_rfl)) (by decide) (by decide) (fun K hK=>?_) (fun K hK=>?_)
   ·skip;refine goes_ Tryz.func50 (by kernel_rfl) rfl #[.int .i64 (wrap64 (Int.tdiv a0 10))] (by rfl) rfl rfl (by(try simp only[List.map_toArray,List.map_cons,List.map_nil]);first|done|rfl|(simp only[List.length_drop,List.length_take];rfl)) ?_;with_reducible refine(ih k (by omega) (wrap64 (Int.tdiv a0 10)) ae _ A6.out).mono ?_
    rintro e w9 ⟨rfl,hb⟩;refine⟨_,rfl,?_⟩;replace HB:=bW HB hb;(try clear hb);(try clear hb2);(try clear hk);(try clear hi);refine hK.out _ _ trivial (fun hHeld=>?_);clear hK K;refine vL 12 ?_
    refine oA 7 (some 17) ah (fun K hK=>?_);refine Kd.R_lit_step (Kd.int .u8) _ 5 ?hg (N:=17) ?hd (xs:=([(wrap64 (48+(Int.tmod a0 10)))%256]:List Int)) (inner:=[.int .u8 ((wrap64 (48+(Int.tmod a0 10)))%256)]) (ok:=fun _=>True) (okp:=fun _=>True) ?hr ?hp (fun _ hk=>hk) trivial (Below.refl _ _) (Nat.le_refl _) (by simp) ?_;(case hd=>rfl);(case hg=>rfl);(case hr=>first|(go_simp;done)|(go_simp;rfl));(case hp=>exact(Reps.one (show Kd.M (Kd.int .u8) _ _ _ ((wrap64 (48+(Int.tmod a0 10)))%256) [.int .u8 ((wrap64 (48+(Int.tmod a0 10)))%256)] from rfl) (Reps.none _ _)));intro aB dj aK hb bo ar;clear bo ar;(first|rw[←aF.out]at aK|(simp only[Int.reduceToNat]at aK;rw[←aF.out]at aK));have ab:=vX aK HB;replace HB:=bW HB hb;clear hb aK;refine hK.out _ _ trivial (fun hHeld=>?_);clear hK K;refine vL 17 ?_
    refine oA 8 (some 18) ah (fun K hK=>?_);have a8:=own_string (P:=Tryz.prog) Tryz.underlying22 Tryz.underlying5 Tryz.underlying9 (Kd.own_of_R ab.out);refine value_ (w1:=?_) (v:=?_) (by rfl) rfl ?_ ?_;rotate_left 2
    ·go_simp;constructor
     ·rfl
     ·rfl
    clear a8;refine hK.out _ _ trivial (fun hHeld=>?_);clear hK K;refine vL 18 ?_
    exact norm_ (by simp only[putAll,Act.put,qA,qB,qC]) (wJ (aB) _ ⟨(rS ab),(wZ HB)⟩)
   ·skip;refine Kd.R_lit_step (Kd.int .u8) _ 5 ?hg (N:=17) ?hd (xs:=([(wrap64 (48+(Int.tmod a0 10)))%256]:List Int)) (inner:=[.int .u8 ((wrap64 (48+(Int.tmod a0 10)))%256)]) (ok:=fun _=>True) (okp:=fun _=>True) ?hr ?hp (fun _ hk=>hk) trivial (Below.refl _ _) (Nat.le_refl _) (by simp) ?_;(case hd=>rfl);(case hg=>rfl);(case hr=>first|(go_simp;done)|(go_simp;rfl));(case hp=>exact(Reps.one (show Kd.M (Kd.int .u8) _ _ _ ((wrap64 (48+(Int.tmod a0 10)))%256) [.int .u8 ((wrap64 (48+(Int.tmod a0 10)))%256)] from rfl) (Reps.none _ _)));intro aB w9 aL hb bo ar;clear bo ar;(first|rw[←aF.out]at aL|(simp only[Int.reduceToNat]at aL;rw[←aF.out]at aL));have ab:=vX aL HB;replace HB:=bW HB hb;clear hb aL;refine hK.out _ _ trivial (fun hHeld=>?_);clear hK K;refine vL 17 ?_
    refine two_ (i:=2) (j:=8) (Ni:=some 12) (Nj:=some 18) FT #[true,true,false,true,true,true,true,true,true,false,false] rfl rfl rfl rfl (two_of ah.out (by kernel_rfl)) (by decide) (by decide) (fun K hK=>?_) (fun K hK=>?_)
    ·skip;refine goes_ Tryz.func50 (by kernel_rfl) rfl #[.int .i64 (wrap64 (Int.tdiv a0 10))] (by rfl) rfl rfl (by(try simp only[List.map_toArray,List.map_cons,List.map_nil]);first|done|rfl|(simp only[List.length_drop,List.length_take];rfl)) ?_;with_reducible refine(ih k (by omega) (wrap64 (Int.tdiv a0 10)) ae _ A6.out).mono ?_
     rintro e dk ⟨rfl,hb⟩;refine⟨_,rfl,?_⟩;replace ab:=bR ab hb;replace HB:=bW HB hb;(try clear hb);(try clear hb2);(try clear hk);(try clear hi);refine hK.out _ _ trivial (fun hHeld=>?_);clear hK K;refine vL 12 ?_
     refine oA 8 (some 18) ah (fun K hK=>?_);have a8:=own_string (P:=Tryz.prog) Tryz.underlying22 Tryz.underlying5 Tryz.underlying9 (Kd.own_of_R ab.out);refine value_ (w1:=?_) (v:=?_) (by rfl) rfl ?_ ?_;rotate_left 2
     ·go_simp;constructor
      ·rfl
      ·rfl
     clear a8;refine hK.out _ _ trivial (fun hHeld=>?_);clear hK K;refine vL 18 ?_
     exact norm_ (by simp only[putAll,Act.put,qA,qB,qC]) (wJ (aB) _ ⟨(rS ab),(wZ HB)⟩)
    ·skip;have bZ:=own_string (P:=Tryz.prog) Tryz.underlying22 Tryz.underlying5 Tryz.underlying9 (Kd.own_of_R ab.out);refine value_ (w1:=?_) (v:=?_) (by rfl) rfl ?_ ?_;rotate_left 2
     ·go_simp;constructor
      ·rfl
      ·rfl
     clear bZ;refine hK.out _ _ trivial (fun hHeld=>?_);clear hK K;refine vL 18 ?_
     refine oA 2 (some 12) ah (fun K hK=>?_);refine goes_ Tryz.func50 (by kernel_rfl) rfl #[.int .i64 (wrap64 (Int.tdiv a0 10))] (by rfl) rfl rfl (by(try simp only[List.map_toArray,List.map_cons,List.map_nil]);first|done|rfl|(simp only[List.length_drop,List.length_take];rfl)) ?_;with_reducible refine(ih k (by omega) (wrap64 (Int.tdiv a0 10)) ae _ A6.out).mono ?_
     rintro e dm ⟨rfl,hb⟩;refine⟨_,rfl,?_⟩;replace ab:=bR ab hb;replace HB:=bW HB hb;(try clear hb);(try clear hb2);(try clear hk);(try clear hi);refine hK.out _ _ trivial (fun hHeld=>?_);clear hK K;refine vL 12 ?_
     exact norm_ (by simp only[putAll,Act.put,qA,qB,qC]) (wJ (aB) _ ⟨(rS ab),(wZ HB)⟩)
  rintro aB b0 ⟨ch,cj⟩;have ab:jX (Kd.R (Kd.int .u8) 5 b0 w.heap.size (fun _=>True) aB ag):=⟨ch⟩;replace HB:jX (Below w.heap.size w b0):=⟨cj⟩;clear ch cj;have hHeld:=trivial;refine norm_ (a':=?_) ?_ ?_;rotate_left
  ·simp only[putAll,Act.put,qA,qB,qC];rfl
  refine pA 9 19 ah ?_ ?_ ?_ ?_ (pA 10 2 ah ?_ ?_ ?_ ?_ ?_)
  all_goals first|(intro w';go_simp;with_reducible rfl)|(simp only[Act.put,qA,qB,qC,i64_w,i32_w];rfl)|skip
  refine done_ (done_of ah.out (by kernel_rfl)) ?_;try go_wp2
  go_ret;exact vZ HB
mutual
def jZ.l0:Nat→Int→ByteArray→Int→Option (Int×Int×Bool)
 |0,_,_,_=>none
 |k+1,x0,x1,x6=>if(wrap64 (x6+1))<(x1.size:Int)then(if 0≤x6 then(if x6<(x1.size:Int)then(if(bt x1 x6)=45 then(if 0≤(wrap64 (x6+1))then(jZ.j1 k x0 x1 x6 ((bt x1 (wrap64 (x6+1))) !=62))else(none))else(jZ.j1 k x0 x1 x6 true))else(none))else(none))else(some (0,0,false))
def jZ.j1:Nat→Int→ByteArray→Int→Bool→Option (Int×Int×Bool)
 |0,_,_,_,_=>none
 |k+1,x0,x1,x6,x28=>if x28=true then(jZ.l0 k x0 x1 (wrap64 (x6+1)))else(if 0≤x6 then(if x6≤(x1.size:Int)then((kQ.f k x0 (x1.extract 0 (x6:Int).toNat)).bind fun ba=>(if 0≤(wrap64 (x6+2))then(if(wrap64 (x6+2))≤(x1.size:Int)then((kQ.f k x0 (x1.extract ((wrap64 (x6+2)):Int).toNat x1.size)).bind fun bp=>(if ba.2=true then(if bp.2=true then(if ba.1=0 then(jZ.l0 k x0 x1 (wrap64 (x6+1)))else(some (ba.1,bp.1,true)))else(jZ.l0 k x0 x1 (wrap64 (x6+1))))else(jZ.l0 k x0 x1 (wrap64 (x6+1)))))else(none))else(none)))else(none))else(none))
end
def jZ.f (k:Nat) (a0:Int) (a1:ByteArray):Option (Int×Int×Bool):=jZ.l0 k a0 a1 0
theorem jZ.jQ:∀k,(∀y0 y1 y2,qg (jZ.l0 k y0 y1 y2) (jZ.l0 (k+1) y0 y1 y2))∧(∀y0 y1 y2 y3,qg (jZ.j1 k y0 y1 y2 y3) (jZ.j1 (k+1) y0 y1 y2 y3))
 |0=>⟨fun _ _ _=> .z (by simp only[jZ.l0]),fun _ _ _ _=> .z (by simp only[jZ.j1])⟩
 |k+1=>by
  have⟨i0,i1⟩:=jZ.jQ k;exact⟨fun _ _ _=>by unfold jZ.l0;infer_instance,fun _ _ _ _=>by unfold jZ.j1;infer_instance⟩
instance jZ.mo {k a0 a1}:qg (jZ.f k a0 a1) (jZ.f (k+1) a0 a1):=by have⟨i0,i1⟩:=jZ.jQ k;unfold jZ.f;infer_instance
theorem jZ.calls (k:Nat) (a0:Int) (a1:ByteArray) (r1:Int) (r2:Int) (r3:Bool) (w:World) (h:jZ.f k a0 a1=some (r1,r2,r3)):
  Calls Tryz.prog 52 #[.int .i64 a0,.string a1] w fun e w'=>e= .returned (.tuple #[.agg #[.int .i64 r1,.int .i64 r2],.bool r3])∧Below w.heap.size w w':=by
 have de:=Tryz.underlying76;have HB:=bm (Below.refl w.heap.size w);have H:=h;clear h;unfold jZ.f at H;have H':=bm H;clear H;go_enter Tryz.func52,Tryz.ntmps52;go_wp2_with (first|(refine rz 4 #[.int .i64 0,.int .i64 0] 76 ?_;intro al hg w3 bJ hb;have aa:=bm (bJ);have cG:=bG HB hg;replace HB:=bW HB hb;clear hb bJ hg));go_loopg [6] k (fun kq v6 w'=>∃(o:Int) (I:Int) (J:Int),v6= .int .i64 o∧jX (jZ.l0 kq a0 a1 o=some (r1,r2,r3))∧jX (kq≤k)∧jX (w'.heap[al]?=some (.cells #[.int .i64 I,.int .i64 J] 76 (0,0)))∧jX (Below w.heap.size w w'))
 case atStart=>exact⟨(0),(0),(0),(by first|rfl|(simp;done)|(simp[*];done)),H',⟨Nat.le_refl _⟩,⟨kS aa⟩,⟨wZ HB⟩⟩
 case round=>
  clear H';obtain⟨o,I,J,rfl,HA,ai,aa,HB⟩:=hrel;cases gk with
  |zero=>exact absurd HA.out (by simp[jZ.l0])
  |succ k1=>
   have H:=HA.out;clear HA;simp only[jZ.l0]at H;rcases vG H with⟨bq,H⟩|⟨bq,H⟩
   ·have b1:=bm H;clear H;go_upto_region 4 with(fail)
    go_cut [28] (fun v28 wc=>∃(kq:Nat) (aG:Bool),v28= .bool aG∧jX (jZ.j1 kq a0 a1 o aG=some (r1,r2,r3))∧jX (kq≤k1)∧rG wc al #[.int .i64 I,.int .i64 J] 76∧jX (Below w.heap.size w wc))
    case first=>
     have H:=b1.out;clear b1;obtain⟨br,H⟩:=vE H;(first|rw[br]|(simp only[i64_w,i32_w];rw[br])|skip);obtain⟨cg,H⟩:=vE H;rcases iT H with⟨c9,H⟩|⟨c9,H⟩
     ·obtain⟨ck,cl⟩:=vW c9;clear c9;obtain⟨aM,au⟩:∃j_:Int,(wrap64 (o+1))=j_:=⟨_,rfl⟩;first|rw[au]at H|simp only[au]at H
      (try rw[au]at bq);have cD:(IntKind.i64.wrap (o+1))=aM:=(i64_w _).trans au;obtain⟨bs,H⟩:=vE H;have H':=bm H;clear H;have p8:0≤(o:Int):=pG;have q8:o<(a1.size:Int):=pG;have cH:=bt_at a1 o;replace p8:=vD p8;replace q8:=vD q8;have cm:0≤((aM):Int):=pG;have cn:(aM)<(a1.size:Int):=pG;have df:=bt_at a1 (aM);replace cm:=vD cm;replace cn:=vD cn;go_wp2;go_meet
      case rel=>exact⟨_,(((bt a1 (aM)) !=62)),(by first|rfl|(simp;done)|(simp only[←au]<;>(first|rfl|simp))|(simp[*];done)),H',⟨by have:=ai.out;first|omega|exact Nat.le_refl _⟩,⟨kS aa⟩,⟨wZ HB⟩⟩
     ·obtain⟨ck,cl⟩:=vV c9;have H':=bm H;clear H;have p8:0≤(o:Int):=pG;have q8:o<(a1.size:Int):=pG;have cH:=bt_at a1 o;replace p8:=vD p8;replace q8:=vD q8;go_wp2;go_meet
      case rel=>exact⟨_,(true),(by first|rfl|(simp;done)|(simp[*];done)),H',⟨by have:=ai.out;first|omega|exact Nat.le_refl _⟩,⟨kS aa⟩,⟨wZ HB⟩⟩
    case rest=>
     clear b1;obtain⟨kq,aG,rfl,HA,aO,aa,HB⟩:=hcut;cases kq with
     |zero=>exact absurd HA.out (by simp[jZ.j1])
     |succ yP=>
      have H:=HA.out;clear HA;simp only[jZ.j1]at H;by_cases av:aG=true
      ·subst av;rw[if_pos rfl]at H;have H':=bm H;clear H;go_wp2;go_roundg yP
       case measure=>have:=ai.out;have:=aO.out;omega
       case rel=>exact⟨(wrap64 (o+1)),(I),(J),(by first|rfl|(simp;done)|(simp[*];done)),H',⟨by have:=ai.out;have:=aO.out;omega⟩,⟨kS aa⟩,⟨wZ HB⟩⟩
      ·replace av:=uZ av;subst av;rw[if_neg vM]at H;obtain⟨b4,cI,H⟩:=vF H;obtain⟨cJ,cK,H⟩:=vF H;obtain⟨⟨aj,cp⟩,bu,H⟩:=bE H;try dsimp only at H
       obtain⟨ak,af⟩:∃j_:Int,(wrap64 (o+2))=j_:=⟨_,rfl⟩;first|rw[af]at H|simp only[af]at H
       (try rw[af]at bu);have cE:(IntKind.i64.wrap (o+2))=ak:=(i64_w _).trans af;obtain⟨cL,cM,H⟩:=vF H;obtain⟨cN,cO,H⟩:=vF H;obtain⟨⟨aP,bO⟩,bB,H⟩:=bE H;try dsimp only at H
       by_cases bD:cp=true
       ·subst bD;rw[if_pos rfl]at H;by_cases bF:bO=true
        ·subst bF;rw[if_pos rfl]at H;rcases iT H with⟨bg,H⟩|⟨bg,H⟩
         ·obtain⟨b8,b9⟩:=vW bg;clear bg;have H':=bm H;clear H;go_wp2_with (first|(refine gB (some 34) Tryz.func51 #[.int .i64 a0,.string (a1.extract 0 (o:Int).toNat)] rfl ?_;(with_reducible refine(kQ.calls yP a0 (a1.extract 0 (o:Int).toNat) aj true _ bu.out).mono ?_);rintro e w' ⟨rfl,⟨nd,rfl⟩⟩;refine⟨_,rfl,?_⟩)|((with_reducible refine gate_callee (f:=51) rfl ?_);refine Dq (some 43) rfl rfl Tryz.func51 (by kernel_rfl) rfl #[.int .i64 a0,.string (a1.extract ((ak):Int).toNat a1.size)] rfl (by(try simp only[List.map_toArray,List.map_cons,List.map_nil]);first|done|(simp only[af];rfl)|rfl|(simp only[List.length_drop,List.length_take];rfl)) ?_;(with_reducible refine(kQ.calls yP a0 (a1.extract ((ak):Int).toNat a1.size) aP true _ bB.out).mono ?_);rintro e w' ⟨rfl,⟨nd,rfl⟩⟩;refine⟨_,rfl,?_⟩));go_roundg yP
          case measure=>have:=ai.out;have:=aO.out;omega
          case rel=>exact⟨(wrap64 (o+1)),(I),(J),(by first|rfl|(simp;done)|(simp[*];done)),H',⟨by have:=ai.out;have:=aO.out;omega⟩,⟨kS aa⟩,⟨wZ HB⟩⟩
         ·obtain⟨b8,b9⟩:=vV bg;obtain⟨rfl,rfl,rfl⟩:=s3 H;go_wp2_with (first|(refine gB (some 34) Tryz.func51 #[.int .i64 a0,.string (a1.extract 0 (o:Int).toNat)] rfl ?_;(with_reducible refine(kQ.calls yP a0 (a1.extract 0 (o:Int).toNat) aj true _ bu.out).mono ?_);rintro e w' ⟨rfl,⟨nd,rfl⟩⟩;refine⟨_,rfl,?_⟩;(try(rw[drewN_self wc];generalize rp:World.drewN wc _=wc;replace aa:rG wc al #[.int .i64 I,.int .i64 J] 76:=⟨by rw[←rp];exact(kS aa)⟩;replace HB:jX (Below w.heap.size w wc):=⟨by rw[←rp];exact(wZ HB)⟩;clear rp)))|((with_reducible refine gate_callee (f:=51) rfl ?_);refine Dq (some 43) rfl rfl Tryz.func51 (by kernel_rfl) rfl #[.int .i64 a0,.string (a1.extract ((ak):Int).toNat a1.size)] rfl (by(try simp only[List.map_toArray,List.map_cons,List.map_nil]);first|done|(simp only[af];rfl)|rfl|(simp only[List.length_drop,List.length_take];rfl)) ?_;(with_reducible refine(kQ.calls yP a0 (a1.extract ((ak):Int).toNat a1.size) aP true _ bB.out).mono ?_);rintro e w' ⟨rfl,⟨nd,rfl⟩⟩;refine⟨_,rfl,?_⟩;(try(rw[drewN_self wc];generalize rp:World.drewN wc _=wc;replace aa:rG wc al #[.int .i64 I,.int .i64 J] 76:=⟨by rw[←rp];exact(kS aa)⟩;replace HB:jX (Below w.heap.size w wc):=⟨by rw[←rp];exact(wZ HB)⟩;clear rp));obtain⟨cq,cr,ct,cu⟩:=b2 aa));refine bodyPost_ret (results_ct rfl _ _ al 76 #[.int .i64 aj,.int .i64 aP] (0,0) _ rfl (kP aa) Tryz.underlying76 rfl (by kernel_rfl)) rfl ?_;exact⟨by first|rfl|(simp[jS,jT]<;>rfl)|(simp only[←af];first|rfl|(simp[jS,jT]<;>rfl))|(simp[*,jS,jT]<;>rfl),wZ HB⟩
        ·replace bF:=uZ bF;subst bF;rw[if_neg vM]at H;have H':=bm H;clear H;go_wp2_with (first|(refine gB (some 34) Tryz.func51 #[.int .i64 a0,.string (a1.extract 0 (o:Int).toNat)] rfl ?_;(with_reducible refine(kQ.calls yP a0 (a1.extract 0 (o:Int).toNat) aj true _ bu.out).mono ?_);rintro e w' ⟨rfl,⟨nd,rfl⟩⟩;refine⟨_,rfl,?_⟩)|((with_reducible refine gate_callee (f:=51) rfl ?_);refine Dq (some 43) rfl rfl Tryz.func51 (by kernel_rfl) rfl #[.int .i64 a0,.string (a1.extract ((ak):Int).toNat a1.size)] rfl (by(try simp only[List.map_toArray,List.map_cons,List.map_nil]);first|done|(simp only[af];rfl)|rfl|(simp only[List.length_drop,List.length_take];rfl)) ?_;(with_reducible refine(kQ.calls yP a0 (a1.extract ((ak):Int).toNat a1.size) aP false _ bB.out).mono ?_);rintro e w' ⟨rfl,⟨nd,rfl⟩⟩;refine⟨_,rfl,?_⟩));go_roundg yP
         case measure=>have:=ai.out;have:=aO.out;omega
         case rel=>exact⟨(wrap64 (o+1)),(I),(J),(by first|rfl|(simp;done)|(simp[*];done)),H',⟨by have:=ai.out;have:=aO.out;omega⟩,⟨kS aa⟩,⟨wZ HB⟩⟩
       ·replace bD:=uZ bD;subst bD;rw[if_neg vM]at H;have H':=bm H;clear H;go_wp2_with (first|(refine gB (some 34) Tryz.func51 #[.int .i64 a0,.string (a1.extract 0 (o:Int).toNat)] rfl ?_;(with_reducible refine(kQ.calls yP a0 (a1.extract 0 (o:Int).toNat) aj false _ bu.out).mono ?_);rintro e w' ⟨rfl,⟨nd,rfl⟩⟩;refine⟨_,rfl,?_⟩)|((with_reducible refine gate_callee (f:=51) rfl ?_);refine Dq (some 43) rfl rfl Tryz.func51 (by kernel_rfl) rfl #[.int .i64 a0,.string (a1.extract ((ak):Int).toNat a1.size)] rfl (by(try simp only[List.map_toArray,List.map_cons,List.map_nil]);first|done|(simp only[af];rfl)|rfl|(simp only[List.length_drop,List.length_take];rfl)) ?_;(with_reducible refine(kQ.calls yP a0 (a1.extract ((ak):Int).toNat a1.size) aP bO _ bB.out).mono ?_);rintro e w' ⟨rfl,⟨nd,rfl⟩⟩;refine⟨_,rfl,?_⟩));go_roundg yP
        case measure=>have:=ai.out;have:=aO.out;omega
        case rel=>exact⟨(wrap64 (o+1)),(I),(J),(by first|rfl|(simp;done)|(simp[*];done)),H',⟨by have:=ai.out;have:=aO.out;omega⟩,⟨kS aa⟩,⟨wZ HB⟩⟩
   ·obtain⟨rfl,rfl,rfl⟩:=s3 H;obtain⟨cv,cw,cx,cy⟩:=b2 aa;go_wp2;refine bodyPost_ret (results_ct rfl _ _ al 76 #[.int .i64 0,.int .i64 0] (0,0) _ rfl (kP aa) Tryz.underlying76 rfl (by kernel_rfl)) rfl ?_;exact vZ HB
def sH.f (a0:Bool):Option (ByteArray):=if a0=true then(some (⟨#[121,101,115]⟩:ByteArray))else(some (⟨#[110,111]⟩:ByteArray))
theorem sH.calls (a0:Bool) (r:ByteArray) (w:World) (h:sH.f a0=some r):
  Calls Tryz.prog 53 #[.bool a0] w fun e w'=>e= .returned (.string r)∧Drawn0 w w':=by
 have H:=h;clear h;unfold sH.f at H;by_cases c2:a0=true
 ·subst c2;rw[if_pos rfl]at H;obtain rfl:=vU H;go_enter Tryz.func53,Tryz.ntmps53;go_wp2;go_ret;exact vY
 ·replace c2:=uZ c2;subst c2;rw[if_neg vM]at H;obtain rfl:=vU H;go_enter Tryz.func53,Tryz.ntmps53;go_wp2;go_ret;exact vY
mutual
def kz.j0:Nat→List Int→Int→Bool→Option (Int)
 |0,_,_,_=>none
 |k+1,x1,x2,x18=>if x18=true then(some (-1))else(kz.l0 k x1 x2 10 0)
def kz.l0:Nat→List Int→Int→Int→Int→Option (Int)
 |0,_,_,_,_=>none
 |k+1,x1,x2,x7,x8=>if x8<(x1.length:Int)then((pV.f x2 x8).bind fun an=>(if an=1 then(if 0≤x8 then(kz.l0 k x1 x2 (mn x7 (rd x1 x8)) (wrap64 (x8+1)))else(none))else(kz.l0 k x1 x2 x7 (wrap64 (x8+1)))))else(some x7)
end
def kz.f (k:Nat) (a0:Int) (l1:List Int) (a2:Int):Option (Int):=(kc.f k a0 l1).bind fun aQ=>(if aQ=true then((oD.f a0 a2).bind fun aC=>(kz.j0 k l1 a2 (!aC)))else(kz.j0 k l1 a2 true))
theorem kz.jQ:∀k,(∀y0 y1 y2,qg (kz.j0 k y0 y1 y2) (kz.j0 (k+1) y0 y1 y2))∧(∀y0 y1 y2 y3,qg (kz.l0 k y0 y1 y2 y3) (kz.l0 (k+1) y0 y1 y2 y3))
 |0=>⟨fun _ _ _=> .z (by simp only[kz.j0]),fun _ _ _ _=> .z (by simp only[kz.l0])⟩
 |k+1=>by
  have⟨i0,i1⟩:=kz.jQ k;exact⟨fun _ _ _=>by unfold kz.j0;infer_instance,fun _ _ _ _=>by unfold kz.l0;infer_instance⟩
instance kz.mo {k a0 a1 a2}:qg (kz.f k a0 a1 a2) (kz.f (k+1) a0 a1 a2):=by have⟨i0,i1⟩:=kz.jQ k;unfold kz.f;infer_instance
theorem kz.calls (k:Nat) (a0:Int) (A1:Option Addr) (c1:Nat) (l1:List Int) (a2:Int) (r:Int) (w:World) (aR:Kd.C (Kd.int .i64) w A1 l1.length l1) (aS:l1.length≤c1) (h:kz.f k a0 l1 a2=some r):
  Calls Tryz.prog 110 #[.int .i64 a0,.slice A1 l1.length c1,.int .i64 a2] w fun e w'=>e= .returned (.int .i64 r)∧Below w.heap.size w w':=by
 have aq:=bm aR;have aw:=bm aS;clear aR aS;have HB:=bm (Below.refl w.heap.size w);have H:=h;clear h;unfold kz.f at H;have ax:=bm H;clear H;go_enter Tryz.func110,Tryz.ntmps110;go_upto_region 1 with(fail)
 go_cut [18] (fun cP wc=>∃(kq:Nat) (aH:Bool),cP= .bool aH∧jX (kz.j0 kq l1 a2 aH=some r)∧jX (kq≤k)∧jX (Below w.heap.size w wc))
 case first=>
  have H:=ax.out;clear ax;obtain⟨aQ,A5,H⟩:=bE H;try dsimp only at H
  by_cases c6:aQ=true
  ·subst c6;rw[if_pos rfl]at H;obtain⟨aC,A7,H⟩:=bE H;try dsimp only at H
   have H':=bm H;clear H;go_wp2_with (first|(refine gB (some 11) Tryz.func103 #[.int .i64 a0,.slice A1 l1.length c1] rfl ?_;(with_reducible refine(kc.calls k a0 _ _ l1 true _ ?_ ?_ A5.out).mono ?_);exact cY aq HB;exact aw.out;rintro e w8 ⟨rfl,hb⟩;refine⟨_,rfl,?_⟩;replace HB:=bW HB hb;clear hb)|(go_at_call 106;(with_reducible refine(oD.calls a0 a2 aC _ A7.out).mono ?_);rintro e w' ⟨rfl,⟨nd,rfl⟩⟩));go_meet
   case rel=>exact⟨_,(!aC),(by first|rfl|(simp;done)|(simp[*];done)),H',⟨by first|omega|exact Nat.le_refl _⟩,⟨wZ HB⟩⟩
  ·replace c6:=uZ c6;subst c6;rw[if_neg vM]at H;have H':=bm H;clear H;go_wp2_with (first|(refine gB (some 11) Tryz.func103 #[.int .i64 a0,.slice A1 l1.length c1] rfl ?_;(with_reducible refine(kc.calls k a0 _ _ l1 false _ ?_ ?_ A5.out).mono ?_);exact cY aq HB;exact aw.out;rintro e w9 ⟨rfl,hb⟩;refine⟨_,rfl,?_⟩;replace HB:=bW HB hb;clear hb));go_meet
   case rel=>exact⟨_,(true),(by first|rfl|(simp;done)|(simp[*];done)),H',⟨by first|omega|exact Nat.le_refl _⟩,⟨wZ HB⟩⟩
 case rest=>
  clear ax;obtain⟨kq,aH,rfl,HA,bh,HB⟩:=hcut;cases kq with
  |zero=>exact absurd HA.out (by simp[kz.j0])
  |succ xQ=>
   have H:=HA.out;clear HA;simp only[kz.j0]at H;by_cases c10:aH=true
   ·subst c10;rw[if_pos rfl]at H;obtain rfl:=vU H;go_wp2;go_ret;exact vZ HB
   ·replace c10:=uZ c10;subst c10;rw[if_neg vM]at H;have H':=bm H;clear H;go_wp2;go_loopg [7,8] xQ (fun kq v7 v8 w'=>∃(ay:Int) (ad:Int),v7= .int .i64 ay∧v8= .int .i64 ad∧jX (kz.l0 kq l1 a2 ay ad=some r)∧jX (kq≤xQ)∧jX (Below w.heap.size w w'))
    case atStart=>exact⟨(10),(0),(by first|rfl|(simp;done)|(simp[*];done)),(by first|rfl|(simp;done)|(simp[*];done)),H',⟨Nat.le_refl _⟩,⟨wZ HB⟩⟩
    case round=>
     clear H';obtain⟨ay,ad,rfl,rfl,HA,bH,HB⟩:=hrel;cases gk with
     |zero=>exact absurd HA.out (by simp[kz.l0])
     |succ k2=>
      have H:=HA.out;clear HA;simp only[kz.l0]at H;rcases vG H with⟨bs,H⟩|⟨bs,H⟩
      ·obtain⟨an,bb,H⟩:=bE H;try dsimp only at H
       rcases iT H with⟨av,H⟩|⟨av,H⟩
       ·obtain⟨ca,cb⟩:=vW av;clear av;obtain⟨b4,H⟩:=vE H;obtain⟨bT,az⟩:∃j_:Int,(mn ay (rd l1 ad))=j_:=⟨_,rfl⟩;first|rw[az]at H|simp only[az]at H
        (try rw[az]at bb);have cF:(if(rd l1 ad)<ay then(rd l1 ad)else ay)=bT:=az;have H':=bm H;clear H;go_wp2_with (first|(refine gB (some 27) Tryz.func107 #[.int .i64 a2,.int .i64 ad] rfl ?_;(with_reducible refine(pV.calls a2 ad an _ bb.out).mono ?_);rintro e w' ⟨rfl,⟨nd,rfl⟩⟩;refine⟨_,rfl,?_⟩;have bw:0≤(ad:Int):=pG;have bx:ad<(l1.length:Int):=pG;obtain⟨cQ,cz,aA⟩:=Kd.at_int aq.out ad bw bx;cases cz;replace aA:=vA HB aA;replace bw:=vD bw;replace bx:=vD bx));go_roundg k2
        case measure=>have:=bh.out;have:=bH.out;omega
        case rel=>exact⟨(bT),(wrap64 (ad+1)),(by first|rfl|(simp;done)|(simp only[←az]<;>(first|rfl|simp))|(simp[*];done)),(by first|rfl|(simp;done)|(simp[*];done)),H',⟨by have:=bh.out;have:=bH.out;omega⟩,⟨wZ HB⟩⟩
       ·obtain⟨ca,cb⟩:=vV av;have H':=bm H;clear H;go_wp2_with (first|(refine gB (some 27) Tryz.func107 #[.int .i64 a2,.int .i64 ad] rfl ?_;(with_reducible refine(pV.calls a2 ad an _ bb.out).mono ?_);rintro e w' ⟨rfl,⟨nd,rfl⟩⟩;refine⟨_,rfl,?_⟩));go_roundg k2
        case measure=>have:=bh.out;have:=bH.out;omega
        case rel=>exact⟨(ay),(wrap64 (ad+1)),(by first|rfl|(simp;done)|(simp[*];done)),(by first|rfl|(simp;done)|(simp[*];done)),H',⟨by have:=bh.out;have:=bH.out;omega⟩,⟨wZ HB⟩⟩
      ·obtain rfl:=vU H;go_wp2;go_ret;exact vZ HB
def oI.j0:Nat→Int→List Int→Int→Bool→Option (Int)
 |0,_,_,_,_=>none
 |k+1,x0,x1,x2,x16=>if x16=true then(some (-1))else((qw.f x0).bind fun aT=>((kz.f k x0 x1 (wrap64 (aT - x2))).bind fun bz=>(some bz)))
def oI.f (k:Nat) (a0:Int) (l1:List Int) (a2:Int):Option (Int):=(kc.f k a0 l1).bind fun aU=>(if aU=true then((oD.f a0 a2).bind fun aD=>(oI.j0 k a0 l1 a2 (!aD)))else(oI.j0 k a0 l1 a2 true))
theorem oI.jQ:∀k,(∀y0 y1 y2 y3,qg (oI.j0 k y0 y1 y2 y3) (oI.j0 (k+1) y0 y1 y2 y3))
 |0=>fun _ _ _ _=> .z (by simp only[oI.j0])
 |k+1=>by
  have i0:=oI.jQ k;exact fun _ _ _ _=>by unfold oI.j0;infer_instance
instance oI.mo {k a0 a1 a2}:qg (oI.f k a0 a1 a2) (oI.f (k+1) a0 a1 a2):=by have i0:=oI.jQ k;unfold oI.f;infer_instance
theorem oI.calls (k:Nat) (a0:Int) (A1:Option Addr) (c1:Nat) (l1:List Int) (a2:Int) (r:Int) (w:World) (aR:Kd.C (Kd.int .i64) w A1 l1.length l1) (aS:l1.length≤c1) (h:oI.f k a0 l1 a2=some r):
  Calls Tryz.prog 55 #[.int .i64 a0,.slice A1 l1.length c1,.int .i64 a2] w fun e w'=>e= .returned (.int .i64 r)∧Below w.heap.size w w':=by
 have aq:=bm aR;have aw:=bm aS;clear aR aS;have HB:=bm (Below.refl w.heap.size w);have H:=h;clear h;unfold oI.f at H;have ax:=bm H;clear H;go_enter Tryz.func55,Tryz.ntmps55;go_upto_region 1 with(fail)
 go_cut [16] (fun cR wc=>∃(kq:Nat) (aI:Bool),cR= .bool aI∧jX (oI.j0 kq a0 l1 a2 aI=some r)∧jX (kq≤k)∧jX (Below w.heap.size w wc))
 case first=>
  have H:=ax.out;clear ax;obtain⟨aU,A5,H⟩:=bE H;try dsimp only at H
  by_cases c6:aU=true
  ·subst c6;rw[if_pos rfl]at H;obtain⟨aD,A7,H⟩:=bE H;try dsimp only at H
   have H':=bm H;clear H;go_wp2_with (first|(refine gB (some 9) Tryz.func103 #[.int .i64 a0,.slice A1 l1.length c1] rfl ?_;(with_reducible refine(kc.calls k a0 _ _ l1 true _ ?_ ?_ A5.out).mono ?_);exact cY aq HB;exact aw.out;rintro e w8 ⟨rfl,hb⟩;refine⟨_,rfl,?_⟩;replace HB:=bW HB hb;clear hb)|(go_at_call 106;(with_reducible refine(oD.calls a0 a2 aD _ A7.out).mono ?_);rintro e w' ⟨rfl,⟨nd,rfl⟩⟩));go_meet
   case rel=>exact⟨_,(!aD),(by first|rfl|(simp;done)|(simp[*];done)),H',⟨by first|omega|exact Nat.le_refl _⟩,⟨wZ HB⟩⟩
  ·replace c6:=uZ c6;subst c6;rw[if_neg vM]at H;have H':=bm H;clear H;go_wp2_with (first|(refine gB (some 9) Tryz.func103 #[.int .i64 a0,.slice A1 l1.length c1] rfl ?_;(with_reducible refine(kc.calls k a0 _ _ l1 false _ ?_ ?_ A5.out).mono ?_);exact cY aq HB;exact aw.out;rintro e w9 ⟨rfl,hb⟩;refine⟨_,rfl,?_⟩;replace HB:=bW HB hb;clear hb));go_meet
   case rel=>exact⟨_,(true),(by first|rfl|(simp;done)|(simp[*];done)),H',⟨by first|omega|exact Nat.le_refl _⟩,⟨wZ HB⟩⟩
 case rest=>
  clear ax;obtain⟨kq,aI,rfl,HA,bh,HB⟩:=hcut;cases kq with
  |zero=>exact absurd HA.out (by simp[oI.j0])
  |succ xQ=>
   have H:=HA.out;clear HA;simp only[oI.j0]at H;by_cases c10:aI=true
   ·subst c10;rw[if_pos rfl]at H;obtain rfl:=vU H;go_wp2;go_ret;exact vZ HB
   ·replace c10:=uZ c10;subst c10;rw[if_neg vM]at H;obtain⟨aT,cc,H⟩:=bE H;try dsimp only at H
    obtain⟨bz,bb,H⟩:=bE H;try dsimp only at H
    obtain rfl:=vU H;go_wp2_with (first|(refine gB (some 20) Tryz.func105 #[.int .i64 a0] rfl ?_;(with_reducible refine(qw.calls a0 aT _ cc.out).mono ?_);rintro e w' ⟨rfl,⟨nd,rfl⟩⟩;refine⟨_,rfl,?_⟩)|(refine gB (some 23) Tryz.func110 #[.int .i64 a0,.slice A1 l1.length c1,.int .i64 (wrap64 (aT - a2))] rfl ?_;(with_reducible refine(kz.calls xQ a0 _ _ l1 (wrap64 (aT - a2)) bz _ ?_ ?_ bb.out).mono ?_);exact cZ (Kd.C_below aq.out (wZ HB));exact aw.out;rintro e b0 ⟨rfl,hb⟩;refine⟨_,rfl,?_⟩;replace HB:=bW HB hb;clear hb));go_ret;exact vZ HB
def pZ.j0:Nat→Int→List Int→Int→Bool→Option (Int)
 |0,_,_,_,_=>none
 |k+1,x0,x1,x2,x17=>if x17=true then(some (-1))else((qw.f x0).bind fun ao=>((kv.f k x1 ao).bind fun aV=>((kv.f k x1 (wrap64 (ao - x2))).bind fun aW=>((qo.f k aV aW).bind fun bA=>(some bA)))))
def pZ.f (k:Nat) (a0:Int) (l1:List Int) (a2:Int):Option (Int):=(kc.f k a0 l1).bind fun aY=>(if aY=true then((oD.f a0 a2).bind fun aE=>(pZ.j0 k a0 l1 a2 (!aE)))else(pZ.j0 k a0 l1 a2 true))
theorem pZ.jQ:∀k,(∀y0 y1 y2 y3,qg (pZ.j0 k y0 y1 y2 y3) (pZ.j0 (k+1) y0 y1 y2 y3))
 |0=>fun _ _ _ _=> .z (by simp only[pZ.j0])
 |k+1=>by
  have i0:=pZ.jQ k;exact fun _ _ _ _=>by unfold pZ.j0;infer_instance
instance pZ.mo {k a0 a1 a2}:qg (pZ.f k a0 a1 a2) (pZ.f (k+1) a0 a1 a2):=by have i0:=pZ.jQ k;unfold pZ.f;infer_instance
theorem pZ.calls (k:Nat) (a0:Int) (A1:Option Addr) (c1:Nat) (l1:List Int) (a2:Int) (r:Int) (w:World) (aR:Kd.C (Kd.int .i64) w A1 l1.length l1) (aS:l1.length≤c1) (h:pZ.f k a0 l1 a2=some r):
  Calls Tryz.prog 56 #[.int .i64 a0,.slice A1 l1.length c1,.int .i64 a2] w fun e w'=>e= .returned (.int .i64 r)∧Below w.heap.size w w':=by
 have aq:=bm aR;have aw:=bm aS;clear aR aS;have HB:=bm (Below.refl w.heap.size w);have H:=h;clear h;unfold pZ.f at H;have ax:=bm H;clear H;go_enter Tryz.func56,Tryz.ntmps56;go_upto_region 1 with(fail)
 go_cut [17] (fun cS wc=>∃(kq:Nat) (aJ:Bool),cS= .bool aJ∧jX (pZ.j0 kq a0 l1 a2 aJ=some r)∧jX (kq≤k)∧jX (Below w.heap.size w wc))
 case first=>
  have H:=ax.out;clear ax;obtain⟨aY,A5,H⟩:=bE H;try dsimp only at H
  by_cases c6:aY=true
  ·subst c6;rw[if_pos rfl]at H;obtain⟨aE,A7,H⟩:=bE H;try dsimp only at H
   have H':=bm H;clear H;go_wp2_with (first|(refine gB (some 10) Tryz.func103 #[.int .i64 a0,.slice A1 l1.length c1] rfl ?_;(with_reducible refine(kc.calls k a0 _ _ l1 true _ ?_ ?_ A5.out).mono ?_);exact cY aq HB;exact aw.out;rintro e w8 ⟨rfl,hb⟩;refine⟨_,rfl,?_⟩;replace HB:=bW HB hb;clear hb)|(go_at_call 106;(with_reducible refine(oD.calls a0 a2 aE _ A7.out).mono ?_);rintro e w' ⟨rfl,⟨nd,rfl⟩⟩));go_meet
   case rel=>exact⟨_,(!aE),(by first|rfl|(simp;done)|(simp[*];done)),H',⟨by first|omega|exact Nat.le_refl _⟩,⟨wZ HB⟩⟩
  ·replace c6:=uZ c6;subst c6;rw[if_neg vM]at H;have H':=bm H;clear H;go_wp2_with (first|(refine gB (some 10) Tryz.func103 #[.int .i64 a0,.slice A1 l1.length c1] rfl ?_;(with_reducible refine(kc.calls k a0 _ _ l1 false _ ?_ ?_ A5.out).mono ?_);exact cY aq HB;exact aw.out;rintro e w9 ⟨rfl,hb⟩;refine⟨_,rfl,?_⟩;replace HB:=bW HB hb;clear hb));go_meet
   case rel=>exact⟨_,(true),(by first|rfl|(simp;done)|(simp[*];done)),H',⟨by first|omega|exact Nat.le_refl _⟩,⟨wZ HB⟩⟩
 case rest=>
  clear ax;obtain⟨kq,aJ,rfl,HA,bh,HB⟩:=hcut;cases kq with
  |zero=>exact absurd HA.out (by simp[pZ.j0])
  |succ xQ=>
   have H:=HA.out;clear HA;simp only[pZ.j0]at H;by_cases c10:aJ=true
   ·subst c10;rw[if_pos rfl]at H;obtain rfl:=vU H;go_wp2;go_ret;exact vZ HB
   ·replace c10:=uZ c10;subst c10;rw[if_neg vM]at H;obtain⟨ao,cc,H⟩:=bE H;try dsimp only at H
    obtain⟨aV,bb,H⟩:=bE H;try dsimp only at H
    obtain⟨aW,cT,H⟩:=bE H;try dsimp only at H
    obtain⟨bA,cU,H⟩:=bE H;try dsimp only at H
    obtain rfl:=vU H;go_wp2_with (first|(refine gB (some 19) Tryz.func105 #[.int .i64 a0] rfl ?_;(with_reducible refine(qw.calls a0 ao _ cc.out).mono ?_);rintro e w' ⟨rfl,⟨nd,rfl⟩⟩;refine⟨_,rfl,?_⟩)|(refine gB (some 22) Tryz.func104 #[.slice A1 l1.length c1,.int .i64 ao] rfl ?_;(with_reducible refine(kv.calls xQ _ _ l1 ao aV _ ?_ ?_ bb.out).mono ?_);exact cZ (Kd.C_below aq.out (wZ HB));exact aw.out;rintro e dn ⟨rfl,hb⟩;refine⟨_,rfl,?_⟩;replace HB:=bW HB hb;clear hb)|(refine gB (some 27) Tryz.func104 #[.slice A1 l1.length c1,.int .i64 (wrap64 (ao - a2))] rfl ?_;(with_reducible refine(kv.calls xQ _ _ l1 (wrap64 (ao - a2)) aW _ ?_ ?_ cT.out).mono ?_);exact cY aq HB;exact aw.out;rintro e dp ⟨rfl,hb⟩;refine⟨_,rfl,?_⟩;replace HB:=bW HB hb;clear hb)|(refine gB (some 28) Tryz.func111 #[.int .i64 aV,.int .i64 aW] rfl ?_;(with_reducible refine(qo.calls xQ aV aW bA _ cU.out).mono ?_);rintro e w' ⟨rfl,⟨nd,rfl⟩⟩;refine⟨_,rfl,?_⟩));go_ret;exact vZ HB
def qb.l0:Nat→Int→Int→Int→Int→Option (Int)
 |0,_,_,_,_=>none
 |k+1,x0,x1,x5,x6=>if x6<3 then(if 0≤x6 then(if(Int.tmod (shr .i64 x0 x6) 2)=(Int.tmod (shr .i64 x1 x6) 2)then(qb.l0 k x0 x1 x5 (wrap64 (x6+1)))else(qb.l0 k x0 x1 (wrap64 (x5+1)) (wrap64 (x6+1))))else(none))else(some x5)
def qb.f (k:Nat) (a0:Int) (a1:Int):Option (Int):=qb.l0 k a0 a1 0 0
theorem qb.jQ:∀k,(∀y0 y1 y2 y3,qg (qb.l0 k y0 y1 y2 y3) (qb.l0 (k+1) y0 y1 y2 y3))
 |0=>fun _ _ _ _=> .z (by simp only[qb.l0])
 |k+1=>by
  have i0:=qb.jQ k;exact fun _ _ _ _=>by unfold qb.l0;infer_instance
instance qb.mo {k a0 a1}:qg (qb.f k a0 a1) (qb.f (k+1) a0 a1):=by have i0:=qb.jQ k;unfold qb.f;infer_instance
theorem qb.calls (k:Nat) (a0:Int) (a1:Int) (r:Int) (w:World) (h:qb.f k a0 a1=some r):
  Calls Tryz.prog 139 #[.int .i64 a0,.int .i64 a1] w fun e w'=>e= .returned (.int .i64 r)∧Drawn0 w w':=by
 have H:=h;clear h;unfold qb.f at H;have H':=bm H;clear H;go_enter Tryz.func139,Tryz.ntmps139;go_wp2;repeat(go_quiet (fail);try go_wp2)
 go_loopg [5,6] k (fun kq v5 v6 w'=>∃(aZ:Int) (o:Int),v5= .int .i64 aZ∧v6= .int .i64 o∧jX (qb.l0 kq a0 a1 aZ o=some r)∧jX (kq≤k)∧Drawn0 w w')
 case atStart=>exact⟨(0),(0),(by first|rfl|(simp;done)|(simp[*];done)),(by first|rfl|(simp;done)|(simp[*];done)),H',⟨Nat.le_refl _⟩,by repeat(first|exact Drawn0.refl _|apply Drawn0.step)⟩
 case round=>
  clear H';obtain⟨aZ,o,rfl,rfl,HA,ai,⟨m1,rfl⟩⟩:=hrel;cases gk with
  |zero=>exact absurd HA.out (by simp[qb.l0])
  |succ k1=>
   have H:=HA.out;clear HA;simp only[qb.l0]at H;rcases vG H with⟨cA,H⟩|⟨cA,H⟩
   ·obtain⟨bq,dh,H⟩:=vF H;obtain⟨bj,bc⟩:∃j_:Int,(shr .i64 a0 o)=j_:=⟨_,rfl⟩;first|rw[bc]at H|simp only[bc]at H
    have cV:(a0/2^min o.toNat 64)=bj:=bc;have cW:o≤64→(a0/2^o.toNat)=bj:=shr_small bc;have br:=vD (pG:0≤o);obtain⟨bk,bd⟩:∃j_:Int,(shr .i64 a1 o)=j_:=⟨_,rfl⟩;first|rw[bd]at H|simp only[bd]at H
    have cX:(a1/2^min o.toNat 64)=bk:=bd;have c0:o≤64→(a1/2^o.toNat)=bk:=shr_small bd;rcases iT H with⟨c8,H⟩|⟨c8,H⟩
    ·obtain⟨cB,cC⟩:=vW c8;clear c8;have H':=bm H;clear H;go_wp2;repeat(go_quiet (fail);try go_wp2)
     go_roundg k1
     case measure=>have:=ai.out;omega
     case rel=>exact⟨(aZ),(wrap64 (o+1)),(by first|rfl|(simp;done)|(simp[*];done)),(by first|rfl|(simp;done)|(simp[*];done)),H',⟨by have:=ai.out;omega⟩,by repeat(first|exact Drawn0.refl _|apply Drawn0.step)⟩
    ·obtain⟨cB,cC⟩:=vV c8;have H':=bm H;clear H;go_wp2;repeat(go_quiet (fail);try go_wp2)
     go_roundg k1
     case measure=>have:=ai.out;omega
     case rel=>exact⟨(wrap64 (aZ+1)),(wrap64 (o+1)),(by first|rfl|(simp;done)|(simp[*];done)),(by first|rfl|(simp;done)|(simp[*];done)),H',⟨by have:=ai.out;omega⟩,by repeat(first|exact Drawn0.refl _|apply Drawn0.step)⟩
   ·obtain rfl:=vU H;go_wp2;repeat(go_quiet (fail);try go_wp2)
    go_ret;exact vY
end Go.Proofs.YtihgpkohglcijaaGreatDoor.P
