import Derived.Test.YtihgpkohglcijaaGreatDoorPx0
import Derived.Test.YtihgpkohglcijaaGreatDoorPx14
import Derived.Test.YtihgpkohglcijaaGreatDoorPx17
import Derived.Test.YtihgpkohglcijaaGreatDoorPx18
namespace Go.Proofs.YtihgpkohglcijaaGreatDoor.P
open Go.RowKit Go.Proofs.YtihgpkohglcijaaGreatDoorW.PrintWords Go.Proofs.YtihgpkohglcijaaGreatDoorW.PrintLast Go.Proofs.YtihgpkohglcijaaGreatDoorW.PrintMore
attribute [local go_sem] max2_int min2_int max_two min_two max_three min_three max_four min_four   -- for this text's walks alone
set_option linter.unusedVariables false
set_option linter.unusedSimpArgs false
set_option maxHeartbeats 8000000
set_option maxRecDepth 100000
abbrev Mk22_0:Array Bool:= #[true,true,true,true,true,true,true,true,false,false,false]
abbrev Mk22_1:Array Bool:= #[true,true,true,true,true,true,true,true,true,false,false]
def spec_l1Number.f:Nat→Int→Option (ByteArray)
 |0,_=>none
 |k+1,a0=>if a0<10 then(some (strOfNums (([(wrap64 (48+a0))%256]:List Int))))else((spec_l1Number.f k (wrap64 (Int.tdiv a0 10))).bind fun ae=>((some (([(wrap64 (48+(Int.tmod a0 10)))%256]:List Int):List Int)).bind fun ag=>(if ae.size+(strOfNums ag).size≤9223372036854775807 then(some (ae++(strOfNums ag)))else(none))))
theorem spec_l1Number.mono_l:∀k,(∀y0,MoR (spec_l1Number.f k y0) (spec_l1Number.f (k+1) y0))
 |0=>fun _=> .z (by simp only[spec_l1Number.f])
 |k+1=>by
  have i0:=spec_l1Number.mono_l k;exact fun _=>by unfold spec_l1Number.f;infer_instance
instance spec_l1Number.mo {k a0}:MoR (spec_l1Number.f k a0) (spec_l1Number.f (k+1) a0):=(spec_l1Number.mono_l k) a0
theorem spec_l1Number.mono:∀a0 k,LeO (spec_l1Number.f k a0) (spec_l1Number.f (k+1) a0):=fun _ _=>spec_l1Number.mo.h
def spec_l1Number.T3:Bool×List (List Nat×List Nat):=(true,[([],[]),([0],[0]),([1],[1]),([],[]),([3],[3]),([4],[4]),([5],[5]),([6],[6]),([7],[7]),([2,8],[2,8]),([9,2,0,1,2,3,4,5,6,7,8,9],[9])])
def spec_l1Number.B3:List Nat:=[0,1,3,0,8,24,56,120,248,511,1023]
theorem spec_l1Number.tab3:rtab .any (opsOf Tryz.f50 3)=spec_l1Number.T3:=by kernel_rfl
theorem spec_l1Number.bits3:waitsOk spec_l1Number.T3.2 spec_l1Number.B3=true:=by kernel_rfl
theorem spec_l1Number.calls (k:Nat):∀(a0:Int) (r:ByteArray) (w:World) (h:spec_l1Number.f k a0=some r),
  Calls Tryz.prog 50 #[.int .i64 a0] w fun e w'=>e= .returned (.string r)∧Below w.heap.size w w':=by
 induction k using Nat.strongRecOn with
 | _ k ih=>
 intro a0 r w h;cases k with
 |zero=>exact absurd h (by simp[spec_l1Number.f])
 |succ k=>
 simp only[spec_l1Number.f]at h;have HB:=Asd.mk (Below.refl w.heap.size w);have H:(if a0<10 then(some (strOfNums (([(wrap64 (48+a0))%256]:List Int))))else((spec_l1Number.f k (wrap64 (Int.tdiv a0 10))).bind fun ae=>((some (([(wrap64 (48+(Int.tmod a0 10)))%256]:List Int):List Int)).bind fun ag=>(if ae.size+(strOfNums ag).size≤9223372036854775807 then(some (ae++(strOfNums ag)))else(none)))))=some r:=h;clear h;rcases iT H with⟨c2,H⟩|⟨c2,H⟩
 ·have cd:=decide_eq_true c2;clear c2;obtain⟨cf,a6⟩:∃y_:List Int,y_=(([(wrap64 (48+a0))%256]:List Int)):=⟨_,rfl⟩;replace H:(some (strOfNums cf))=some r:=by first|(rw[a6];exact H)|exact H
  have bl:=Asd.mk a6;clear a6;obtain rfl:=Option.some.inj H;go_enter Tryz.func50,Tryz.ntmps50;go_wp2_with (first|((with_reducible refine gate_dst (N:=8) rfl ?_);refine Kd.R_lit (Kd.int .u8) _ 5 ?hg (N:=8) ?hd (xs:=([(wrap64 (48+a0))%256]:List Int)) (inner:=[.int .u8 ((wrap64 (48+a0))%256)]) (ok:=fun _=>True) (okp:=fun _=>True) ?hr ?hp (fun _ hk=>hk) trivial (Below.refl _ _) (Nat.le_refl _) (by simp) ?_;(case hd=>rfl);(case hg=>rfl);(case hr=>first|(go_simp;done)|(go_simp;rfl));(case hp=>exact(Reps.one (show Kd.M (Kd.int .u8) _ _ _ ((wrap64 (48+a0))%256) [.int .u8 ((wrap64 (48+a0))%256)] from rfl) (Reps.none _ _)));intro da w3 bn hb bo ar;clear bo ar;(first|rw[←bl.out]at bn|(simp only[Int.reduceToNat]at bn;rw[←bl.out]at bn));have bV:=Asd.mk (Kd.R_lower bn (below_size (wZ HB)));replace HB:=bW HB hb;clear hb bn;have db:=own_string (P:=Tryz.prog) Tryz.underlying22 Tryz.underlying5 Tryz.underlying9 (Kd.own_of_R bV.out)));go_ret;exact⟨by first|rfl|(simp[*,errW_none,errW_some]<;>rfl),wZ HB⟩
 ·have cd:=decide_eq_false c2;clear c2;obtain⟨ae,A6,H⟩:=bE H;try dsimp only at H
  obtain⟨ag,a7⟩:∃y_:List Int,y_=(([(wrap64 (48+(Int.tmod a0 10)))%256]:List Int)):=⟨_,rfl⟩;replace H:(if ae.size+(strOfNums ag).size≤9223372036854775807 then(some (ae++(strOfNums ag)))else(none))=some r:=by first|(rw[a7];exact H)|exact H
  have aF:=Asd.mk a7;clear a7;obtain⟨c7,H⟩:=iN H;have cg:=eq_true c7;have dc:=decide_eq_true c7;try have dd:(9223372036854775807<ae.size+(strOfNums ag).size)=False:=eq_false (Nat.not_lt.2 c7)
  obtain rfl:=Option.some.inj H;go_enter Tryz.func50,Tryz.ntmps50;try go_wp2
  replace HB:=Asd.mk (bwD HB.out);refine start_ (n:=11) (S:=fun w'=>True) (ds:=[]) #[false,false,false,false,false,false,false,false,false,false,false] (by kernel_rfl) rfl rfl trivial (fun hHeld=>?_);refine with_tabW spec_l1Number.tab3 spec_l1Number.bits3 (fun ah di=>?_);generalize w.drew=w8 at HB hHeld⊢;refine pA 0 10 ah ?_ ?_ ?_ ?_ (pA 1 11 ah ?_ ?_ ?_ ?_ (pA 3 13 ah ?_ ?_ ?_ ?_ (pA 4 14 ah ?_ ?_ ?_ ?_ (pA 5 15 ah ?_ ?_ ?_ ?_ (pA 6 16 ah ?_ ?_ ?_ ?_ ?_)))))
  all_goals first|(intro w';go_simp;with_reducible rfl)|(simp only[Act.put,qA,qB,qC,i64_w,i32_w];rfl)|skip
  refine join_ (σ:=Value) 2 Mk22_1 (fun s_=>[(12,.string ae),(17,s_),(18,.string (strOfNums ag))]) (fun s_ w'=>(Kd.R (Kd.int .u8) 5 w' w.heap.size (fun _=>True) s_ ag)∧(Below w.heap.size w w')) ?_ ?_;rotate_left
  ·intro hCont;refine two_ (i:=2) (j:=7) (Ni:=some 12) (Nj:=some 17) #[true,true,true,true,true,true,true,false,false,false,false] #[true,true,false,true,true,true,true,true,false,false,false] rfl rfl rfl rfl (two_of ah.out (by kernel_rfl)) (by decide) (by decide) (fun K hK=>?_) (fun K hK=>?_)
   ·skip;refine goes_ Tryz.func50 (by kernel_rfl) rfl #[.int .i64 (wrap64 (Int.tdiv a0 10))] (by rfl) rfl rfl (by(try simp only[List.map_toArray,List.map_cons,List.map_nil]);first|done|rfl|(simp only[List.length_drop,List.length_take];rfl)) ?_;with_reducible refine(ih k (by omega) (wrap64 (Int.tdiv a0 10)) ae _ A6.out).mono ?_
    rintro e w9 ⟨rfl,hb⟩;refine⟨_,rfl,?_⟩;replace HB:=bW HB hb;(try clear hb);(try clear hb2);(try clear hk);(try clear hi);refine hK.out _ _ trivial (fun hHeld=>?_);clear hK K;refine norm_ (a':=?_) ?_ ?_;rotate_left
    ·show Act.put _ (some 12) _=_
     simp only[Act.put,qA,qB,qC,i64_w,i32_w];rfl
    refine oA 7 (some 17) ah (fun K hK=>?_);refine Kd.R_lit_step (Kd.int .u8) _ 5 ?hg (N:=17) ?hd (xs:=([(wrap64 (48+(Int.tmod a0 10)))%256]:List Int)) (inner:=[.int .u8 ((wrap64 (48+(Int.tmod a0 10)))%256)]) (ok:=fun _=>True) (okp:=fun _=>True) ?hr ?hp (fun _ hk=>hk) trivial (Below.refl _ _) (Nat.le_refl _) (by simp) ?_;(case hd=>rfl);(case hg=>rfl);(case hr=>first|(go_simp;done)|(go_simp;rfl));(case hp=>exact(Reps.one (show Kd.M (Kd.int .u8) _ _ _ ((wrap64 (48+(Int.tmod a0 10)))%256) [.int .u8 ((wrap64 (48+(Int.tmod a0 10)))%256)] from rfl) (Reps.none _ _)));intro aB dj aK hb bo ar;clear bo ar;(first|rw[←aF.out]at aK|(simp only[Int.reduceToNat]at aK;rw[←aF.out]at aK));have ab:=Asd.mk (Kd.R_lower aK (below_size (wZ HB)));replace HB:=bW HB hb;clear hb aK;refine hK.out _ _ trivial (fun hHeld=>?_);clear hK K;refine norm_ (a':=?_) ?_ ?_;rotate_left
    ·show Act.put _ (some 17) _=_
     simp only[Act.put,qA,qB,qC,i64_w,i32_w];rfl
    refine oA 8 (some 18) ah (fun K hK=>?_);have a8:=own_string (P:=Tryz.prog) Tryz.underlying22 Tryz.underlying5 Tryz.underlying9 (Kd.own_of_R ab.out);refine value_ (w1:=?_) (v:=?_) (by rfl) rfl ?_ ?_;rotate_left 2
    ·go_simp;constructor
     ·rfl
     ·rfl
    clear a8;refine hK.out _ _ trivial (fun hHeld=>?_);clear hK K;refine norm_ (a':=?_) ?_ ?_;rotate_left
    ·show Act.put _ (some 18) _=_
     simp only[Act.put,qA,qB,qC,i64_w,i32_w];rfl
    exact norm_ (by simp only[putAll,Act.put,qA,qB,qC]) (hCont (aB) _ ⟨(rS ab),(wZ HB)⟩)
   ·skip;refine Kd.R_lit_step (Kd.int .u8) _ 5 ?hg (N:=17) ?hd (xs:=([(wrap64 (48+(Int.tmod a0 10)))%256]:List Int)) (inner:=[.int .u8 ((wrap64 (48+(Int.tmod a0 10)))%256)]) (ok:=fun _=>True) (okp:=fun _=>True) ?hr ?hp (fun _ hk=>hk) trivial (Below.refl _ _) (Nat.le_refl _) (by simp) ?_;(case hd=>rfl);(case hg=>rfl);(case hr=>first|(go_simp;done)|(go_simp;rfl));(case hp=>exact(Reps.one (show Kd.M (Kd.int .u8) _ _ _ ((wrap64 (48+(Int.tmod a0 10)))%256) [.int .u8 ((wrap64 (48+(Int.tmod a0 10)))%256)] from rfl) (Reps.none _ _)));intro aB w9 aL hb bo ar;clear bo ar;(first|rw[←aF.out]at aL|(simp only[Int.reduceToNat]at aL;rw[←aF.out]at aL));have ab:=Asd.mk (Kd.R_lower aL (below_size (wZ HB)));replace HB:=bW HB hb;clear hb aL;refine hK.out _ _ trivial (fun hHeld=>?_);clear hK K;refine norm_ (a':=?_) ?_ ?_;rotate_left
    ·show Act.put _ (some 17) _=_
     simp only[Act.put,qA,qB,qC,i64_w,i32_w];rfl
    refine two_ (i:=2) (j:=8) (Ni:=some 12) (Nj:=some 18) Mk22_0 #[true,true,false,true,true,true,true,true,true,false,false] rfl rfl rfl rfl (two_of ah.out (by kernel_rfl)) (by decide) (by decide) (fun K hK=>?_) (fun K hK=>?_)
    ·skip;refine goes_ Tryz.func50 (by kernel_rfl) rfl #[.int .i64 (wrap64 (Int.tdiv a0 10))] (by rfl) rfl rfl (by(try simp only[List.map_toArray,List.map_cons,List.map_nil]);first|done|rfl|(simp only[List.length_drop,List.length_take];rfl)) ?_;with_reducible refine(ih k (by omega) (wrap64 (Int.tdiv a0 10)) ae _ A6.out).mono ?_
     rintro e dk ⟨rfl,hb⟩;refine⟨_,rfl,?_⟩;replace ab:=bR ab hb;replace HB:=bW HB hb;(try clear hb);(try clear hb2);(try clear hk);(try clear hi);refine hK.out _ _ trivial (fun hHeld=>?_);clear hK K;refine norm_ (a':=?_) ?_ ?_;rotate_left
     ·show Act.put _ (some 12) _=_
      simp only[Act.put,qA,qB,qC,i64_w,i32_w];rfl
     refine oA 8 (some 18) ah (fun K hK=>?_);have a8:=own_string (P:=Tryz.prog) Tryz.underlying22 Tryz.underlying5 Tryz.underlying9 (Kd.own_of_R ab.out);refine value_ (w1:=?_) (v:=?_) (by rfl) rfl ?_ ?_;rotate_left 2
     ·go_simp;constructor
      ·rfl
      ·rfl
     clear a8;refine hK.out _ _ trivial (fun hHeld=>?_);clear hK K;refine norm_ (a':=?_) ?_ ?_;rotate_left
     ·show Act.put _ (some 18) _=_
      simp only[Act.put,qA,qB,qC,i64_w,i32_w];rfl
     exact norm_ (by simp only[putAll,Act.put,qA,qB,qC]) (hCont (aB) _ ⟨(rS ab),(wZ HB)⟩)
    ·skip;have bZ:=own_string (P:=Tryz.prog) Tryz.underlying22 Tryz.underlying5 Tryz.underlying9 (Kd.own_of_R ab.out);refine value_ (w1:=?_) (v:=?_) (by rfl) rfl ?_ ?_;rotate_left 2
     ·go_simp;constructor
      ·rfl
      ·rfl
     clear bZ;refine hK.out _ _ trivial (fun hHeld=>?_);clear hK K;refine norm_ (a':=?_) ?_ ?_;rotate_left
     ·show Act.put _ (some 18) _=_
      simp only[Act.put,qA,qB,qC,i64_w,i32_w];rfl
     refine oA 2 (some 12) ah (fun K hK=>?_);refine goes_ Tryz.func50 (by kernel_rfl) rfl #[.int .i64 (wrap64 (Int.tdiv a0 10))] (by rfl) rfl rfl (by(try simp only[List.map_toArray,List.map_cons,List.map_nil]);first|done|rfl|(simp only[List.length_drop,List.length_take];rfl)) ?_;with_reducible refine(ih k (by omega) (wrap64 (Int.tdiv a0 10)) ae _ A6.out).mono ?_
     rintro e dm ⟨rfl,hb⟩;refine⟨_,rfl,?_⟩;replace ab:=bR ab hb;replace HB:=bW HB hb;(try clear hb);(try clear hb2);(try clear hk);(try clear hi);refine hK.out _ _ trivial (fun hHeld=>?_);clear hK K;refine norm_ (a':=?_) ?_ ?_;rotate_left
     ·show Act.put _ (some 12) _=_
      simp only[Act.put,qA,qB,qC,i64_w,i32_w];rfl
     exact norm_ (by simp only[putAll,Act.put,qA,qB,qC]) (hCont (aB) _ ⟨(rS ab),(wZ HB)⟩)
  rintro aB b0 ⟨ch,cj⟩;have ab:Asd (Kd.R (Kd.int .u8) 5 b0 w.heap.size (fun _=>True) aB ag):=⟨ch⟩;replace HB:Asd (Below w.heap.size w b0):=⟨cj⟩;clear ch cj;have hHeld:=trivial;refine norm_ (a':=?_) ?_ ?_;rotate_left
  ·simp only[putAll,Act.put,qA,qB,qC];rfl
  refine pA 9 19 ah ?_ ?_ ?_ ?_ (pA 10 2 ah ?_ ?_ ?_ ?_ ?_)
  all_goals first|(intro w';go_simp;with_reducible rfl)|(simp only[Act.put,qA,qB,qC,i64_w,i32_w];rfl)|skip
  refine done_ (done_of ah.out (by kernel_rfl)) ?_;try go_wp2
  go_ret;exact⟨by first|rfl|(simp[*,errW_none,errW_some]<;>rfl),wZ HB⟩
mutual
def spec_ReadRule.l0:Nat→Int→ByteArray→Int→Option (Int×Int×Bool)
 |0,_,_,_=>none
 |k+1,x0,x1,x6=>if(wrap64 (x6+1))<(x1.size:Int)then(if 0≤x6 then(if x6<(x1.size:Int)then(if(bt x1 x6)=45 then(if 0≤(wrap64 (x6+1))then(spec_ReadRule.j1 k x0 x1 x6 ((bt x1 (wrap64 (x6+1))) !=62))else(none))else(spec_ReadRule.j1 k x0 x1 x6 true))else(none))else(none))else(some (0,0,false))
def spec_ReadRule.j1:Nat→Int→ByteArray→Int→Bool→Option (Int×Int×Bool)
 |0,_,_,_,_=>none
 |k+1,x0,x1,x6,x28=>if x28=true then(spec_ReadRule.l0 k x0 x1 (wrap64 (x6+1)))else(if 0≤x6 then(if x6≤(x1.size:Int)then((spec_HoldsIn.f k x0 (x1.extract 0 (x6:Int).toNat)).bind fun ba=>(if 0≤(wrap64 (x6+2))then(if(wrap64 (x6+2))≤(x1.size:Int)then((spec_HoldsIn.f k x0 (x1.extract ((wrap64 (x6+2)):Int).toNat x1.size)).bind fun bp=>(if ba.2=true then(if bp.2=true then(if ba.1=0 then(spec_ReadRule.l0 k x0 x1 (wrap64 (x6+1)))else(some (ba.1,bp.1,true)))else(spec_ReadRule.l0 k x0 x1 (wrap64 (x6+1))))else(spec_ReadRule.l0 k x0 x1 (wrap64 (x6+1)))))else(none))else(none)))else(none))else(none))
end
def spec_ReadRule.f (k:Nat) (a0:Int) (a1:ByteArray):Option (Int×Int×Bool):=spec_ReadRule.l0 k a0 a1 0
theorem spec_ReadRule.mono_l:∀k,(∀y0 y1 y2,MoR (spec_ReadRule.l0 k y0 y1 y2) (spec_ReadRule.l0 (k+1) y0 y1 y2))∧(∀y0 y1 y2 y3,MoR (spec_ReadRule.j1 k y0 y1 y2 y3) (spec_ReadRule.j1 (k+1) y0 y1 y2 y3))
 |0=>⟨fun _ _ _=> .z (by simp only[spec_ReadRule.l0]),fun _ _ _ _=> .z (by simp only[spec_ReadRule.j1])⟩
 |k+1=>by
  have⟨i0,i1⟩:=spec_ReadRule.mono_l k;exact⟨fun _ _ _=>by unfold spec_ReadRule.l0;infer_instance,fun _ _ _ _=>by unfold spec_ReadRule.j1;infer_instance⟩
instance spec_ReadRule.mo {k a0 a1}:MoR (spec_ReadRule.f k a0 a1) (spec_ReadRule.f (k+1) a0 a1):=by have⟨i0,i1⟩:=spec_ReadRule.mono_l k;unfold spec_ReadRule.f;infer_instance
theorem spec_ReadRule.calls (k:Nat) (a0:Int) (a1:ByteArray) (r1:Int) (r2:Int) (r3:Bool) (w:World) (h:spec_ReadRule.f k a0 a1=some (r1,r2,r3)):
  Calls Tryz.prog 52 #[.int .i64 a0,.string a1] w fun e w'=>e= .returned (.tuple #[.agg #[.int .i64 r1,.int .i64 r2],.bool r3])∧Below w.heap.size w w':=by
 have de:=Tryz.underlying76;have HB:=Asd.mk (Below.refl w.heap.size w);have H:(spec_ReadRule.l0 k a0 a1 0)=some (r1,r2,r3):=h;clear h;have H':=Asd.mk H;clear H;go_enter Tryz.func52,Tryz.ntmps52;go_wp2_with (first|(refine bxA 4 #[.int .i64 0,.int .i64 0] 76 ?_;intro al hg w3 bJ hb;have aa:=Asd.mk (bJ);have cG:=bG HB hg;replace HB:=bW HB hb;clear hb bJ hg));go_loopg [6] k (fun kq v6 w'=>∃(o:Int) (I:Int) (J:Int),v6= .int .i64 o∧Asd (spec_ReadRule.l0 kq a0 a1 o=some (r1,r2,r3))∧Asd (kq≤k)∧Asd (w'.heap[al]?=some (.cells #[.int .i64 I,.int .i64 J] 76 (0,0)))∧Asd (Below w.heap.size w w'))
 case atStart=>exact⟨(0),(0),(0),(by first|rfl|(simp;done)|(simp[*];done)),H',⟨Nat.le_refl _⟩,⟨kS aa⟩,⟨wZ HB⟩⟩
 case round=>
  clear H';obtain⟨o,I,J,rfl,HA,ai,aa,HB⟩:=hrel;cases gk with
  |zero=>exact absurd HA.out (by simp[spec_ReadRule.l0])
  |succ k1=>
   have H:=HA.out;clear HA;simp only[spec_ReadRule.l0]at H;rcases iT H with⟨c4,H⟩|⟨c4,H⟩
   ·have bq:=decide_eq_true c4;clear c4;have b1:=Asd.mk H;clear H;go_upto_region 4 with(fail)
    go_cut [28] (fun v28 wc=>∃(kq:Nat) (aG:Bool),v28= .bool aG∧Asd (spec_ReadRule.j1 kq a0 a1 o aG=some (r1,r2,r3))∧Asd (kq≤k1)∧BkA wc al #[.int .i64 I,.int .i64 J] 76∧Asd (Below w.heap.size w wc))
    case first=>
     have H:=b1.out;clear b1;obtain⟨c6,H⟩:=iN H;have br:=decide_eq_true c6;clear c6;(first|rw[br]|(simp only[i64_w,i32_w];rw[br])|skip);obtain⟨c7,H⟩:=iN H;have cg:=decide_eq_true c7;clear c7;rcases iT H with⟨c9,H⟩|⟨c9,H⟩
     ·have ck:((bt a1 o)==45)=true:=beq_iff_eq.mpr c9;have cl:((bt a1 o) !=45)=false:=bne_eq_false_iff_eq.mpr c9;clear c9;obtain⟨aM,au⟩:∃j_:Int,(wrap64 (o+1))=j_:=⟨_,rfl⟩;first|rw[au]at H|simp only[au]at H
      (try rw[au]at bq);have cD:(IntKind.i64.wrap (o+1))=aM:=(i64_w _).trans au;obtain⟨aN,H⟩:=iN H;have bs:=decide_eq_true aN;clear aN;have H':=Asd.mk H;clear H;have p8:0≤(o:Int):=odt;have q8:o<(a1.size:Int):=odt;have cH:=bt_at a1 o;replace p8:=eq_true p8;replace q8:=eq_true q8;have cm:0≤((aM):Int):=odt;have cn:(aM)<(a1.size:Int):=odt;have df:=bt_at a1 (aM);replace cm:=eq_true cm;replace cn:=eq_true cn;go_wp2;go_meet
      case rel=>exact⟨_,(((bt a1 (aM)) !=62)),(by first|rfl|(simp;done)|(simp only[←au]<;>(first|rfl|simp))|(simp[*];done)),H',⟨by have:=ai.out;first|omega|exact Nat.le_refl _⟩,⟨kS aa⟩,⟨wZ HB⟩⟩
     ·have ck:((bt a1 o)==45)=false:=beq_eq_false_iff_ne.mpr c9;have cl:((bt a1 o) !=45)=true:=bne_iff_ne.mpr c9;have H':=Asd.mk H;clear H;have p8:0≤(o:Int):=odt;have q8:o<(a1.size:Int):=odt;have cH:=bt_at a1 o;replace p8:=eq_true p8;replace q8:=eq_true q8;go_wp2;go_meet
      case rel=>exact⟨_,(true),(by first|rfl|(simp;done)|(simp[*];done)),H',⟨by have:=ai.out;first|omega|exact Nat.le_refl _⟩,⟨kS aa⟩,⟨wZ HB⟩⟩
    case rest=>
     clear b1;obtain⟨kq,aG,rfl,HA,aO,aa,HB⟩:=hcut;cases kq with
     |zero=>exact absurd HA.out (by simp[spec_ReadRule.j1])
     |succ kj4=>
      have H:=HA.out;clear HA;simp only[spec_ReadRule.j1]at H;by_cases av:aG=true
      ·subst av;rw[if_pos rfl]at H;have H':=Asd.mk H;clear H;go_wp2;go_roundg kj4
       case measure=>have:=ai.out;have:=aO.out;omega
       case rel=>exact⟨(wrap64 (o+1)),(I),(J),(by first|rfl|(simp;done)|(simp[*];done)),H',⟨by have:=ai.out;have:=aO.out;omega⟩,⟨kS aa⟩,⟨wZ HB⟩⟩
      ·replace av:=Bool.eq_false_iff.mpr av;subst av;rw[if_neg (show¬(false=true) by decide)]at H;obtain⟨bf,H⟩:=iN H;have b4:=eq_true bf;have cI:=decide_eq_true bf;clear bf;obtain⟨b5,H⟩:=iN H;have cJ:=eq_true b5;have cK:=decide_eq_true b5;clear b5;obtain⟨⟨aj,cp⟩,bu,H⟩:=bE H;try dsimp only at H
       obtain⟨ak,af⟩:∃j_:Int,(wrap64 (o+2))=j_:=⟨_,rfl⟩;first|rw[af]at H|simp only[af]at H
       (try rw[af]at bu);have cE:(IntKind.i64.wrap (o+2))=ak:=(i64_w _).trans af;obtain⟨b6,H⟩:=iN H;have cL:=eq_true b6;have cM:=decide_eq_true b6;clear b6;obtain⟨b7,H⟩:=iN H;have cN:=eq_true b7;have cO:=decide_eq_true b7;clear b7;obtain⟨⟨aP,bO⟩,bB,H⟩:=bE H;try dsimp only at H
       by_cases bD:cp=true
       ·subst bD;rw[if_pos rfl]at H;by_cases bF:bO=true
        ·subst bF;rw[if_pos rfl]at H;rcases iT H with⟨bg,H⟩|⟨bg,H⟩
         ·have b8:(aj==0)=true:=beq_iff_eq.mpr bg;have b9:(aj !=0)=false:=bne_eq_false_iff_eq.mpr bg;clear bg;have H':=Asd.mk H;clear H;go_wp2_with (first|(refine gB (some 34) Tryz.func51 #[.int .i64 a0,.string (a1.extract 0 (o:Int).toNat)] rfl ?_;(with_reducible refine(spec_HoldsIn.calls kj4 a0 (a1.extract 0 (o:Int).toNat) aj true _ bu.out).mono ?_);rintro e w' ⟨rfl,⟨nd,rfl⟩⟩;refine⟨_,rfl,?_⟩)|((with_reducible refine gate_callee (f:=51) rfl ?_);refine gsL (some 43) rfl rfl Tryz.func51 (by kernel_rfl) rfl #[.int .i64 a0,.string (a1.extract ((ak):Int).toNat a1.size)] rfl (by(try simp only[List.map_toArray,List.map_cons,List.map_nil]);first|done|(simp only[af];rfl)|rfl|(simp only[List.length_drop,List.length_take];rfl)) ?_;(with_reducible refine(spec_HoldsIn.calls kj4 a0 (a1.extract ((ak):Int).toNat a1.size) aP true _ bB.out).mono ?_);rintro e w' ⟨rfl,⟨nd,rfl⟩⟩;refine⟨_,rfl,?_⟩));go_roundg kj4
          case measure=>have:=ai.out;have:=aO.out;omega
          case rel=>exact⟨(wrap64 (o+1)),(I),(J),(by first|rfl|(simp;done)|(simp[*];done)),H',⟨by have:=ai.out;have:=aO.out;omega⟩,⟨kS aa⟩,⟨wZ HB⟩⟩
         ·have b8:(aj==0)=false:=beq_eq_false_iff_ne.mpr bg;have b9:(aj !=0)=true:=bne_iff_ne.mpr bg;obtain⟨rfl,rfl,rfl⟩:=s3 H;go_wp2_with (first|(refine gB (some 34) Tryz.func51 #[.int .i64 a0,.string (a1.extract 0 (o:Int).toNat)] rfl ?_;(with_reducible refine(spec_HoldsIn.calls kj4 a0 (a1.extract 0 (o:Int).toNat) aj true _ bu.out).mono ?_);rintro e w' ⟨rfl,⟨nd,rfl⟩⟩;refine⟨_,rfl,?_⟩;(try(rw[drewN_self wc];generalize hq_:World.drewN wc _=wc;replace aa:BkA wc al #[.int .i64 I,.int .i64 J] 76:=⟨by rw[←hq_];exact(kS aa)⟩;replace HB:Asd (Below w.heap.size w wc):=⟨by rw[←hq_];exact(wZ HB)⟩;clear hq_)))|((with_reducible refine gate_callee (f:=51) rfl ?_);refine gsL (some 43) rfl rfl Tryz.func51 (by kernel_rfl) rfl #[.int .i64 a0,.string (a1.extract ((ak):Int).toNat a1.size)] rfl (by(try simp only[List.map_toArray,List.map_cons,List.map_nil]);first|done|(simp only[af];rfl)|rfl|(simp only[List.length_drop,List.length_take];rfl)) ?_;(with_reducible refine(spec_HoldsIn.calls kj4 a0 (a1.extract ((ak):Int).toNat a1.size) aP true _ bB.out).mono ?_);rintro e w' ⟨rfl,⟨nd,rfl⟩⟩;refine⟨_,rfl,?_⟩;(try(rw[drewN_self wc];generalize hq_:World.drewN wc _=wc;replace aa:BkA wc al #[.int .i64 I,.int .i64 J] 76:=⟨by rw[←hq_];exact(kS aa)⟩;replace HB:Asd (Below w.heap.size w wc):=⟨by rw[←hq_];exact(wZ HB)⟩;clear hq_));obtain⟨cq,cr,ct,cu⟩:=b2 aa));refine bodyPost_ret (results_ct rfl _ _ al 76 #[.int .i64 aj,.int .i64 aP] (0,0) _ rfl (kP aa) Tryz.underlying76 rfl (by kernel_rfl)) rfl ?_;exact⟨by first|rfl|(simp[errW_none,errW_some]<;>rfl)|(simp only[←af];first|rfl|(simp[errW_none,errW_some]<;>rfl))|(simp[*,errW_none,errW_some]<;>rfl),wZ HB⟩
        ·replace bF:=Bool.eq_false_iff.mpr bF;subst bF;rw[if_neg (show¬(false=true) by decide)]at H;have H':=Asd.mk H;clear H;go_wp2_with (first|(refine gB (some 34) Tryz.func51 #[.int .i64 a0,.string (a1.extract 0 (o:Int).toNat)] rfl ?_;(with_reducible refine(spec_HoldsIn.calls kj4 a0 (a1.extract 0 (o:Int).toNat) aj true _ bu.out).mono ?_);rintro e w' ⟨rfl,⟨nd,rfl⟩⟩;refine⟨_,rfl,?_⟩)|((with_reducible refine gate_callee (f:=51) rfl ?_);refine gsL (some 43) rfl rfl Tryz.func51 (by kernel_rfl) rfl #[.int .i64 a0,.string (a1.extract ((ak):Int).toNat a1.size)] rfl (by(try simp only[List.map_toArray,List.map_cons,List.map_nil]);first|done|(simp only[af];rfl)|rfl|(simp only[List.length_drop,List.length_take];rfl)) ?_;(with_reducible refine(spec_HoldsIn.calls kj4 a0 (a1.extract ((ak):Int).toNat a1.size) aP false _ bB.out).mono ?_);rintro e w' ⟨rfl,⟨nd,rfl⟩⟩;refine⟨_,rfl,?_⟩));go_roundg kj4
         case measure=>have:=ai.out;have:=aO.out;omega
         case rel=>exact⟨(wrap64 (o+1)),(I),(J),(by first|rfl|(simp;done)|(simp[*];done)),H',⟨by have:=ai.out;have:=aO.out;omega⟩,⟨kS aa⟩,⟨wZ HB⟩⟩
       ·replace bD:=Bool.eq_false_iff.mpr bD;subst bD;rw[if_neg (show¬(false=true) by decide)]at H;have H':=Asd.mk H;clear H;go_wp2_with (first|(refine gB (some 34) Tryz.func51 #[.int .i64 a0,.string (a1.extract 0 (o:Int).toNat)] rfl ?_;(with_reducible refine(spec_HoldsIn.calls kj4 a0 (a1.extract 0 (o:Int).toNat) aj false _ bu.out).mono ?_);rintro e w' ⟨rfl,⟨nd,rfl⟩⟩;refine⟨_,rfl,?_⟩)|((with_reducible refine gate_callee (f:=51) rfl ?_);refine gsL (some 43) rfl rfl Tryz.func51 (by kernel_rfl) rfl #[.int .i64 a0,.string (a1.extract ((ak):Int).toNat a1.size)] rfl (by(try simp only[List.map_toArray,List.map_cons,List.map_nil]);first|done|(simp only[af];rfl)|rfl|(simp only[List.length_drop,List.length_take];rfl)) ?_;(with_reducible refine(spec_HoldsIn.calls kj4 a0 (a1.extract ((ak):Int).toNat a1.size) aP bO _ bB.out).mono ?_);rintro e w' ⟨rfl,⟨nd,rfl⟩⟩;refine⟨_,rfl,?_⟩));go_roundg kj4
        case measure=>have:=ai.out;have:=aO.out;omega
        case rel=>exact⟨(wrap64 (o+1)),(I),(J),(by first|rfl|(simp;done)|(simp[*];done)),H',⟨by have:=ai.out;have:=aO.out;omega⟩,⟨kS aa⟩,⟨wZ HB⟩⟩
   ·have bq:=decide_eq_false c4;clear c4;obtain⟨rfl,rfl,rfl⟩:=s3 H;obtain⟨cv,cw,cx,cy⟩:=b2 aa;go_wp2;refine bodyPost_ret (results_ct rfl _ _ al 76 #[.int .i64 0,.int .i64 0] (0,0) _ rfl (kP aa) Tryz.underlying76 rfl (by kernel_rfl)) rfl ?_;exact⟨by first|rfl|(simp[*,errW_none,errW_some]<;>rfl),wZ HB⟩
def spec_l10Yes.f (a0:Bool):Option (ByteArray):=if a0=true then(some (⟨#[121,101,115]⟩:ByteArray))else(some (⟨#[110,111]⟩:ByteArray))
theorem spec_l10Yes.calls (a0:Bool) (r:ByteArray) (w:World) (h:spec_l10Yes.f a0=some r):
  Calls Tryz.prog 53 #[.bool a0] w fun e w'=>e= .returned (.string r)∧Drawn0 w w':=by
 have H:(if a0=true then(some (⟨#[121,101,115]⟩:ByteArray))else(some (⟨#[110,111]⟩:ByteArray)))=some r:=h;clear h;by_cases c2:a0=true
 ·subst c2;rw[if_pos rfl]at H;obtain rfl:=Option.some.inj H;go_enter Tryz.func53,Tryz.ntmps53;go_wp2;go_ret;exact⟨by first|rfl|(simp;done)|(simp[*];done),by repeat(first|exact Drawn0.refl _|apply Drawn0.step)⟩
 ·replace c2:=Bool.eq_false_iff.mpr c2;subst c2;rw[if_neg (show¬(false=true) by decide)]at H;obtain rfl:=Option.some.inj H;go_enter Tryz.func53,Tryz.ntmps53;go_wp2;go_ret;exact⟨by first|rfl|(simp;done)|(simp[*];done),by repeat(first|exact Drawn0.refl _|apply Drawn0.step)⟩
mutual
def spec_SurpriseOf.j0:Nat→List Int→Int→Bool→Option (Int)
 |0,_,_,_=>none
 |k+1,x1,x2,x18=>if x18=true then(some (-1))else(spec_SurpriseOf.l0 k x1 x2 10 0)
def spec_SurpriseOf.l0:Nat→List Int→Int→Int→Int→Option (Int)
 |0,_,_,_,_=>none
 |k+1,x1,x2,x7,x8=>if x8<(x1.length:Int)then((spec_l1Bit.f x2 x8).bind fun an=>(if an=1 then(if 0≤x8 then(spec_SurpriseOf.l0 k x1 x2 (mn x7 (rd x1 x8)) (wrap64 (x8+1)))else(none))else(spec_SurpriseOf.l0 k x1 x2 x7 (wrap64 (x8+1)))))else(some x7)
end
def spec_SurpriseOf.f (k:Nat) (a0:Int) (l1:List Int) (a2:Int):Option (Int):=(spec_RankOk.f k a0 l1).bind fun aQ=>(if aQ=true then((spec_SetOk.f a0 a2).bind fun aC=>(spec_SurpriseOf.j0 k l1 a2 (!aC)))else(spec_SurpriseOf.j0 k l1 a2 true))
theorem spec_SurpriseOf.mono_l:∀k,(∀y0 y1 y2,MoR (spec_SurpriseOf.j0 k y0 y1 y2) (spec_SurpriseOf.j0 (k+1) y0 y1 y2))∧(∀y0 y1 y2 y3,MoR (spec_SurpriseOf.l0 k y0 y1 y2 y3) (spec_SurpriseOf.l0 (k+1) y0 y1 y2 y3))
 |0=>⟨fun _ _ _=> .z (by simp only[spec_SurpriseOf.j0]),fun _ _ _ _=> .z (by simp only[spec_SurpriseOf.l0])⟩
 |k+1=>by
  have⟨i0,i1⟩:=spec_SurpriseOf.mono_l k;exact⟨fun _ _ _=>by unfold spec_SurpriseOf.j0;infer_instance,fun _ _ _ _=>by unfold spec_SurpriseOf.l0;infer_instance⟩
instance spec_SurpriseOf.mo {k a0 a1 a2}:MoR (spec_SurpriseOf.f k a0 a1 a2) (spec_SurpriseOf.f (k+1) a0 a1 a2):=by have⟨i0,i1⟩:=spec_SurpriseOf.mono_l k;unfold spec_SurpriseOf.f;infer_instance
theorem spec_SurpriseOf.calls (k:Nat) (a0:Int) (A1:Option Addr) (c1:Nat) (l1:List Int) (a2:Int) (r:Int) (w:World) (aR:Kd.C (Kd.int .i64) w A1 l1.length l1) (aS:l1.length≤c1) (h:spec_SurpriseOf.f k a0 l1 a2=some r):
  Calls Tryz.prog 110 #[.int .i64 a0,.slice A1 l1.length c1,.int .i64 a2] w fun e w'=>e= .returned (.int .i64 r)∧Below w.heap.size w w':=by
 have aq:=Asd.mk aR;have aw:=Asd.mk aS;clear aR aS;have HB:=Asd.mk (Below.refl w.heap.size w);have H:((spec_RankOk.f k a0 l1).bind fun aQ=>(if aQ=true then((spec_SetOk.f a0 a2).bind fun aC=>(spec_SurpriseOf.j0 k l1 a2 (!aC)))else(spec_SurpriseOf.j0 k l1 a2 true)))=some r:=h;clear h;have ax:=Asd.mk H;clear H;go_enter Tryz.func110,Tryz.ntmps110;go_upto_region 1 with(fail)
 go_cut [18] (fun cP wc=>∃(kq:Nat) (aH:Bool),cP= .bool aH∧Asd (spec_SurpriseOf.j0 kq l1 a2 aH=some r)∧Asd (kq≤k)∧Asd (Below w.heap.size w wc))
 case first=>
  have H:=ax.out;clear ax;obtain⟨aQ,A5,H⟩:=bE H;try dsimp only at H
  by_cases c6:aQ=true
  ·subst c6;rw[if_pos rfl]at H;obtain⟨aC,A7,H⟩:=bE H;try dsimp only at H
   have H':=Asd.mk H;clear H;go_wp2_with (first|(refine gB (some 11) Tryz.func103 #[.int .i64 a0,.slice A1 l1.length c1] rfl ?_;(with_reducible refine(spec_RankOk.calls k a0 _ _ l1 true _ ?side1 ?side2 A5.out).mono ?_);(case side1=>exact cY aq HB);(case side2=>exact aw.out);rintro e w8 ⟨rfl,hb⟩;refine⟨_,rfl,?_⟩;replace HB:=bW HB hb;clear hb)|(go_at_call 106;(with_reducible refine(spec_SetOk.calls a0 a2 aC _ A7.out).mono ?_);rintro e w' ⟨rfl,⟨nd,rfl⟩⟩));go_meet
   case rel=>exact⟨_,(!aC),(by first|rfl|(simp;done)|(simp[*];done)),H',⟨by first|omega|exact Nat.le_refl _⟩,⟨wZ HB⟩⟩
  ·replace c6:=Bool.eq_false_iff.mpr c6;subst c6;rw[if_neg (show¬(false=true) by decide)]at H;have H':=Asd.mk H;clear H;go_wp2_with (first|(refine gB (some 11) Tryz.func103 #[.int .i64 a0,.slice A1 l1.length c1] rfl ?_;(with_reducible refine(spec_RankOk.calls k a0 _ _ l1 false _ ?side1 ?side2 A5.out).mono ?_);(case side1=>exact cY aq HB);(case side2=>exact aw.out);rintro e w9 ⟨rfl,hb⟩;refine⟨_,rfl,?_⟩;replace HB:=bW HB hb;clear hb));go_meet
   case rel=>exact⟨_,(true),(by first|rfl|(simp;done)|(simp[*];done)),H',⟨by first|omega|exact Nat.le_refl _⟩,⟨wZ HB⟩⟩
 case rest=>
  clear ax;obtain⟨kq,aH,rfl,HA,bh,HB⟩:=hcut;cases kq with
  |zero=>exact absurd HA.out (by simp[spec_SurpriseOf.j0])
  |succ kj3=>
   have H:=HA.out;clear HA;simp only[spec_SurpriseOf.j0]at H;by_cases c10:aH=true
   ·subst c10;rw[if_pos rfl]at H;obtain rfl:=Option.some.inj H;go_wp2;go_ret;exact⟨by first|rfl|(simp[*,errW_none,errW_some]<;>rfl),wZ HB⟩
   ·replace c10:=Bool.eq_false_iff.mpr c10;subst c10;rw[if_neg (show¬(false=true) by decide)]at H;have H':=Asd.mk H;clear H;go_wp2;go_loopg [7,8] kj3 (fun kq v7 v8 w'=>∃(ay:Int) (ad:Int),v7= .int .i64 ay∧v8= .int .i64 ad∧Asd (spec_SurpriseOf.l0 kq l1 a2 ay ad=some r)∧Asd (kq≤kj3)∧Asd (Below w.heap.size w w'))
    case atStart=>exact⟨(10),(0),(by first|rfl|(simp;done)|(simp[*];done)),(by first|rfl|(simp;done)|(simp[*];done)),H',⟨Nat.le_refl _⟩,⟨wZ HB⟩⟩
    case round=>
     clear H';obtain⟨ay,ad,rfl,rfl,HA,bH,HB⟩:=hrel;cases gk with
     |zero=>exact absurd HA.out (by simp[spec_SurpriseOf.l0])
     |succ k2=>
      have H:=HA.out;clear HA;simp only[spec_SurpriseOf.l0]at H;rcases iT H with⟨aN,H⟩|⟨aN,H⟩
      ·have bs:=decide_eq_true aN;clear aN;obtain⟨an,bb,H⟩:=bE H;try dsimp only at H
       rcases iT H with⟨av,H⟩|⟨av,H⟩
       ·have ca:(an==1)=true:=beq_iff_eq.mpr av;have cb:(an !=1)=false:=bne_eq_false_iff_eq.mpr av;clear av;obtain⟨bf,H⟩:=iN H;have b4:=decide_eq_true bf;clear bf;obtain⟨bT,az⟩:∃j_:Int,(mn ay (rd l1 ad))=j_:=⟨_,rfl⟩;first|rw[az]at H|simp only[az]at H
        (try rw[az]at bb);have cF:(if(rd l1 ad)<ay then(rd l1 ad)else ay)=bT:=az;have H':=Asd.mk H;clear H;go_wp2_with (first|(refine gB (some 27) Tryz.func107 #[.int .i64 a2,.int .i64 ad] rfl ?_;(with_reducible refine(spec_l1Bit.calls a2 ad an _ bb.out).mono ?_);rintro e w' ⟨rfl,⟨nd,rfl⟩⟩;refine⟨_,rfl,?_⟩;have bw:0≤(ad:Int):=odt;have bx:ad<(l1.length:Int):=odt;obtain⟨cQ,cz,aA⟩:=Kd.at_int aq.out ad bw bx;cases cz;replace aA:=(HB.out.cell (World.block_lt_of_cell? w _ aA)).trans aA;replace bw:=eq_true bw;replace bx:=eq_true bx));go_roundg k2
        case measure=>have:=bh.out;have:=bH.out;omega
        case rel=>exact⟨(bT),(wrap64 (ad+1)),(by first|rfl|(simp;done)|(simp only[←az]<;>(first|rfl|simp))|(simp[*];done)),(by first|rfl|(simp;done)|(simp[*];done)),H',⟨by have:=bh.out;have:=bH.out;omega⟩,⟨wZ HB⟩⟩
       ·have ca:(an==1)=false:=beq_eq_false_iff_ne.mpr av;have cb:(an !=1)=true:=bne_iff_ne.mpr av;have H':=Asd.mk H;clear H;go_wp2_with (first|(refine gB (some 27) Tryz.func107 #[.int .i64 a2,.int .i64 ad] rfl ?_;(with_reducible refine(spec_l1Bit.calls a2 ad an _ bb.out).mono ?_);rintro e w' ⟨rfl,⟨nd,rfl⟩⟩;refine⟨_,rfl,?_⟩));go_roundg k2
        case measure=>have:=bh.out;have:=bH.out;omega
        case rel=>exact⟨(ay),(wrap64 (ad+1)),(by first|rfl|(simp;done)|(simp[*];done)),(by first|rfl|(simp;done)|(simp[*];done)),H',⟨by have:=bh.out;have:=bH.out;omega⟩,⟨wZ HB⟩⟩
      ·have bs:=decide_eq_false aN;clear aN;obtain rfl:=Option.some.inj H;go_wp2;go_ret;exact⟨by first|rfl|(simp[*,errW_none,errW_some]<;>rfl),wZ HB⟩
def spec_FirmnessOf.j0:Nat→Int→List Int→Int→Bool→Option (Int)
 |0,_,_,_,_=>none
 |k+1,x0,x1,x2,x16=>if x16=true then(some (-1))else((spec_l1All.f x0).bind fun aT=>((spec_SurpriseOf.f k x0 x1 (wrap64 (aT - x2))).bind fun bz=>(some bz)))
def spec_FirmnessOf.f (k:Nat) (a0:Int) (l1:List Int) (a2:Int):Option (Int):=(spec_RankOk.f k a0 l1).bind fun aU=>(if aU=true then((spec_SetOk.f a0 a2).bind fun aD=>(spec_FirmnessOf.j0 k a0 l1 a2 (!aD)))else(spec_FirmnessOf.j0 k a0 l1 a2 true))
theorem spec_FirmnessOf.mono_l:∀k,(∀y0 y1 y2 y3,MoR (spec_FirmnessOf.j0 k y0 y1 y2 y3) (spec_FirmnessOf.j0 (k+1) y0 y1 y2 y3))
 |0=>fun _ _ _ _=> .z (by simp only[spec_FirmnessOf.j0])
 |k+1=>by
  have i0:=spec_FirmnessOf.mono_l k;exact fun _ _ _ _=>by unfold spec_FirmnessOf.j0;infer_instance
instance spec_FirmnessOf.mo {k a0 a1 a2}:MoR (spec_FirmnessOf.f k a0 a1 a2) (spec_FirmnessOf.f (k+1) a0 a1 a2):=by have i0:=spec_FirmnessOf.mono_l k;unfold spec_FirmnessOf.f;infer_instance
theorem spec_FirmnessOf.calls (k:Nat) (a0:Int) (A1:Option Addr) (c1:Nat) (l1:List Int) (a2:Int) (r:Int) (w:World) (aR:Kd.C (Kd.int .i64) w A1 l1.length l1) (aS:l1.length≤c1) (h:spec_FirmnessOf.f k a0 l1 a2=some r):
  Calls Tryz.prog 55 #[.int .i64 a0,.slice A1 l1.length c1,.int .i64 a2] w fun e w'=>e= .returned (.int .i64 r)∧Below w.heap.size w w':=by
 have aq:=Asd.mk aR;have aw:=Asd.mk aS;clear aR aS;have HB:=Asd.mk (Below.refl w.heap.size w);have H:((spec_RankOk.f k a0 l1).bind fun aU=>(if aU=true then((spec_SetOk.f a0 a2).bind fun aD=>(spec_FirmnessOf.j0 k a0 l1 a2 (!aD)))else(spec_FirmnessOf.j0 k a0 l1 a2 true)))=some r:=h;clear h;have ax:=Asd.mk H;clear H;go_enter Tryz.func55,Tryz.ntmps55;go_upto_region 1 with(fail)
 go_cut [16] (fun cR wc=>∃(kq:Nat) (aI:Bool),cR= .bool aI∧Asd (spec_FirmnessOf.j0 kq a0 l1 a2 aI=some r)∧Asd (kq≤k)∧Asd (Below w.heap.size w wc))
 case first=>
  have H:=ax.out;clear ax;obtain⟨aU,A5,H⟩:=bE H;try dsimp only at H
  by_cases c6:aU=true
  ·subst c6;rw[if_pos rfl]at H;obtain⟨aD,A7,H⟩:=bE H;try dsimp only at H
   have H':=Asd.mk H;clear H;go_wp2_with (first|(refine gB (some 9) Tryz.func103 #[.int .i64 a0,.slice A1 l1.length c1] rfl ?_;(with_reducible refine(spec_RankOk.calls k a0 _ _ l1 true _ ?side1 ?side2 A5.out).mono ?_);(case side1=>exact cY aq HB);(case side2=>exact aw.out);rintro e w8 ⟨rfl,hb⟩;refine⟨_,rfl,?_⟩;replace HB:=bW HB hb;clear hb)|(go_at_call 106;(with_reducible refine(spec_SetOk.calls a0 a2 aD _ A7.out).mono ?_);rintro e w' ⟨rfl,⟨nd,rfl⟩⟩));go_meet
   case rel=>exact⟨_,(!aD),(by first|rfl|(simp;done)|(simp[*];done)),H',⟨by first|omega|exact Nat.le_refl _⟩,⟨wZ HB⟩⟩
  ·replace c6:=Bool.eq_false_iff.mpr c6;subst c6;rw[if_neg (show¬(false=true) by decide)]at H;have H':=Asd.mk H;clear H;go_wp2_with (first|(refine gB (some 9) Tryz.func103 #[.int .i64 a0,.slice A1 l1.length c1] rfl ?_;(with_reducible refine(spec_RankOk.calls k a0 _ _ l1 false _ ?side1 ?side2 A5.out).mono ?_);(case side1=>exact cY aq HB);(case side2=>exact aw.out);rintro e w9 ⟨rfl,hb⟩;refine⟨_,rfl,?_⟩;replace HB:=bW HB hb;clear hb));go_meet
   case rel=>exact⟨_,(true),(by first|rfl|(simp;done)|(simp[*];done)),H',⟨by first|omega|exact Nat.le_refl _⟩,⟨wZ HB⟩⟩
 case rest=>
  clear ax;obtain⟨kq,aI,rfl,HA,bh,HB⟩:=hcut;cases kq with
  |zero=>exact absurd HA.out (by simp[spec_FirmnessOf.j0])
  |succ kj3=>
   have H:=HA.out;clear HA;simp only[spec_FirmnessOf.j0]at H;by_cases c10:aI=true
   ·subst c10;rw[if_pos rfl]at H;obtain rfl:=Option.some.inj H;go_wp2;go_ret;exact⟨by first|rfl|(simp[*,errW_none,errW_some]<;>rfl),wZ HB⟩
   ·replace c10:=Bool.eq_false_iff.mpr c10;subst c10;rw[if_neg (show¬(false=true) by decide)]at H;obtain⟨aT,cc,H⟩:=bE H;try dsimp only at H
    obtain⟨bz,bb,H⟩:=bE H;try dsimp only at H
    obtain rfl:=Option.some.inj H;go_wp2_with (first|(refine gB (some 20) Tryz.func105 #[.int .i64 a0] rfl ?_;(with_reducible refine(spec_l1All.calls a0 aT _ cc.out).mono ?_);rintro e w' ⟨rfl,⟨nd,rfl⟩⟩;refine⟨_,rfl,?_⟩)|(refine gB (some 23) Tryz.func110 #[.int .i64 a0,.slice A1 l1.length c1,.int .i64 (wrap64 (aT - a2))] rfl ?_;(with_reducible refine(spec_SurpriseOf.calls kj3 a0 _ _ l1 (wrap64 (aT - a2)) bz _ ?side1 ?side2 bb.out).mono ?_);(case side1=>exact cZ (Kd.C_below aq.out (wZ HB)));(case side2=>exact aw.out);rintro e b0 ⟨rfl,hb⟩;refine⟨_,rfl,?_⟩;replace HB:=bW HB hb;clear hb));go_ret;exact⟨by first|rfl|(simp[*,errW_none,errW_some]<;>rfl),wZ HB⟩
def spec_GivenUp.j0:Nat→Int→List Int→Int→Bool→Option (Int)
 |0,_,_,_,_=>none
 |k+1,x0,x1,x2,x17=>if x17=true then(some (-1))else((spec_l1All.f x0).bind fun ao=>((spec_l2Least.f k x1 ao).bind fun aV=>((spec_l2Least.f k x1 (wrap64 (ao - x2))).bind fun aW=>((spec_l1Either.f k aV aW).bind fun bA=>(some bA)))))
def spec_GivenUp.f (k:Nat) (a0:Int) (l1:List Int) (a2:Int):Option (Int):=(spec_RankOk.f k a0 l1).bind fun aY=>(if aY=true then((spec_SetOk.f a0 a2).bind fun aE=>(spec_GivenUp.j0 k a0 l1 a2 (!aE)))else(spec_GivenUp.j0 k a0 l1 a2 true))
theorem spec_GivenUp.mono_l:∀k,(∀y0 y1 y2 y3,MoR (spec_GivenUp.j0 k y0 y1 y2 y3) (spec_GivenUp.j0 (k+1) y0 y1 y2 y3))
 |0=>fun _ _ _ _=> .z (by simp only[spec_GivenUp.j0])
 |k+1=>by
  have i0:=spec_GivenUp.mono_l k;exact fun _ _ _ _=>by unfold spec_GivenUp.j0;infer_instance
instance spec_GivenUp.mo {k a0 a1 a2}:MoR (spec_GivenUp.f k a0 a1 a2) (spec_GivenUp.f (k+1) a0 a1 a2):=by have i0:=spec_GivenUp.mono_l k;unfold spec_GivenUp.f;infer_instance
theorem spec_GivenUp.calls (k:Nat) (a0:Int) (A1:Option Addr) (c1:Nat) (l1:List Int) (a2:Int) (r:Int) (w:World) (aR:Kd.C (Kd.int .i64) w A1 l1.length l1) (aS:l1.length≤c1) (h:spec_GivenUp.f k a0 l1 a2=some r):
  Calls Tryz.prog 56 #[.int .i64 a0,.slice A1 l1.length c1,.int .i64 a2] w fun e w'=>e= .returned (.int .i64 r)∧Below w.heap.size w w':=by
 have aq:=Asd.mk aR;have aw:=Asd.mk aS;clear aR aS;have HB:=Asd.mk (Below.refl w.heap.size w);have H:((spec_RankOk.f k a0 l1).bind fun aY=>(if aY=true then((spec_SetOk.f a0 a2).bind fun aE=>(spec_GivenUp.j0 k a0 l1 a2 (!aE)))else(spec_GivenUp.j0 k a0 l1 a2 true)))=some r:=h;clear h;have ax:=Asd.mk H;clear H;go_enter Tryz.func56,Tryz.ntmps56;go_upto_region 1 with(fail)
 go_cut [17] (fun cS wc=>∃(kq:Nat) (aJ:Bool),cS= .bool aJ∧Asd (spec_GivenUp.j0 kq a0 l1 a2 aJ=some r)∧Asd (kq≤k)∧Asd (Below w.heap.size w wc))
 case first=>
  have H:=ax.out;clear ax;obtain⟨aY,A5,H⟩:=bE H;try dsimp only at H
  by_cases c6:aY=true
  ·subst c6;rw[if_pos rfl]at H;obtain⟨aE,A7,H⟩:=bE H;try dsimp only at H
   have H':=Asd.mk H;clear H;go_wp2_with (first|(refine gB (some 10) Tryz.func103 #[.int .i64 a0,.slice A1 l1.length c1] rfl ?_;(with_reducible refine(spec_RankOk.calls k a0 _ _ l1 true _ ?side1 ?side2 A5.out).mono ?_);(case side1=>exact cY aq HB);(case side2=>exact aw.out);rintro e w8 ⟨rfl,hb⟩;refine⟨_,rfl,?_⟩;replace HB:=bW HB hb;clear hb)|(go_at_call 106;(with_reducible refine(spec_SetOk.calls a0 a2 aE _ A7.out).mono ?_);rintro e w' ⟨rfl,⟨nd,rfl⟩⟩));go_meet
   case rel=>exact⟨_,(!aE),(by first|rfl|(simp;done)|(simp[*];done)),H',⟨by first|omega|exact Nat.le_refl _⟩,⟨wZ HB⟩⟩
  ·replace c6:=Bool.eq_false_iff.mpr c6;subst c6;rw[if_neg (show¬(false=true) by decide)]at H;have H':=Asd.mk H;clear H;go_wp2_with (first|(refine gB (some 10) Tryz.func103 #[.int .i64 a0,.slice A1 l1.length c1] rfl ?_;(with_reducible refine(spec_RankOk.calls k a0 _ _ l1 false _ ?side1 ?side2 A5.out).mono ?_);(case side1=>exact cY aq HB);(case side2=>exact aw.out);rintro e w9 ⟨rfl,hb⟩;refine⟨_,rfl,?_⟩;replace HB:=bW HB hb;clear hb));go_meet
   case rel=>exact⟨_,(true),(by first|rfl|(simp;done)|(simp[*];done)),H',⟨by first|omega|exact Nat.le_refl _⟩,⟨wZ HB⟩⟩
 case rest=>
  clear ax;obtain⟨kq,aJ,rfl,HA,bh,HB⟩:=hcut;cases kq with
  |zero=>exact absurd HA.out (by simp[spec_GivenUp.j0])
  |succ kj3=>
   have H:=HA.out;clear HA;simp only[spec_GivenUp.j0]at H;by_cases c10:aJ=true
   ·subst c10;rw[if_pos rfl]at H;obtain rfl:=Option.some.inj H;go_wp2;go_ret;exact⟨by first|rfl|(simp[*,errW_none,errW_some]<;>rfl),wZ HB⟩
   ·replace c10:=Bool.eq_false_iff.mpr c10;subst c10;rw[if_neg (show¬(false=true) by decide)]at H;obtain⟨ao,cc,H⟩:=bE H;try dsimp only at H
    obtain⟨aV,bb,H⟩:=bE H;try dsimp only at H
    obtain⟨aW,cT,H⟩:=bE H;try dsimp only at H
    obtain⟨bA,cU,H⟩:=bE H;try dsimp only at H
    obtain rfl:=Option.some.inj H;go_wp2_with (first|(refine gB (some 19) Tryz.func105 #[.int .i64 a0] rfl ?_;(with_reducible refine(spec_l1All.calls a0 ao _ cc.out).mono ?_);rintro e w' ⟨rfl,⟨nd,rfl⟩⟩;refine⟨_,rfl,?_⟩)|(refine gB (some 22) Tryz.func104 #[.slice A1 l1.length c1,.int .i64 ao] rfl ?_;(with_reducible refine(spec_l2Least.calls kj3 _ _ l1 ao aV _ ?side1 ?side2 bb.out).mono ?_);(case side1=>exact cZ (Kd.C_below aq.out (wZ HB)));(case side2=>exact aw.out);rintro e dn ⟨rfl,hb⟩;refine⟨_,rfl,?_⟩;replace HB:=bW HB hb;clear hb)|(refine gB (some 27) Tryz.func104 #[.slice A1 l1.length c1,.int .i64 (wrap64 (ao - a2))] rfl ?_;(with_reducible refine(spec_l2Least.calls kj3 _ _ l1 (wrap64 (ao - a2)) aW _ ?side1 ?side2 cT.out).mono ?_);(case side1=>exact cY aq HB);(case side2=>exact aw.out);rintro e dp ⟨rfl,hb⟩;refine⟨_,rfl,?_⟩;replace HB:=bW HB hb;clear hb)|(refine gB (some 28) Tryz.func111 #[.int .i64 aV,.int .i64 aW] rfl ?_;(with_reducible refine(spec_l1Either.calls kj3 aV aW bA _ cU.out).mono ?_);rintro e w' ⟨rfl,⟨nd,rfl⟩⟩;refine⟨_,rfl,?_⟩));go_ret;exact⟨by first|rfl|(simp[*,errW_none,errW_some]<;>rfl),wZ HB⟩
def spec_l5Apart.l0:Nat→Int→Int→Int→Int→Option (Int)
 |0,_,_,_,_=>none
 |k+1,x0,x1,x5,x6=>if x6<3 then(if 0≤x6 then(if(Int.tmod (shr .i64 x0 x6) 2)=(Int.tmod (shr .i64 x1 x6) 2)then(spec_l5Apart.l0 k x0 x1 x5 (wrap64 (x6+1)))else(spec_l5Apart.l0 k x0 x1 (wrap64 (x5+1)) (wrap64 (x6+1))))else(none))else(some x5)
def spec_l5Apart.f (k:Nat) (a0:Int) (a1:Int):Option (Int):=spec_l5Apart.l0 k a0 a1 0 0
theorem spec_l5Apart.mono_l:∀k,(∀y0 y1 y2 y3,MoR (spec_l5Apart.l0 k y0 y1 y2 y3) (spec_l5Apart.l0 (k+1) y0 y1 y2 y3))
 |0=>fun _ _ _ _=> .z (by simp only[spec_l5Apart.l0])
 |k+1=>by
  have i0:=spec_l5Apart.mono_l k;exact fun _ _ _ _=>by unfold spec_l5Apart.l0;infer_instance
instance spec_l5Apart.mo {k a0 a1}:MoR (spec_l5Apart.f k a0 a1) (spec_l5Apart.f (k+1) a0 a1):=by have i0:=spec_l5Apart.mono_l k;unfold spec_l5Apart.f;infer_instance
theorem spec_l5Apart.calls (k:Nat) (a0:Int) (a1:Int) (r:Int) (w:World) (h:spec_l5Apart.f k a0 a1=some r):
  Calls Tryz.prog 139 #[.int .i64 a0,.int .i64 a1] w fun e w'=>e= .returned (.int .i64 r)∧Drawn0 w w':=by
 have H:(spec_l5Apart.l0 k a0 a1 0 0)=some r:=h;clear h;have H':=Asd.mk H;clear H;go_enter Tryz.func139,Tryz.ntmps139;go_wp2;repeat(go_quiet (fail);try go_wp2)
 go_loopg [5,6] k (fun kq v5 v6 w'=>∃(aZ:Int) (o:Int),v5= .int .i64 aZ∧v6= .int .i64 o∧Asd (spec_l5Apart.l0 kq a0 a1 aZ o=some r)∧Asd (kq≤k)∧Drawn0 w w')
 case atStart=>exact⟨(0),(0),(by first|rfl|(simp;done)|(simp[*];done)),(by first|rfl|(simp;done)|(simp[*];done)),H',⟨Nat.le_refl _⟩,by repeat(first|exact Drawn0.refl _|apply Drawn0.step)⟩
 case round=>
  clear H';obtain⟨aZ,o,rfl,rfl,HA,ai,⟨m1,rfl⟩⟩:=hrel;cases gk with
  |zero=>exact absurd HA.out (by simp[spec_l5Apart.l0])
  |succ k1=>
   have H:=HA.out;clear HA;simp only[spec_l5Apart.l0]at H;rcases iT H with⟨c3,H⟩|⟨c3,H⟩
   ·have cA:=decide_eq_true c3;clear c3;obtain⟨c4,H⟩:=iN H;have bq:=eq_true c4;have dh:=decide_eq_true c4;clear c4;obtain⟨bj,bc⟩:∃j_:Int,(shr .i64 a0 o)=j_:=⟨_,rfl⟩;first|rw[bc]at H|simp only[bc]at H
    have cV:(a0/2^min o.toNat 64)=bj:=bc;have cW:o≤64→(a0/2^o.toNat)=bj:=shr_small bc;have br:=eq_true (odt:0≤o);obtain⟨bk,bd⟩:∃j_:Int,(shr .i64 a1 o)=j_:=⟨_,rfl⟩;first|rw[bd]at H|simp only[bd]at H
    have cX:(a1/2^min o.toNat 64)=bk:=bd;have c0:o≤64→(a1/2^o.toNat)=bk:=shr_small bd;rcases iT H with⟨c8,H⟩|⟨c8,H⟩
    ·have cB:((Int.tmod (bj) 2)==(Int.tmod (bk) 2))=true:=beq_iff_eq.mpr c8;have cC:((Int.tmod (bj) 2) !=(Int.tmod (bk) 2))=false:=bne_eq_false_iff_eq.mpr c8;clear c8;have H':=Asd.mk H;clear H;go_wp2;repeat(go_quiet (fail);try go_wp2)
     go_roundg k1
     case measure=>have:=ai.out;omega
     case rel=>exact⟨(aZ),(wrap64 (o+1)),(by first|rfl|(simp;done)|(simp[*];done)),(by first|rfl|(simp;done)|(simp[*];done)),H',⟨by have:=ai.out;omega⟩,by repeat(first|exact Drawn0.refl _|apply Drawn0.step)⟩
    ·have cB:((Int.tmod (bj) 2)==(Int.tmod (bk) 2))=false:=beq_eq_false_iff_ne.mpr c8;have cC:((Int.tmod (bj) 2) !=(Int.tmod (bk) 2))=true:=bne_iff_ne.mpr c8;have H':=Asd.mk H;clear H;go_wp2;repeat(go_quiet (fail);try go_wp2)
     go_roundg k1
     case measure=>have:=ai.out;omega
     case rel=>exact⟨(wrap64 (aZ+1)),(wrap64 (o+1)),(by first|rfl|(simp;done)|(simp[*];done)),(by first|rfl|(simp;done)|(simp[*];done)),H',⟨by have:=ai.out;omega⟩,by repeat(first|exact Drawn0.refl _|apply Drawn0.step)⟩
   ·have cA:=decide_eq_false c3;clear c3;obtain rfl:=Option.some.inj H;go_wp2;repeat(go_quiet (fail);try go_wp2)
    go_ret;exact⟨by first|rfl|(simp;done)|(simp[*];done),by repeat(first|exact Drawn0.refl _|apply Drawn0.step)⟩
end Go.Proofs.YtihgpkohglcijaaGreatDoor.P
