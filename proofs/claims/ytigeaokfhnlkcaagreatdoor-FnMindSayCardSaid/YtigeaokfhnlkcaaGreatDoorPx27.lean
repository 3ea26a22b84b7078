import Derived.Test.YtigeaokfhnlkcaaGreatDoorPx0
import Derived.Test.YtigeaokfhnlkcaaGreatDoorPx4
import Derived.Test.YtigeaokfhnlkcaaGreatDoorPx5
namespace Go.Proofs.YtigeaokfhnlkcaaGreatDoor.P
open Go.RowKit YtigeaokfhnlkcaaGreatDoorW PrintWords PrintLast PrintMore
attribute [local go_sem] max2_int min2_int max_two min_two max_three min_three max_four min_four
set_option linter.unusedVariables false
set_option linter.unusedSimpArgs false
set_option maxHeartbeats 8000000
set_option maxRecDepth 100000
abbrev Ba:Array Bool:= #[false,false,false,false,false,false,false,false,false,false,false,false,false]
abbrev DM:Array Bool:= #[true,true,true,true,true,true,true,true,false,false,false]
abbrev DN:Array Bool:= #[true,true,true,true,true,true,true,true,true,false,false]
def jK.l0:Nat→Int→BA→Int→Option (BA)
 |0,_,_,_=>none
 |k+1,x1,x5,x6=>if x6≥0 then((some (([(⟨#[33]⟩:BA),(⟨#[]⟩:BA)]:List BA):List BA)).bind fun aa=>(if 0≤x6 then(if 0≤(Int.tmod (shr .i64 x1 x6) 2)then(if(Int.tmod (shr .i64 x1 x6) 2)<(aa.length:Int)then((some (([(⟨#[97]⟩:BA),(⟨#[98]⟩:BA),(⟨#[99]⟩:BA)]:List BA):List BA)).bind fun ab=>(if x6<(ab.length:Int)then(if(rdOf ByteArray.empty aa (Int.tmod (shr .i64 x1 x6) 2)).size+(rdOf ByteArray.empty ab x6).size≤9223372036854775807 then(if x5.toList=([]:List UInt8)then(jK.l0 k x1 ((rdOf ByteArray.empty aa (Int.tmod (shr .i64 x1 x6) 2))++(rdOf ByteArray.empty ab x6)) (wrap64 (x6 - 1)))else(if 1+((rdOf ByteArray.empty aa (Int.tmod (shr .i64 x1 x6) 2))++(rdOf ByteArray.empty ab x6)).size≤9223372036854775807 then(if((⟨#[40]⟩:BA)++((rdOf ByteArray.empty aa (Int.tmod (shr .i64 x1 x6) 2))++(rdOf ByteArray.empty ab x6))).size+1≤9223372036854775807 then(if(((⟨#[40]⟩:BA)++((rdOf ByteArray.empty aa (Int.tmod (shr .i64 x1 x6) 2))++(rdOf ByteArray.empty ab x6)))++(⟨#[38]⟩:BA)).size+x5.size≤9223372036854775807 then(if((((⟨#[40]⟩:BA)++((rdOf ByteArray.empty aa (Int.tmod (shr .i64 x1 x6) 2))++(rdOf ByteArray.empty ab x6)))++(⟨#[38]⟩:BA))++x5).size+1≤9223372036854775807 then(jK.l0 k x1 (((((⟨#[40]⟩:BA)++((rdOf ByteArray.empty aa (Int.tmod (shr .i64 x1 x6) 2))++(rdOf ByteArray.empty ab x6)))++(⟨#[38]⟩:BA))++x5)++(⟨#[41]⟩:BA)) (wrap64 (x6 - 1)))else(none))else(none))else(none))else(none)))else(none))else(none)))else(none))else(none))else(none)))else(some x5)
def jK.f (k:Nat) (a0:Int) (a1:Int):Option (BA):=jK.l0 k a1 (⟨#[]⟩:BA) (wrap64 (a0 - 1))
theorem jK.hZ:∀k,(∀y0 y1 y2,lS (jK.l0 k y0 y1 y2) (jK.l0 (k+1) y0 y1 y2))
 |0=>fun _ _ _=> .z (by simp only[jK.l0])
 |k+1=>by
  have i0:=jK.hZ k;exact fun _ _ _=>by unfold jK.l0;infer_instance
instance jK.mo {k a0 a1}:lS (jK.f k a0 a1) (jK.f (k+1) a0 a1):=by have i0:=jK.hZ k;unfold jK.f;infer_instance
def jK.T5:Bool×List (List Nat×List Nat):=(true,[([],[]),([],[]),([],[]),([1,2],[1,2]),([3],[3]),([0,4],[0,4]),([5],[5]),([],[]),([],[]),([7,8],[7,8]),([9],[9]),([6,10],[6,10]),([11,0,1,2,3,4,5,6,7,8,9,10,11],[11])])
def jK.B5:List Nat:=[0,0,0,6,14,31,63,0,0,384,896,2047,4095]
theorem jK.xH:rtab .any (opsOf Tryz.f99 5)=jK.T5:=by kernel_rfl
theorem jK.uD:waitsOk jK.T5.2 jK.B5=true:=by kernel_rfl
theorem jK.calls (k:Nat) (a0:Int) (a1:Int) (r:BA) (w:World) (h:jK.f k a0 a1=some r):
  Calls Tryz.prog 99 #[.int .i64 a0,.int .i64 a1] w fun e w'=>e= .returned (.string r)∧Below w.heap.size w w':=by
 have HB:=bm (Below.refl w.heap.size w);have H:=h;clear h;unfold jK.f at H;have H':=bm H;clear H;go_enter Tryz.func99,Tryz.ntmps99;go_wp2;go_loopg [5,6] k (fun kq v5 v6 w'=>∃(ag:BA) (o:Int),v5= .string ag∧v6= .int .i64 o∧hJ (jK.l0 kq a1 ag o=some r)∧hJ (kq≤k)∧hJ (Below w.heap.size w w'))
 case atStart=>exact⟨((⟨#[]⟩:BA)),(wrap64 (a0 - 1)),eA,eA,H',⟨Nat.le_refl _⟩,⟨wZ HB⟩⟩
 case round=>
  clear H';obtain⟨ag,o,rfl,rfl,HA,aG,HB⟩:=hrel;cases gk with
  |zero=>exact absurd HA.out (by simp[jK.l0])
  |succ k1=>
   have H:=HA.out;clear HA;simp only[jK.l0]at H;rcases pP H with⟨cq,H⟩|⟨cq,H⟩
   ·obtain⟨aa,aC,H⟩:=bY H;obtain⟨dG,dH,H⟩:=pO H;obtain⟨aH,bg⟩:∃j_:Int,(shr .i64 a1 o)=j_:=⟨_,rfl⟩;first|rw[bg]at H|simp only[bg]at H
    have cF:(a1/2^min o.toNat 64)=aH:=bg;have cG:o≤64→(a1/2^o.toNat)=aH:=shr_small bg;obtain⟨ad,bh⟩:∃j_:Int,(Int.tmod (aH) 2)=j_:=⟨_,rfl⟩;first|rw[bh]at H|simp only[bh]at H
    obtain⟨bp,H⟩:=pN H;obtain⟨cr,H⟩:=pN H;obtain⟨ab,aD,H⟩:=bY H;obtain⟨dI,H⟩:=pN H;obtain⟨c10,H⟩:=iN H;have bq:=pM c10;have cH:=pK c10;try have cI:(9223372036854775807<(rdOf ByteArray.empty aa (ad)).size+(rdOf ByteArray.empty ab o).size)=False:=eq_false (Nat.not_lt.2 c10)
    rcases iT H with⟨bk,H⟩|⟨bk,H⟩
    ·obtain⟨b6,b7⟩:=pf bk;clear bk;have H':=bm H;clear H;try go_wp2
     have a6:(0≤((ad):Int))=True:=pM (ko);have a7:((ad)<(aa.length:Int))=True:=pM (ko);have a8:(0≤(o:Int))=True:=pM (ko);have ba:(o<(ab.length:Int))=True:=pM (ko);replace HB:=pL HB;refine start_ (n:=13) (S:=fun w'=>True) (ds:=[]) Ba (by kernel_rfl) rfl rfl trivial (fun hHeld=>?_);refine with_tabW jK.xH jK.uD (fun an bJ=>?_);generalize wr.drew=cJ at HB hHeld⊢;refine pA 1 15 an ?_ ?_ ?_ ?_ (pA 2 16 an ?_ ?_ ?_ ?_ (pA 8 22 an ?_ ?_ ?_ ?_ ?_))
     all_goals first|(intro w';go_simp;with_reducible rfl)|(simp only[Act.put,qA,qB,qC,i64_w,i32_w];rfl)|skip
     refine inv_at [0,3,4,5,6,7,9,10,11,12] (fun b8 b a w'=>∃(I:Value) (kf:Addr) (J:Value) (kg:Addr) (ae:Value) (af:Value),a=putSel b8 b [(0,14,I),(3,17,.int .i64 aH),(4,18,.int .i64 ad),(5,19,ae),(6,20,.string (rdOf ByteArray.empty aa (ad))),(7,21,J),(9,23,af),(10,24,.string (rdOf ByteArray.empty ab o)),(11,25,.string ((rdOf ByteArray.empty aa (ad))++(rdOf ByteArray.empty ab o))),(12,7,.string ((rdOf ByteArray.empty aa (ad))++(rdOf ByteArray.empty ab o)))]∧(Below w.heap.size w w')∧(b 0=true→Kd.R Kd.string 9 w' w.heap.size (fun _=>True) I aa)∧(b 0=true→∃c_,(I:Value)= .slice (some kf) aa.length c_)∧(b 7=true→Kd.R Kd.string 9 w' w.heap.size (fun _=>True) J ab)∧(b 7=true→∃c_,(J:Value)= .slice (some kg) ab.length c_)∧(b 5=true→(ae:Value)= .pointer (some (kf.add ((ad)).toNat)))∧(b 9=true→(af:Value)= .pointer (some (kg.add (o).toNat)))) an.out bJ.out (by kernel_rfl) (by kernel_rfl) ?_ ?_ ?_
     ·exact⟨.bool false,⟨0,0,none⟩,.bool false,⟨0,0,none⟩,.bool false,.bool false,by simp only[putSel,Bool.false_eq_true,if_false],HB.out,fun h_=>absurd h_ (by decide),fun h_=>absurd h_ (by decide),fun h_=>absurd h_ (by decide),fun h_=>absurd h_ (by decide),fun h_=>absurd h_ (by decide),fun h_=>absurd h_ (by decide)⟩
     ·skip;clear HB;refine steps_cons ?_ ?_
      ·rintro b a w' ⟨I,kf,J,kg,ae,af,ha,mm,ks,jt,kv,ju,qg,oL⟩ rR hon hoff;refine⟨_,rfl,fun K hK=>?_⟩;replace ha:=bm ha;have HB:=bm mm;refine Kd.R_lit_step Kd.string _ 9 ?hg (N:=14) ?hd (xs:=([(⟨#[33]⟩:BA),(⟨#[]⟩:BA)]:List BA)) (inner:=[.string (⟨#[33]⟩:BA),.string (⟨#[]⟩:BA)]) (ok:=fun _=>True) (okp:=fun _=>True) ?hr ?hp (fun _ hk=>hk) trivial (Below.refl _ _) (Nat.le_refl _) (by simp) ?_;(case hd=>rfl);(case hg=>rfl);(case hr=>first|(go_simp;done)|(go_simp;rfl));(case hp=>exact(Reps.one (show Kd.M Kd.string _ _ _ (⟨#[33]⟩:BA) [.string (⟨#[33]⟩:BA)] from rfl) (Reps.one (show Kd.M Kd.string _ _ _ (⟨#[]⟩:BA) [.string (⟨#[]⟩:BA)] from rfl) (Reps.none _ _))));intro I bl aq hb aE al;clear aE al;(first|rw[←aC.out]at aq|(simp only[Int.reduceToNat]at aq;rw[←aC.out]at aq));have aI:=rL aq HB;have aJ:=bW HB hb;have xe:=fun(ak:b 7=true)=>(show Kd.R Kd.string 9 bl w.heap.size (fun _=>True) J ab from by first|exact(Kd.R_elder' (by(repeat apply Kd.RS);exact(kv ak)) (Kd.R_base aq) hb)|exact Kd.R_mono (Kd.R_elder' (by(repeat apply Kd.RS);exact(kv ak)) (Kd.R_base aq) hb) (fun _ h_=>by first|trivial|exact h_|exact h_.1))
       clear HB;have ah:=aI;have HB:=aJ;clear aI aJ hb aq;obtain⟨ct,br,bs⟩:=Kd.R_slice ah.out;subst bs;obtain⟨aK,bu,_⟩:=Kd.at_string (Kd.R_reads' ah.out).2.2 0 (by decide) (by rw[aC.out];simp);cases bu;refine hK.out _ _ ⟨.slice (some aK) aa.length br,aK,J,kg,ae,af,(by rw[ha.out];exact putSel_upk 0 rR rfl rfl rfl),(wZ HB),fun _=>(rS ah),fun _=>⟨_,rfl⟩,xe,ju,fun ak=>absurd ((hoff 5 (by kernel_rfl)).symm.trans ak) (by decide),oL⟩
      refine steps_cons ?_ ?_
      ·rintro b a w' ⟨I,kf,J,kg,ae,af,ha,mm,ks,jt,kv,ju,qg,oL⟩ rR hon hoff;refine⟨_,rfl,fun K hK=>?_⟩;have cK:a.tmps[15]?=some (.int .i64 a1):=by rw[ha];exact(putSel_off rfl).trans rfl
       have cL:a.tmps[16]?=some (.int .i64 o):=by rw[ha];exact(putSel_off rfl).trans rfl
       replace ha:=bm ha;have HB:=bm mm;refine value_ (w1:=w') (v:=.int .i64 aH) (by rfl) rfl ?_ ?_
       ·go_simp;(try simp only[i64_w]);try rfl
       refine hK.out _ _ ⟨I,kf,J,kg,ae,af,(by rw[ha.out];exact putSel_upk 1 rR rfl rfl rfl),mm,ks,jt,kv,ju,fun ak=>absurd ((hoff 5 (by kernel_rfl)).symm.trans ak) (by decide),oL⟩
      refine steps_cons ?_ ?_
      ·rintro b a w' ⟨I,kf,J,kg,ae,af,ha,mm,ks,jt,kv,ju,qg,oL⟩ rR hon hoff;refine⟨_,rfl,fun K hK=>?_⟩;have cM:a.tmps[17]?=some (.int .i64 aH):=by rw[ha];exact putSel_on (e:=(3,17,.int .i64 aH)) 1 rfl rfl (hon 3 (by kernel_rfl)) rfl
       replace ha:=bm ha;have HB:=bm mm;refine value_ (w1:=w') (v:=.int .i64 ad) (by rfl) rfl ?_ ?_
       ·go_simp;(try simp only[i64_w]);try rfl
       refine hK.out _ _ ⟨I,kf,J,kg,ae,af,(by rw[ha.out];exact putSel_upk 2 rR rfl rfl rfl),mm,ks,jt,kv,ju,fun ak=>absurd ((hoff 5 (by kernel_rfl)).symm.trans ak) (by decide),oL⟩
      refine steps_cons ?_ ?_
      ·rintro b a w' ⟨I,kf,J,kg,ae,af,ha,mm,ks,jt,kv,ju,qg,oL⟩ rR hon hoff;refine⟨_,rfl,fun K hK=>?_⟩;have b9:a.tmps[14]?=some (I):=by rw[ha];exact putSel_on (e:=(0,14,I)) 0 rfl rfl (hon 0 (by kernel_rfl)) rfl
       have cN:a.tmps[18]?=some (.int .i64 ad):=by rw[ha];exact putSel_on (e:=(4,18,.int .i64 ad)) 2 rfl rfl (hon 4 (by kernel_rfl)) rfl
       replace ha:=bm ha;have HB:=bm mm;have ah:=bm (ks (hon 0 (by kernel_rfl)));have qk:=bm (jt (hon 0 (by kernel_rfl)));obtain⟨c_,ay⟩:=qk.out;rw[ay]at b9;refine value_ (w1:=w') (v:=.pointer (some (kf.add ((ad)).toNat))) (by rfl) rfl ?_ ?_
       ·go_simp;(try simp only[i64_w]);try rfl
       refine hK.out _ _ ⟨I,kf,J,kg,(.pointer (some (kf.add ((ad)).toNat))),af,(by rw[ha.out];exact putSel_upk 3 rR rfl rfl rfl),mm,ks,jt,kv,ju,fun _=>rfl,oL⟩
      refine steps_cons ?_ ?_
      ·rintro b a w' ⟨I,kf,J,kg,ae,af,ha,mm,ks,jt,kv,ju,qg,oL⟩ rR hon hoff;refine⟨_,rfl,fun K hK=>?_⟩;have ca:a.tmps[19]?=some (ae):=by rw[ha];exact putSel_on (e:=(5,19,ae)) 3 rfl rfl (hon 5 (by kernel_rfl)) rfl
       rw[qg (hon 5 (by kernel_rfl))]at ca;replace ha:=bm ha;have HB:=bm mm;have ah:=bm (ks (hon 0 (by kernel_rfl)));have qk:=bm (jt (hon 0 (by kernel_rfl)));obtain⟨c_,ay⟩:=qk.out;have yZ:=ah.out;rw[ay]at yZ;obtain⟨Gl,tv,cb⟩:=Kd.at_string (Kd.R_reads' yZ).2.2 (ad) (of_eq_true a6) (of_eq_true a7);cases tv;refine value_ (w1:=w') (v:=.string (rdOf ByteArray.empty aa (ad))) (by rfl) rfl ?_ ?_
       ·go_simp;(try simp only[i64_w]);try rfl
       refine hK.out _ _ ⟨I,kf,J,kg,ae,af,(by rw[ha.out];exact putSel_upk 4 rR rfl rfl rfl),mm,ks,jt,kv,ju,qg,oL⟩
      refine steps_cons ?_ ?_
      ·rintro b a w' ⟨I,kf,J,kg,ae,af,ha,mm,ks,jt,kv,ju,qg,oL⟩ rR hon hoff;refine⟨_,rfl,fun K hK=>?_⟩;replace ha:=bm ha;have HB:=bm mm;refine Kd.R_lit_step Kd.string _ 9 ?hg (N:=21) ?hd (xs:=([(⟨#[97]⟩:BA),(⟨#[98]⟩:BA),(⟨#[99]⟩:BA)]:List BA)) (inner:=[.string (⟨#[97]⟩:BA),.string (⟨#[98]⟩:BA),.string (⟨#[99]⟩:BA)]) (ok:=fun _=>True) (okp:=fun _=>True) ?hr ?hp (fun _ hk=>hk) trivial (Below.refl _ _) (Nat.le_refl _) (by simp) ?_;(case hd=>rfl);(case hg=>rfl);(case hr=>first|(go_simp;done)|(go_simp;rfl));(case hp=>exact(Reps.one (show Kd.M Kd.string _ _ _ (⟨#[97]⟩:BA) [.string (⟨#[97]⟩:BA)] from rfl) (Reps.one (show Kd.M Kd.string _ _ _ (⟨#[98]⟩:BA) [.string (⟨#[98]⟩:BA)] from rfl) (Reps.one (show Kd.M Kd.string _ _ _ (⟨#[99]⟩:BA) [.string (⟨#[99]⟩:BA)] from rfl) (Reps.none _ _)))));intro J bl aq hb aE al;clear aE al;(first|rw[←aD.out]at aq|(simp only[Int.reduceToNat]at aq;rw[←aD.out]at aq));have aI:=rL aq HB;have aJ:=bW HB hb;have xf:=fun(ak:b 0=true)=>(show Kd.R Kd.string 9 bl w.heap.size (fun _=>True) I aa from by first|exact(Kd.R_elder' (by(repeat apply Kd.RS);exact(ks ak)) (Kd.R_base aq) hb)|exact Kd.R_mono (Kd.R_elder' (by(repeat apply Kd.RS);exact(ks ak)) (Kd.R_base aq) hb) (fun _ h_=>by first|trivial|exact h_|exact h_.1))
       clear HB;have ai:=aI;have HB:=aJ;clear aI aJ hb aq;obtain⟨ct,br,bs⟩:=Kd.R_slice ai.out;subst bs;obtain⟨aK,bu,_⟩:=Kd.at_string (Kd.R_reads' ai.out).2.2 0 (by decide) (by rw[aD.out];simp);cases bu;refine hK.out _ _ ⟨I,kf,.slice (some aK) ab.length br,aK,ae,af,(by rw[ha.out];exact putSel_upk 5 rR rfl rfl rfl),(wZ HB),xf,jt,fun _=>(rS ai),fun _=>⟨_,rfl⟩,qg,fun ak=>absurd ((hoff 9 (by kernel_rfl)).symm.trans ak) (by decide)⟩
      refine steps_cons ?_ ?_
      ·rintro b a w' ⟨I,kf,J,kg,ae,af,ha,mm,ks,jt,kv,ju,qg,oL⟩ rR hon hoff;refine⟨_,rfl,fun K hK=>?_⟩;have cc:a.tmps[21]?=some (J):=by rw[ha];exact putSel_on (e:=(7,21,J)) 5 rfl rfl (hon 7 (by kernel_rfl)) rfl
       have cO:a.tmps[22]?=some (.int .i64 o):=by rw[ha];exact(putSel_off rfl).trans rfl
       replace ha:=bm ha;have HB:=bm mm;have ai:=bm (kv (hon 7 (by kernel_rfl)));have ql:=bm (ju (hon 7 (by kernel_rfl)));obtain⟨c_,ay⟩:=ql.out;rw[ay]at cc;refine value_ (w1:=w') (v:=.pointer (some (kg.add (o).toNat))) (by rfl) rfl ?_ ?_
       ·go_simp;(try simp only[i64_w]);try rfl
       refine hK.out _ _ ⟨I,kf,J,kg,ae,(.pointer (some (kg.add (o).toNat))),(by rw[ha.out];exact putSel_upk 6 rR rfl rfl rfl),mm,ks,jt,kv,ju,qg,fun _=>rfl⟩
      refine steps_cons ?_ ?_
      ·rintro b a w' ⟨I,kf,J,kg,ae,af,ha,mm,ks,jt,kv,ju,qg,oL⟩ rR hon hoff;refine⟨_,rfl,fun K hK=>?_⟩;have cd:a.tmps[23]?=some (af):=by rw[ha];exact putSel_on (e:=(9,23,af)) 6 rfl rfl (hon 9 (by kernel_rfl)) rfl
       rw[oL (hon 9 (by kernel_rfl))]at cd;replace ha:=bm ha;have HB:=bm mm;have ai:=bm (kv (hon 7 (by kernel_rfl)));have ql:=bm (ju (hon 7 (by kernel_rfl)));obtain⟨c_,ay⟩:=ql.out;have yZ:=ai.out;rw[ay]at yZ;obtain⟨Gl,tv,cb⟩:=Kd.at_string (Kd.R_reads' yZ).2.2 o (of_eq_true a8) (of_eq_true ba);cases tv;refine value_ (w1:=w') (v:=.string (rdOf ByteArray.empty ab o)) (by rfl) rfl ?_ ?_
       ·go_simp;(try simp only[i64_w]);try rfl
       refine hK.out _ _ ⟨I,kf,J,kg,ae,af,(by rw[ha.out];exact putSel_upk 7 rR rfl rfl rfl),mm,ks,jt,kv,ju,qg,oL⟩
      refine steps_cons ?_ ?_
      ·rintro b a w' ⟨I,kf,J,kg,ae,af,ha,mm,ks,jt,kv,ju,qg,oL⟩ rR hon hoff;refine⟨_,rfl,fun K hK=>?_⟩;have cP:a.tmps[20]?=some (.string (rdOf ByteArray.empty aa (ad))):=by rw[ha];exact putSel_on (e:=(6,20,.string (rdOf ByteArray.empty aa (ad)))) 4 rfl rfl (hon 6 (by kernel_rfl)) rfl
       have cQ:a.tmps[24]?=some (.string (rdOf ByteArray.empty ab o)):=by rw[ha];exact putSel_on (e:=(10,24,.string (rdOf ByteArray.empty ab o))) 7 rfl rfl (hon 10 (by kernel_rfl)) rfl
       replace ha:=bm ha;have HB:=bm mm;have ah:=bm (ks (hon 0 (by kernel_rfl)));have qk:=bm (jt (hon 0 (by kernel_rfl)));have ai:=bm (kv (hon 7 (by kernel_rfl)));have ql:=bm (ju (hon 7 (by kernel_rfl)));refine value_ (w1:=w') (v:=.string ((rdOf ByteArray.empty aa (ad))++(rdOf ByteArray.empty ab o))) (by rfl) rfl ?_ ?_
       ·go_simp;(try simp only[i64_w]);try rfl
       refine hK.out _ _ ⟨I,kf,J,kg,ae,af,(by rw[ha.out];exact putSel_upk 8 rR rfl rfl rfl),mm,ks,jt,kv,ju,qg,oL⟩
      refine steps_cons ?_ ?_
      ·rintro b a w' ⟨I,kf,J,kg,ae,af,ha,mm,ks,jt,kv,ju,qg,oL⟩ rR hon hoff;refine⟨_,rfl,fun K hK=>?_⟩;have cR:a.tmps[25]?=some (.string ((rdOf ByteArray.empty aa (ad))++(rdOf ByteArray.empty ab o))):=by rw[ha];exact putSel_on (e:=(11,25,.string ((rdOf ByteArray.empty aa (ad))++(rdOf ByteArray.empty ab o)))) 8 rfl rfl (hon 11 (by kernel_rfl)) rfl
       replace ha:=bm ha;have HB:=bm mm;have ah:=bm (ks (hon 0 (by kernel_rfl)));have qk:=bm (jt (hon 0 (by kernel_rfl)));have ai:=bm (kv (hon 7 (by kernel_rfl)));have ql:=bm (ju (hon 7 (by kernel_rfl)));refine value_ (w1:=w') (v:=.string ((rdOf ByteArray.empty aa (ad))++(rdOf ByteArray.empty ab o))) (by rfl) rfl ?_ ?_
       ·go_simp;(try simp only[i64_w]);try rfl
       refine hK.out _ _ ⟨I,kf,J,kg,ae,af,(by rw[ha.out];exact putSel_upk 9 rR rfl rfl rfl),mm,ks,jt,kv,ju,qg,oL⟩
      exact steps_nil
     rintro b a _ aj ⟨I,kf,J,kg,ae,af,ha,mm,ks,jt,kv,ju,qg,oL⟩;clear HB;have az:=aj 0 (by kernel_rfl);have aT:=aj 3 (by kernel_rfl);have aU:=aj 4 (by kernel_rfl);have aL:=aj 5 (by kernel_rfl);have aV:=aj 6 (by kernel_rfl);have aA:=aj 7 (by kernel_rfl);have aM:=aj 9 (by kernel_rfl);have aN:=aj 10 (by kernel_rfl);have aO:=aj 11 (by kernel_rfl);have aP:=aj 12 (by kernel_rfl);subst ha;obtain rfl:=qg aL;obtain rfl:=oL aM;simp only[putSel,az,aT,aU,aL,aV,aA,aM,aN,aO,aP,if_true,Act.put,qA,qB,qC];have HB:=bm mm;clear mm;have ah:=bm (ks az);clear ks;have qk:=bm (jt az);clear jt;have ai:=bm (kv aA);clear kv;have ql:=bm (ju aA);clear ju aj az aT aU aL aV aA aM aN aO aP;obtain⟨dJ,cu⟩:=qk.out;clear qk;subst cu;obtain⟨dK,cv⟩:=ql.out;clear ql;subst cv;try go_wp2
     go_roundg k1
     case measure=>have:=aG.out;omega
     case rel=>exact⟨((rdOf ByteArray.empty aa (ad))++(rdOf ByteArray.empty ab o)),(wrap64 (o - 1)),(by first|rfl|(simp;done)|(simp only[←bh]<;>(first|rfl|simp))|(simp[*];done)),eA,H',⟨by have:=aG.out;omega⟩,⟨wZ HB⟩⟩
    ·obtain⟨b6,b7⟩:=pe bk;obtain⟨bO,H⟩:=iN H;have cS:=pM bO;have cT:=pK bO;try have cU:(9223372036854775807<1+((rdOf ByteArray.empty aa (ad))++(rdOf ByteArray.empty ab o)).size)=False:=eq_false (Nat.not_lt.2 bO)
     (try have cV:(9223372036854775807<1+((rdOf ByteArray.empty aa (ad)).size+(rdOf ByteArray.empty ab o).size))=False:=eq_false (by have h_:=bO;(repeat rw[ByteArray.size_append]at h_);exact Nat.not_lt.2 h_));obtain⟨bT,H⟩:=iN H;have cW:=pM bT;have cX:=pK bT;try have c0:(9223372036854775807<((⟨#[40]⟩:BA)++((rdOf ByteArray.empty aa (ad))++(rdOf ByteArray.empty ab o))).size+1)=False:=eq_false (Nat.not_lt.2 bT)
     (try have c1:(9223372036854775807<1+((rdOf ByteArray.empty aa (ad)).size+(rdOf ByteArray.empty ab o).size)+1)=False:=eq_false (by have h_:=bT;(repeat rw[ByteArray.size_append]at h_);exact Nat.not_lt.2 h_));obtain⟨bV,H⟩:=iN H;have da:=pM bV;have db:=pK bV;try have dc:(9223372036854775807<(((⟨#[40]⟩:BA)++((rdOf ByteArray.empty aa (ad))++(rdOf ByteArray.empty ab o)))++(⟨#[38]⟩:BA)).size+ag.size)=False:=eq_false (Nat.not_lt.2 bV)
     (try have dd:(9223372036854775807<1+((rdOf ByteArray.empty aa (ad)).size+(rdOf ByteArray.empty ab o).size)+1+ag.size)=False:=eq_false (by have h_:=bV;(repeat rw[ByteArray.size_append]at h_);exact Nat.not_lt.2 h_));obtain⟨bZ,H⟩:=iN H;have de:=pM bZ;have df:=pK bZ;try have dg:(9223372036854775807<((((⟨#[40]⟩:BA)++((rdOf ByteArray.empty aa (ad))++(rdOf ByteArray.empty ab o)))++(⟨#[38]⟩:BA))++ag).size+1)=False:=eq_false (Nat.not_lt.2 bZ)
     (try have dh:(9223372036854775807<1+((rdOf ByteArray.empty aa (ad)).size+(rdOf ByteArray.empty ab o).size)+1+ag.size+1)=False:=eq_false (by have h_:=bZ;(repeat rw[ByteArray.size_append]at h_);exact Nat.not_lt.2 h_));have H':=bm H;clear H;try go_wp2
     have a6:(0≤((ad):Int))=True:=pM (ko);have a7:((ad)<(aa.length:Int))=True:=pM (ko);have a8:(0≤(o:Int))=True:=pM (ko);have ba:(o<(ab.length:Int))=True:=pM (ko);replace HB:=pL HB;refine start_ (n:=13) (S:=fun w'=>True) (ds:=[]) Ba (by kernel_rfl) rfl rfl trivial (fun hHeld=>?_);refine with_tabW jK.xH jK.uD (fun an bJ=>?_);generalize wr.drew=dS at HB hHeld⊢;refine pA 1 15 an ?_ ?_ ?_ ?_ (pA 2 16 an ?_ ?_ ?_ ?_ (pA 8 22 an ?_ ?_ ?_ ?_ ?_))
     all_goals first|(intro w';go_simp;with_reducible rfl)|(simp only[Act.put,qA,qB,qC,i64_w,i32_w];rfl)|skip
     refine inv_at [0,3,4,5,6,7,9,10,11,12] (fun b8 b a w'=>∃(I:Value) (kf:Addr) (J:Value) (kg:Addr) (ae:Value) (af:Value),a=putSel b8 b [(0,14,I),(3,17,.int .i64 aH),(4,18,.int .i64 ad),(5,19,ae),(6,20,.string (rdOf ByteArray.empty aa (ad))),(7,21,J),(9,23,af),(10,24,.string (rdOf ByteArray.empty ab o)),(11,25,.string ((rdOf ByteArray.empty aa (ad))++(rdOf ByteArray.empty ab o))),(12,7,.string ((rdOf ByteArray.empty aa (ad))++(rdOf ByteArray.empty ab o)))]∧(Below w.heap.size w w')∧(b 0=true→Kd.R Kd.string 9 w' w.heap.size (fun _=>True) I aa)∧(b 0=true→∃c_,(I:Value)= .slice (some kf) aa.length c_)∧(b 7=true→Kd.R Kd.string 9 w' w.heap.size (fun _=>True) J ab)∧(b 7=true→∃c_,(J:Value)= .slice (some kg) ab.length c_)∧(b 5=true→(ae:Value)= .pointer (some (kf.add ((ad)).toNat)))∧(b 9=true→(af:Value)= .pointer (some (kg.add (o).toNat)))) an.out bJ.out (by kernel_rfl) (by kernel_rfl) ?_ ?_ ?_
     ·exact⟨.bool false,⟨0,0,none⟩,.bool false,⟨0,0,none⟩,.bool false,.bool false,by simp only[putSel,Bool.false_eq_true,if_false],HB.out,fun h_=>absurd h_ (by decide),fun h_=>absurd h_ (by decide),fun h_=>absurd h_ (by decide),fun h_=>absurd h_ (by decide),fun h_=>absurd h_ (by decide),fun h_=>absurd h_ (by decide)⟩
     ·skip;clear HB;refine steps_cons ?_ ?_
      ·rintro b a w' ⟨I,kf,J,kg,ae,af,ha,mm,ks,jt,kv,ju,qg,oL⟩ rR hon hoff;refine⟨_,rfl,fun K hK=>?_⟩;replace ha:=bm ha;have HB:=bm mm;refine Kd.R_lit_step Kd.string _ 9 ?hg (N:=14) ?hd (xs:=([(⟨#[33]⟩:BA),(⟨#[]⟩:BA)]:List BA)) (inner:=[.string (⟨#[33]⟩:BA),.string (⟨#[]⟩:BA)]) (ok:=fun _=>True) (okp:=fun _=>True) ?hr ?hp (fun _ hk=>hk) trivial (Below.refl _ _) (Nat.le_refl _) (by simp) ?_;(case hd=>rfl);(case hg=>rfl);(case hr=>first|(go_simp;done)|(go_simp;rfl));(case hp=>exact(Reps.one (show Kd.M Kd.string _ _ _ (⟨#[33]⟩:BA) [.string (⟨#[33]⟩:BA)] from rfl) (Reps.one (show Kd.M Kd.string _ _ _ (⟨#[]⟩:BA) [.string (⟨#[]⟩:BA)] from rfl) (Reps.none _ _))));intro I cf ar hb aE al;clear aE al;(first|rw[←aC.out]at ar|(simp only[Int.reduceToNat]at ar;rw[←aC.out]at ar));have aI:=rL ar HB;have aJ:=bW HB hb;have xe:=fun(ak:b 7=true)=>(show Kd.R Kd.string 9 cf w.heap.size (fun _=>True) J ab from by first|exact(Kd.R_elder' (by(repeat apply Kd.RS);exact(kv ak)) (Kd.R_base ar) hb)|exact Kd.R_mono (Kd.R_elder' (by(repeat apply Kd.RS);exact(kv ak)) (Kd.R_base ar) hb) (fun _ h_=>by first|trivial|exact h_|exact h_.1))
       clear HB;have ah:=aI;have HB:=aJ;clear aI aJ hb ar;obtain⟨cw,bw,bx⟩:=Kd.R_slice ah.out;subst bx;obtain⟨aQ,bA,_⟩:=Kd.at_string (Kd.R_reads' ah.out).2.2 0 (by decide) (by rw[aC.out];simp);cases bA;refine hK.out _ _ ⟨.slice (some aQ) aa.length bw,aQ,J,kg,ae,af,(by rw[ha.out];exact putSel_upk 0 rR rfl rfl rfl),(wZ HB),fun _=>(rS ah),fun _=>⟨_,rfl⟩,xe,ju,fun ak=>absurd ((hoff 5 (by kernel_rfl)).symm.trans ak) (by decide),oL⟩
      refine steps_cons ?_ ?_
      ·rintro b a w' ⟨I,kf,J,kg,ae,af,ha,mm,ks,jt,kv,ju,qg,oL⟩ rR hon hoff;refine⟨_,rfl,fun K hK=>?_⟩;have cK:a.tmps[15]?=some (.int .i64 a1):=by rw[ha];exact(putSel_off rfl).trans rfl
       have cL:a.tmps[16]?=some (.int .i64 o):=by rw[ha];exact(putSel_off rfl).trans rfl
       replace ha:=bm ha;have HB:=bm mm;refine value_ (w1:=w') (v:=.int .i64 aH) (by rfl) rfl ?_ ?_
       ·go_simp;(try simp only[i64_w]);try rfl
       refine hK.out _ _ ⟨I,kf,J,kg,ae,af,(by rw[ha.out];exact putSel_upk 1 rR rfl rfl rfl),mm,ks,jt,kv,ju,fun ak=>absurd ((hoff 5 (by kernel_rfl)).symm.trans ak) (by decide),oL⟩
      refine steps_cons ?_ ?_
      ·rintro b a w' ⟨I,kf,J,kg,ae,af,ha,mm,ks,jt,kv,ju,qg,oL⟩ rR hon hoff;refine⟨_,rfl,fun K hK=>?_⟩;have cM:a.tmps[17]?=some (.int .i64 aH):=by rw[ha];exact putSel_on (e:=(3,17,.int .i64 aH)) 1 rfl rfl (hon 3 (by kernel_rfl)) rfl
       replace ha:=bm ha;have HB:=bm mm;refine value_ (w1:=w') (v:=.int .i64 ad) (by rfl) rfl ?_ ?_
       ·go_simp;(try simp only[i64_w]);try rfl
       refine hK.out _ _ ⟨I,kf,J,kg,ae,af,(by rw[ha.out];exact putSel_upk 2 rR rfl rfl rfl),mm,ks,jt,kv,ju,fun ak=>absurd ((hoff 5 (by kernel_rfl)).symm.trans ak) (by decide),oL⟩
      refine steps_cons ?_ ?_
      ·rintro b a w' ⟨I,kf,J,kg,ae,af,ha,mm,ks,jt,kv,ju,qg,oL⟩ rR hon hoff;refine⟨_,rfl,fun K hK=>?_⟩;have b9:a.tmps[14]?=some (I):=by rw[ha];exact putSel_on (e:=(0,14,I)) 0 rfl rfl (hon 0 (by kernel_rfl)) rfl
       have cN:a.tmps[18]?=some (.int .i64 ad):=by rw[ha];exact putSel_on (e:=(4,18,.int .i64 ad)) 2 rfl rfl (hon 4 (by kernel_rfl)) rfl
       replace ha:=bm ha;have HB:=bm mm;have ah:=bm (ks (hon 0 (by kernel_rfl)));have qk:=bm (jt (hon 0 (by kernel_rfl)));obtain⟨c_,ay⟩:=qk.out;rw[ay]at b9;refine value_ (w1:=w') (v:=.pointer (some (kf.add ((ad)).toNat))) (by rfl) rfl ?_ ?_
       ·go_simp;(try simp only[i64_w]);try rfl
       refine hK.out _ _ ⟨I,kf,J,kg,(.pointer (some (kf.add ((ad)).toNat))),af,(by rw[ha.out];exact putSel_upk 3 rR rfl rfl rfl),mm,ks,jt,kv,ju,fun _=>rfl,oL⟩
      refine steps_cons ?_ ?_
      ·rintro b a w' ⟨I,kf,J,kg,ae,af,ha,mm,ks,jt,kv,ju,qg,oL⟩ rR hon hoff;refine⟨_,rfl,fun K hK=>?_⟩;have ca:a.tmps[19]?=some (ae):=by rw[ha];exact putSel_on (e:=(5,19,ae)) 3 rfl rfl (hon 5 (by kernel_rfl)) rfl
       rw[qg (hon 5 (by kernel_rfl))]at ca;replace ha:=bm ha;have HB:=bm mm;have ah:=bm (ks (hon 0 (by kernel_rfl)));have qk:=bm (jt (hon 0 (by kernel_rfl)));obtain⟨c_,ay⟩:=qk.out;have yZ:=ah.out;rw[ay]at yZ;obtain⟨Gl,tv,cb⟩:=Kd.at_string (Kd.R_reads' yZ).2.2 (ad) (of_eq_true a6) (of_eq_true a7);cases tv;refine value_ (w1:=w') (v:=.string (rdOf ByteArray.empty aa (ad))) (by rfl) rfl ?_ ?_
       ·go_simp;(try simp only[i64_w]);try rfl
       refine hK.out _ _ ⟨I,kf,J,kg,ae,af,(by rw[ha.out];exact putSel_upk 4 rR rfl rfl rfl),mm,ks,jt,kv,ju,qg,oL⟩
      refine steps_cons ?_ ?_
      ·rintro b a w' ⟨I,kf,J,kg,ae,af,ha,mm,ks,jt,kv,ju,qg,oL⟩ rR hon hoff;refine⟨_,rfl,fun K hK=>?_⟩;replace ha:=bm ha;have HB:=bm mm;refine Kd.R_lit_step Kd.string _ 9 ?hg (N:=21) ?hd (xs:=([(⟨#[97]⟩:BA),(⟨#[98]⟩:BA),(⟨#[99]⟩:BA)]:List BA)) (inner:=[.string (⟨#[97]⟩:BA),.string (⟨#[98]⟩:BA),.string (⟨#[99]⟩:BA)]) (ok:=fun _=>True) (okp:=fun _=>True) ?hr ?hp (fun _ hk=>hk) trivial (Below.refl _ _) (Nat.le_refl _) (by simp) ?_;(case hd=>rfl);(case hg=>rfl);(case hr=>first|(go_simp;done)|(go_simp;rfl));(case hp=>exact(Reps.one (show Kd.M Kd.string _ _ _ (⟨#[97]⟩:BA) [.string (⟨#[97]⟩:BA)] from rfl) (Reps.one (show Kd.M Kd.string _ _ _ (⟨#[98]⟩:BA) [.string (⟨#[98]⟩:BA)] from rfl) (Reps.one (show Kd.M Kd.string _ _ _ (⟨#[99]⟩:BA) [.string (⟨#[99]⟩:BA)] from rfl) (Reps.none _ _)))));intro J cf ar hb aE al;clear aE al;(first|rw[←aD.out]at ar|(simp only[Int.reduceToNat]at ar;rw[←aD.out]at ar));have aI:=rL ar HB;have aJ:=bW HB hb;have xf:=fun(ak:b 0=true)=>(show Kd.R Kd.string 9 cf w.heap.size (fun _=>True) I aa from by first|exact(Kd.R_elder' (by(repeat apply Kd.RS);exact(ks ak)) (Kd.R_base ar) hb)|exact Kd.R_mono (Kd.R_elder' (by(repeat apply Kd.RS);exact(ks ak)) (Kd.R_base ar) hb) (fun _ h_=>by first|trivial|exact h_|exact h_.1))
       clear HB;have ai:=aI;have HB:=aJ;clear aI aJ hb ar;obtain⟨cw,bw,bx⟩:=Kd.R_slice ai.out;subst bx;obtain⟨aQ,bA,_⟩:=Kd.at_string (Kd.R_reads' ai.out).2.2 0 (by decide) (by rw[aD.out];simp);cases bA;refine hK.out _ _ ⟨I,kf,.slice (some aQ) ab.length bw,aQ,ae,af,(by rw[ha.out];exact putSel_upk 5 rR rfl rfl rfl),(wZ HB),xf,jt,fun _=>(rS ai),fun _=>⟨_,rfl⟩,qg,fun ak=>absurd ((hoff 9 (by kernel_rfl)).symm.trans ak) (by decide)⟩
      refine steps_cons ?_ ?_
      ·rintro b a w' ⟨I,kf,J,kg,ae,af,ha,mm,ks,jt,kv,ju,qg,oL⟩ rR hon hoff;refine⟨_,rfl,fun K hK=>?_⟩;have cc:a.tmps[21]?=some (J):=by rw[ha];exact putSel_on (e:=(7,21,J)) 5 rfl rfl (hon 7 (by kernel_rfl)) rfl
       have cO:a.tmps[22]?=some (.int .i64 o):=by rw[ha];exact(putSel_off rfl).trans rfl
       replace ha:=bm ha;have HB:=bm mm;have ai:=bm (kv (hon 7 (by kernel_rfl)));have ql:=bm (ju (hon 7 (by kernel_rfl)));obtain⟨c_,ay⟩:=ql.out;rw[ay]at cc;refine value_ (w1:=w') (v:=.pointer (some (kg.add (o).toNat))) (by rfl) rfl ?_ ?_
       ·go_simp;(try simp only[i64_w]);try rfl
       refine hK.out _ _ ⟨I,kf,J,kg,ae,(.pointer (some (kg.add (o).toNat))),(by rw[ha.out];exact putSel_upk 6 rR rfl rfl rfl),mm,ks,jt,kv,ju,qg,fun _=>rfl⟩
      refine steps_cons ?_ ?_
      ·rintro b a w' ⟨I,kf,J,kg,ae,af,ha,mm,ks,jt,kv,ju,qg,oL⟩ rR hon hoff;refine⟨_,rfl,fun K hK=>?_⟩;have cd:a.tmps[23]?=some (af):=by rw[ha];exact putSel_on (e:=(9,23,af)) 6 rfl rfl (hon 9 (by kernel_rfl)) rfl
       rw[oL (hon 9 (by kernel_rfl))]at cd;replace ha:=bm ha;have HB:=bm mm;have ai:=bm (kv (hon 7 (by kernel_rfl)));have ql:=bm (ju (hon 7 (by kernel_rfl)));obtain⟨c_,ay⟩:=ql.out;have yZ:=ai.out;rw[ay]at yZ;obtain⟨Gl,tv,cb⟩:=Kd.at_string (Kd.R_reads' yZ).2.2 o (of_eq_true a8) (of_eq_true ba);cases tv;refine value_ (w1:=w') (v:=.string (rdOf ByteArray.empty ab o)) (by rfl) rfl ?_ ?_
       ·go_simp;(try simp only[i64_w]);try rfl
       refine hK.out _ _ ⟨I,kf,J,kg,ae,af,(by rw[ha.out];exact putSel_upk 7 rR rfl rfl rfl),mm,ks,jt,kv,ju,qg,oL⟩
      refine steps_cons ?_ ?_
      ·rintro b a w' ⟨I,kf,J,kg,ae,af,ha,mm,ks,jt,kv,ju,qg,oL⟩ rR hon hoff;refine⟨_,rfl,fun K hK=>?_⟩;have cP:a.tmps[20]?=some (.string (rdOf ByteArray.empty aa (ad))):=by rw[ha];exact putSel_on (e:=(6,20,.string (rdOf ByteArray.empty aa (ad)))) 4 rfl rfl (hon 6 (by kernel_rfl)) rfl
       have cQ:a.tmps[24]?=some (.string (rdOf ByteArray.empty ab o)):=by rw[ha];exact putSel_on (e:=(10,24,.string (rdOf ByteArray.empty ab o))) 7 rfl rfl (hon 10 (by kernel_rfl)) rfl
       replace ha:=bm ha;have HB:=bm mm;have ah:=bm (ks (hon 0 (by kernel_rfl)));have qk:=bm (jt (hon 0 (by kernel_rfl)));have ai:=bm (kv (hon 7 (by kernel_rfl)));have ql:=bm (ju (hon 7 (by kernel_rfl)));refine value_ (w1:=w') (v:=.string ((rdOf ByteArray.empty aa (ad))++(rdOf ByteArray.empty ab o))) (by rfl) rfl ?_ ?_
       ·go_simp;(try simp only[i64_w]);try rfl
       refine hK.out _ _ ⟨I,kf,J,kg,ae,af,(by rw[ha.out];exact putSel_upk 8 rR rfl rfl rfl),mm,ks,jt,kv,ju,qg,oL⟩
      refine steps_cons ?_ ?_
      ·rintro b a w' ⟨I,kf,J,kg,ae,af,ha,mm,ks,jt,kv,ju,qg,oL⟩ rR hon hoff;refine⟨_,rfl,fun K hK=>?_⟩;have cR:a.tmps[25]?=some (.string ((rdOf ByteArray.empty aa (ad))++(rdOf ByteArray.empty ab o))):=by rw[ha];exact putSel_on (e:=(11,25,.string ((rdOf ByteArray.empty aa (ad))++(rdOf ByteArray.empty ab o)))) 8 rfl rfl (hon 11 (by kernel_rfl)) rfl
       replace ha:=bm ha;have HB:=bm mm;have ah:=bm (ks (hon 0 (by kernel_rfl)));have qk:=bm (jt (hon 0 (by kernel_rfl)));have ai:=bm (kv (hon 7 (by kernel_rfl)));have ql:=bm (ju (hon 7 (by kernel_rfl)));refine value_ (w1:=w') (v:=.string ((rdOf ByteArray.empty aa (ad))++(rdOf ByteArray.empty ab o))) (by rfl) rfl ?_ ?_
       ·go_simp;(try simp only[i64_w]);try rfl
       refine hK.out _ _ ⟨I,kf,J,kg,ae,af,(by rw[ha.out];exact putSel_upk 9 rR rfl rfl rfl),mm,ks,jt,kv,ju,qg,oL⟩
      exact steps_nil
     rintro b a _ aj ⟨I,kf,J,kg,ae,af,ha,mm,ks,jt,kv,ju,qg,oL⟩;clear HB;have az:=aj 0 (by kernel_rfl);have aT:=aj 3 (by kernel_rfl);have aU:=aj 4 (by kernel_rfl);have aL:=aj 5 (by kernel_rfl);have aV:=aj 6 (by kernel_rfl);have aA:=aj 7 (by kernel_rfl);have aM:=aj 9 (by kernel_rfl);have aN:=aj 10 (by kernel_rfl);have aO:=aj 11 (by kernel_rfl);have aP:=aj 12 (by kernel_rfl);subst ha;obtain rfl:=qg aL;obtain rfl:=oL aM;simp only[putSel,az,aT,aU,aL,aV,aA,aM,aN,aO,aP,if_true,Act.put,qA,qB,qC];have HB:=bm mm;clear mm;have ah:=bm (ks az);clear ks;have qk:=bm (jt az);clear jt;have ai:=bm (kv aA);clear kv;have ql:=bm (ju aA);clear ju aj az aT aU aL aV aA aM aN aO aP;obtain⟨dL,cx⟩:=qk.out;clear qk;subst cx;obtain⟨dM,cy⟩:=ql.out;clear ql;subst cy;try go_wp2
     go_roundg k1
     case measure=>have:=aG.out;omega
     case rel=>exact⟨(((((⟨#[40]⟩:BA)++((rdOf ByteArray.empty aa (ad))++(rdOf ByteArray.empty ab o)))++(⟨#[38]⟩:BA))++ag)++(⟨#[41]⟩:BA)),(wrap64 (o - 1)),(by first|rfl|(simp;done)|(simp only[←bh]<;>(first|rfl|simp))|(simp[*];done)),eA,H',⟨by have:=aG.out;omega⟩,⟨wZ HB⟩⟩
   ·obtain rfl:=pd H;go_wp2;go_ret;exact⟨eF,wZ HB⟩
def gX.l0:Nat→Int→Int→BA→Int→Option (BA)
 |0,_,_,_,_=>none
 |k+1,x0,x1,x5,x6=>if x6≥0 then((kz.f x1 x6).bind fun aB=>(if aB=0 then(gX.l0 k x0 x1 x5 (wrap64 (x6 - 1)))else(if x5.toList=([]:List UInt8)then((jK.f k x0 x6).bind fun bj=>(gX.l0 k x0 x1 bj (wrap64 (x6 - 1))))else((jK.f k x0 x6).bind fun au=>(if 1+au.size≤9223372036854775807 then(if((⟨#[40]⟩:BA)++au).size+1≤9223372036854775807 then(if(((⟨#[40]⟩:BA)++au)++(⟨#[124]⟩:BA)).size+x5.size≤9223372036854775807 then(if((((⟨#[40]⟩:BA)++au)++(⟨#[124]⟩:BA))++x5).size+1≤9223372036854775807 then(gX.l0 k x0 x1 (((((⟨#[40]⟩:BA)++au)++(⟨#[124]⟩:BA))++x5)++(⟨#[41]⟩:BA)) (wrap64 (x6 - 1)))else(none))else(none))else(none))else(none))))))else(some x5)
def gX.f (k:Nat) (a0:Int) (a1:Int):Option (BA):=(kc.f a0 a1).bind fun aW=>(if aW=true then(if a1=0 then(some (⟨#[48]⟩:BA))else((mh.f a0).bind fun ax=>(if a1=ax then(some (⟨#[49]⟩:BA))else(if 0≤a0 then(gX.l0 k a0 a1 (⟨#[]⟩:BA) (wrap64 ((shl .i64 1 a0) - 1)))else(none)))))else(some (⟨#[]⟩:BA)))
theorem gX.hZ:∀k,(∀y0 y1 y2 y3,lS (gX.l0 k y0 y1 y2 y3) (gX.l0 (k+1) y0 y1 y2 y3))
 |0=>fun _ _ _ _=> .z (by simp only[gX.l0])
 |k+1=>by
  have i0:=gX.hZ k;exact fun _ _ _ _=>by unfold gX.l0;infer_instance
instance gX.mo {k a0 a1}:lS (gX.f k a0 a1) (gX.f (k+1) a0 a1):=by have i0:=gX.hZ k;unfold gX.f;infer_instance
theorem gX.mono:∀a0 a1 k,LeO (gX.f k a0 a1) (gX.f (k+1) a0 a1):=fun _ _ _=>gX.mo.h
theorem gX.calls (k:Nat) (a0:Int) (a1:Int) (r:BA) (w:World) (h:gX.f k a0 a1=some r):
  Calls Tryz.prog 57 #[.int .i64 a0,.int .i64 a1] w fun e w'=>e= .returned (.string r)∧Below w.heap.size w w':=by
 have HB:=bm (Below.refl w.heap.size w);have H:=h;clear h;unfold gX.f at H;obtain⟨aW,A3,H⟩:=bE H;try dsimp only at H
 by_cases c4:aW=true
 subst c4;rw[if_pos rfl]at H;rcases iT H with⟨c5,H⟩|⟨c5,H⟩
 obtain⟨cz,cA⟩:=pf c5;clear c5;obtain rfl:=pd H
 rotate_left
 obtain⟨cz,cA⟩:=pe c5;obtain⟨ax,A6,H⟩:=bE H;try dsimp only at H
 rcases iT H with⟨c7,H⟩|⟨c7,H⟩
 obtain⟨bp,b5⟩:=pf c7;clear c7;obtain rfl:=pd H
 rotate_left
 obtain⟨bp,b5⟩:=pe c7;obtain⟨cr,dN,H⟩:=pO H;obtain⟨bb,aF⟩:∃j_:Int,(shl .i64 1 a0)=j_:=⟨_,rfl⟩;first|rw[aF]at H|simp only[aF]at H
 (try rw[aF]at A3);(try rw[aF]at A6);have bB:(IntKind.i64.wrap (1*2^min a0.toNat 64))=bb:=aF;have bD:a0≤64→(IntKind.i64.wrap (1*2^a0.toNat))=bb:=shl_small aF;have di:(IntKind.i64.wrap (2^min a0.toNat 64))=bb:=by have h_:=bB;rw[Int.one_mul]at h_;exact h_
 have dj:a0≤64→(IntKind.i64.wrap (2^a0.toNat))=bb:=fun cB=>by have h_:=bD cB;rw[Int.one_mul]at h_;exact h_
 have dk:(wrap64 (1*2^min a0.toNat 64))=bb:=(i64_w _).symm.trans bB;have dm:a0≤64→(wrap64 (1*2^a0.toNat))=bb:=fun h_=>(i64_w _).symm.trans (bD h_)
 have H':=bm H;clear H
 rotate_left
 replace c4:=pD c4;subst c4;rw[if_neg pV]at H;obtain rfl:=pd H
 rotate_left
 all_goals(go_enter Tryz.func57,Tryz.ntmps57;go_wp2_with (first|(refine gB (some 9) Tryz.func97 #[.int .i64 a0,.int .i64 a1] rfl ?_;(refine(kc.calls a0 a1 true _ A3.out).mono ?_);rintro e w' ⟨rfl,⟨nd,rfl⟩⟩;refine⟨_,rfl,?_⟩)|(refine gB (some 15) Tryz.func96 #[.int .i64 a0] rfl ?_;(refine(mh.calls a0 ax _ A6.out).mono ?_);rintro e w' ⟨rfl,⟨nd,rfl⟩⟩;refine⟨_,rfl,?_⟩)|(refine gB (some 9) Tryz.func97 #[.int .i64 a0,.int .i64 a1] rfl ?_;(refine(kc.calls a0 a1 false _ A3.out).mono ?_);rintro e w' ⟨rfl,⟨nd,rfl⟩⟩;refine⟨_,rfl,?_⟩)))
 iterate 2(go_ret;exact⟨eF,wZ HB⟩)
 ·go_loopg [5,6] k (fun kq v5 v6 w'=>∃(ag:BA) (o:Int),v5= .string ag∧v6= .int .i64 o∧hJ (gX.l0 kq a0 a1 ag o=some r)∧hJ (kq≤k)∧hJ (Below w.heap.size w w'))
  case atStart=>exact⟨((⟨#[]⟩:BA)),(wrap64 ((bb) - 1)),eA,(by first|rfl|(simp;done)|(simp only[←aF]<;>(first|rfl|simp))|(simp[*];done)),H',⟨Nat.le_refl _⟩,⟨wZ HB⟩⟩
  case round=>
   clear H';obtain⟨ag,o,rfl,rfl,HA,aG,HB⟩:=hrel;cases gk with
   |zero=>exact absurd HA.out (by simp[gX.l0])
   |succ k1=>
    have H:=HA.out;clear HA;simp only[gX.l0]at H;rcases pP H with⟨bq,H⟩|⟨bq,H⟩
    ·obtain⟨aB,cg,H⟩:=bE H;try dsimp only at H
     rcases iT H with⟨bn,H⟩|⟨bn,H⟩
     ·obtain⟨ch,cj⟩:=pf bn;clear bn;have H':=bm H;clear H;go_wp2_with (first|(refine gB (some 26) Tryz.func98 #[.int .i64 a1,.int .i64 o] rfl ?_;(refine(kz.calls a1 o aB _ cg.out).mono ?_);rintro e w' ⟨rfl,⟨nd,rfl⟩⟩;refine⟨_,rfl,?_⟩));go_roundg k1
      case measure=>have:=aG.out;omega
      case rel=>exact⟨(ag),(wrap64 (o - 1)),eA,eA,H',⟨by have:=aG.out;omega⟩,⟨wZ HB⟩⟩
     ·obtain⟨ch,cj⟩:=pe bn;rcases iT H with⟨bo,H⟩|⟨bo,H⟩
      ·obtain⟨ck,cl⟩:=pf bo;clear bo;obtain⟨bj,dn,H⟩:=bE H;try dsimp only at H
       have H':=bm H;clear H;go_wp2_with (first|(refine gB (some 26) Tryz.func98 #[.int .i64 a1,.int .i64 o] rfl ?_;(refine(kz.calls a1 o aB _ cg.out).mono ?_);rintro e w' ⟨rfl,⟨nd,rfl⟩⟩;refine⟨_,rfl,?_⟩)|(refine gB (some 32) Tryz.func99 #[.int .i64 a0,.int .i64 o] rfl ?_;(refine(jK.calls k1 a0 o bj _ dn.out).mono ?_);rintro e _ ⟨rfl,hb⟩;refine⟨_,rfl,?_⟩;replace HB:=bW HB hb;clear hb));go_roundg k1
       case measure=>have:=aG.out;omega
       case rel=>exact⟨(bj),(wrap64 (o - 1)),eA,eA,H',⟨by have:=aG.out;omega⟩,⟨wZ HB⟩⟩
      ·obtain⟨ck,cl⟩:=pe bo;obtain⟨au,dp,H⟩:=bE H;try dsimp only at H
       obtain⟨cm,H⟩:=iN H;have dq:=pM cm;have dr:=pK cm;try have dt:(9223372036854775807<1+au.size)=False:=eq_false (Nat.not_lt.2 cm)
       obtain⟨b0,H⟩:=iN H;have du:=pM b0;have dv:=pK b0;try have dw:(9223372036854775807<((⟨#[40]⟩:BA)++au).size+1)=False:=eq_false (Nat.not_lt.2 b0)
       (try have dx:(9223372036854775807<1+au.size+1)=False:=eq_false (by have h_:=b0;(repeat rw[ByteArray.size_append]at h_);exact Nat.not_lt.2 h_));obtain⟨b1,H⟩:=iN H;have dy:=pM b1;have dz:=pK b1;try have dA:(9223372036854775807<(((⟨#[40]⟩:BA)++au)++(⟨#[124]⟩:BA)).size+ag.size)=False:=eq_false (Nat.not_lt.2 b1)
       (try have dB:(9223372036854775807<1+au.size+1+ag.size)=False:=eq_false (by have h_:=b1;(repeat rw[ByteArray.size_append]at h_);exact Nat.not_lt.2 h_));obtain⟨b4,H⟩:=iN H;have dC:=pM b4;have dD:=pK b4;try have dE:(9223372036854775807<((((⟨#[40]⟩:BA)++au)++(⟨#[124]⟩:BA))++ag).size+1)=False:=eq_false (Nat.not_lt.2 b4)
       (try have dF:(9223372036854775807<1+au.size+1+ag.size+1)=False:=eq_false (by have h_:=b4;(repeat rw[ByteArray.size_append]at h_);exact Nat.not_lt.2 h_));have H':=bm H;clear H;go_wp2_with (first|(refine gB (some 26) Tryz.func98 #[.int .i64 a1,.int .i64 o] rfl ?_;(refine(kz.calls a1 o aB _ cg.out).mono ?_);rintro e w' ⟨rfl,⟨nd,rfl⟩⟩;refine⟨_,rfl,?_⟩)|(refine gB (some 35) Tryz.func99 #[.int .i64 a0,.int .i64 o] rfl ?_;(refine(jK.calls k1 a0 o au _ dp.out).mono ?_);rintro e _ ⟨rfl,hb⟩;refine⟨_,rfl,?_⟩;replace HB:=bW HB hb;clear hb));go_roundg k1
       case measure=>have:=aG.out;omega
       case rel=>exact⟨(((((⟨#[40]⟩:BA)++au)++(⟨#[124]⟩:BA))++ag)++(⟨#[41]⟩:BA)),(wrap64 (o - 1)),eA,eA,H',⟨by have:=aG.out;omega⟩,⟨wZ HB⟩⟩
    ·obtain rfl:=pd H;go_wp2;go_ret;exact⟨by first|rfl|(simp[iJ,iK]<;>rfl)|(simp only[←aF];first|rfl|(simp[iJ,iK]<;>rfl))|(simp[*,iJ,iK]<;>rfl),wZ HB⟩
 ·go_ret;exact⟨eF,wZ HB⟩
def gV.f:Nat→Int→Option (BA)
 |0,_=>none
 |k+1,a0=>if a0<10 then(some (strOfNums (([(wrap64 (48+a0))%256]:LI))))else((gV.f k (wrap64 (Int.tdiv a0 10))).bind fun av=>((some (([(wrap64 (48+(Int.tmod a0 10)))%256]:LI):LI)).bind fun aw=>(if av.size+(strOfNums aw).size≤9223372036854775807 then(some (av++(strOfNums aw)))else(none))))
theorem gV.hZ:∀k,(∀y0,lS (gV.f k y0) (gV.f (k+1) y0))
 |0=>fun _=> .z (by simp only[gV.f])
 |k+1=>by
  have i0:=gV.hZ k;exact fun _=>by unfold gV.f;infer_instance
instance gV.mo {k a0}:lS (gV.f k a0) (gV.f (k+1) a0):=(gV.hZ k) a0
theorem gV.mono:∀a0 k,LeO (gV.f k a0) (gV.f (k+1) a0):=fun _ _=>gV.mo.h
def gV.T3:Bool×List (List Nat×List Nat):=(true,[([],[]),([0],[0]),([1],[1]),([],[]),([3],[3]),([4],[4]),([5],[5]),([6],[6]),([7],[7]),([2,8],[2,8]),([9,2,0,1,2,3,4,5,6,7,8,9],[9])])
def gV.B3:List Nat:=[0,1,3,0,8,24,56,120,248,511,1023]
theorem gV.GP:rtab .any (opsOf Tryz.f58 3)=gV.T3:=by kernel_rfl
theorem gV.Fq:waitsOk gV.T3.2 gV.B3=true:=by kernel_rfl
theorem gV.calls (k:Nat):∀(a0:Int) (r:BA) (w:World) (h:gV.f k a0=some r),
  Calls Tryz.prog 58 #[.int .i64 a0] w fun e w'=>e= .returned (.string r)∧Below w.heap.size w w':=by
 induction k using Nat.strongRecOn with
 | _ k ih=>
 intro a0 r w h;cases k with
 |zero=>exact absurd h (by simp[gV.f])
 |succ k=>
 simp only[gV.f]at h;have HB:=bm (Below.refl w.heap.size w);have H:(if a0<10 then(some (strOfNums (([(wrap64 (48+a0))%256]:LI))))else((gV.f k (wrap64 (Int.tdiv a0 10))).bind fun av=>((some (([(wrap64 (48+(Int.tmod a0 10)))%256]:LI):LI)).bind fun aw=>(if av.size+(strOfNums aw).size≤9223372036854775807 then(some (av++(strOfNums aw)))else(none)))))=some r:=h;clear h;rcases pP H with⟨cC,H⟩|⟨cC,H⟩
 ·obtain⟨cD,bc⟩:∃y_:LI,y_=(([(wrap64 (48+a0))%256]:LI)):=⟨_,rfl⟩;rw[←bc]at H
  have bF:=bm bc;clear bc;obtain rfl:=pd H;go_enter Tryz.func58,Tryz.ntmps58;go_wp2_with (first|((with_reducible refine gate_dst (N:=8) rfl ?_);refine Kd.R_lit (Kd.int .u8) _ 5 ?hg (N:=8) ?hd (xs:=([(wrap64 (48+a0))%256]:LI)) (inner:=[.int .u8 ((wrap64 (48+a0))%256)]) (ok:=fun _=>True) (okp:=fun _=>True) ?hr ?hp (fun _ hk=>hk) trivial (Below.refl _ _) (Nat.le_refl _) (by simp) ?_;(case hd=>rfl);(case hg=>rfl);(case hr=>first|(go_simp;done)|(go_simp;rfl));(case hp=>exact(Reps.one (show Kd.M (Kd.int .u8) _ _ _ ((wrap64 (48+a0))%256) [.int .u8 ((wrap64 (48+a0))%256)] from rfl) (Reps.none _ _)));intro _ _ bH hb aE al;clear aE al;(first|rw[←bF.out]at bH|(simp only[Int.reduceToNat]at bH;rw[←bF.out]at bH));have cn:=rL bH HB;replace HB:=bW HB hb;clear hb bH;have dP:=own_string (P:=Tryz.prog) Tryz.underlying22 Tryz.underlying5 Tryz.underlying9 (Kd.own_of_R cn.out)));go_ret;exact⟨eF,wZ HB⟩
 ·obtain⟨av,A6,H⟩:=bE H;try dsimp only at H
  obtain⟨aw,bd⟩:∃y_:LI,y_=(([(wrap64 (48+(Int.tmod a0 10)))%256]:LI)):=⟨_,rfl⟩;rw[←bd]at H
  have aS:=bm bd;clear bd;obtain⟨c7,H⟩:=iN H;have bp:=pM c7;have b5:=pK c7;try have dQ:(9223372036854775807<av.size+(strOfNums aw).size)=False:=eq_false (Nat.not_lt.2 c7)
  obtain rfl:=pd H;go_enter Tryz.func58,Tryz.ntmps58;try go_wp2
  replace HB:=pL HB;refine start_ (n:=11) (S:=fun w'=>True) (ds:=[]) #[false,false,false,false,false,false,false,false,false,false,false] (by kernel_rfl) rfl rfl trivial (fun hHeld=>?_);refine with_tabW gV.GP gV.Fq (fun an bJ=>?_);generalize w.drew=w8 at HB hHeld⊢;refine pA 0 10 an ?_ ?_ ?_ ?_ (pA 1 11 an ?_ ?_ ?_ ?_ (pA 3 13 an ?_ ?_ ?_ ?_ (pA 4 14 an ?_ ?_ ?_ ?_ (pA 5 15 an ?_ ?_ ?_ ?_ (pA 6 16 an ?_ ?_ ?_ ?_ ?_)))))
  all_goals first|(intro w';go_simp;with_reducible rfl)|(simp only[Act.put,qA,qB,qC,i64_w,i32_w];rfl)|skip
  refine join_ (σ:=Value) 2 DN (fun s_=>[(12,.string av),(17,s_),(18,.string (strOfNums aw))]) (fun s_ w'=>(Kd.R (Kd.int .u8) 5 w' w.heap.size (fun _=>True) s_ aw)∧(Below w.heap.size w w')) ?_ ?_;rotate_left
  ·intro qU;refine two_ (i:=2) (j:=7) (Ni:=some 12) (Nj:=some 17) #[true,true,true,true,true,true,true,false,false,false,false] #[true,true,false,true,true,true,true,true,false,false,false] rfl rfl rfl rfl (two_of an.out (by kernel_rfl)) (by decide) (by decide) (fun K hK=>?_) (fun K hK=>?_)
   ·skip;refine gO Tryz.func58 #[.int .i64 (wrap64 (Int.tdiv a0 10))] rfl ?_;with_reducible refine(ih k (by omega) (wrap64 (Int.tdiv a0 10)) av _ A6.out).mono ?_
    rintro e _ ⟨rfl,hb⟩;refine⟨_,rfl,?_⟩;replace HB:=bW HB hb;clear hb;refine hK.out _ _ trivial (fun hHeld=>?_);clear hK K;refine pU 12 ?_
    refine oA 7 (some 17) an (fun K hK=>?_);refine Kd.R_lit_step (Kd.int .u8) _ 5 ?hg (N:=17) ?hd (xs:=([(wrap64 (48+(Int.tmod a0 10)))%256]:LI)) (inner:=[.int .u8 ((wrap64 (48+(Int.tmod a0 10)))%256)]) (ok:=fun _=>True) (okp:=fun _=>True) ?hr ?hp (fun _ hk=>hk) trivial (Below.refl _ _) (Nat.le_refl _) (by simp) ?_;(case hd=>rfl);(case hg=>rfl);(case hr=>first|(go_simp;done)|(go_simp;rfl));(case hp=>exact(Reps.one (show Kd.M (Kd.int .u8) _ _ _ ((wrap64 (48+(Int.tmod a0 10)))%256) [.int .u8 ((wrap64 (48+(Int.tmod a0 10)))%256)] from rfl) (Reps.none _ _)));intro aR _ aY hb aE al;clear aE al;(first|rw[←aS.out]at aY|(simp only[Int.reduceToNat]at aY;rw[←aS.out]at aY));have ao:=rL aY HB;replace HB:=bW HB hb;clear hb aY;refine hK.out _ _ trivial (fun hHeld=>?_);clear hK K;refine pU 17 ?_
    refine oA 8 (some 18) an (fun K hK=>?_);have bf:=own_string (P:=Tryz.prog) Tryz.underlying22 Tryz.underlying5 Tryz.underlying9 (Kd.own_of_R ao.out);refine value_ (w1:=?_) (v:=?_) (by rfl) rfl ?_ ?_;rotate_left 2
    ·go_simp;constructor
     ·rfl
     ·rfl
    clear bf;refine hK.out _ _ trivial (fun hHeld=>?_);clear hK K;refine pU 18 ?_
    exact norm_ (by simp only[putAll,Act.put,qA,qB,qC]) (qU (aR) _ ⟨(rS ao),(wZ HB)⟩)
   ·skip;refine Kd.R_lit_step (Kd.int .u8) _ 5 ?hg (N:=17) ?hd (xs:=([(wrap64 (48+(Int.tmod a0 10)))%256]:LI)) (inner:=[.int .u8 ((wrap64 (48+(Int.tmod a0 10)))%256)]) (ok:=fun _=>True) (okp:=fun _=>True) ?hr ?hp (fun _ hk=>hk) trivial (Below.refl _ _) (Nat.le_refl _) (by simp) ?_;(case hd=>rfl);(case hg=>rfl);(case hr=>first|(go_simp;done)|(go_simp;rfl));(case hp=>exact(Reps.one (show Kd.M (Kd.int .u8) _ _ _ ((wrap64 (48+(Int.tmod a0 10)))%256) [.int .u8 ((wrap64 (48+(Int.tmod a0 10)))%256)] from rfl) (Reps.none _ _)));intro aR _ aZ hb aE al;clear aE al;(first|rw[←aS.out]at aZ|(simp only[Int.reduceToNat]at aZ;rw[←aS.out]at aZ));have ao:=rL aZ HB;replace HB:=bW HB hb;clear hb aZ;refine hK.out _ _ trivial (fun hHeld=>?_);clear hK K;refine pU 17 ?_
    refine two_ (i:=2) (j:=8) (Ni:=some 12) (Nj:=some 18) DM #[true,true,false,true,true,true,true,true,true,false,false] rfl rfl rfl rfl (two_of an.out (by kernel_rfl)) (by decide) (by decide) (fun K hK=>?_) (fun K hK=>?_)
    ·skip;refine gO Tryz.func58 #[.int .i64 (wrap64 (Int.tdiv a0 10))] rfl ?_;with_reducible refine(ih k (by omega) (wrap64 (Int.tdiv a0 10)) av _ A6.out).mono ?_
     rintro e _ ⟨rfl,hb⟩;refine⟨_,rfl,?_⟩;replace ao:=bR ao hb;replace HB:=bW HB hb;clear hb;refine hK.out _ _ trivial (fun hHeld=>?_);clear hK K;refine pU 12 ?_
     refine oA 8 (some 18) an (fun K hK=>?_);have bf:=own_string (P:=Tryz.prog) Tryz.underlying22 Tryz.underlying5 Tryz.underlying9 (Kd.own_of_R ao.out);refine value_ (w1:=?_) (v:=?_) (by rfl) rfl ?_ ?_;rotate_left 2
     ·go_simp;constructor
      ·rfl
      ·rfl
     clear bf;refine hK.out _ _ trivial (fun hHeld=>?_);clear hK K;refine pU 18 ?_
     exact norm_ (by simp only[putAll,Act.put,qA,qB,qC]) (qU (aR) _ ⟨(rS ao),(wZ HB)⟩)
    ·skip;have cp:=own_string (P:=Tryz.prog) Tryz.underlying22 Tryz.underlying5 Tryz.underlying9 (Kd.own_of_R ao.out);refine value_ (w1:=?_) (v:=?_) (by rfl) rfl ?_ ?_;rotate_left 2
     ·go_simp;constructor
      ·rfl
      ·rfl
     clear cp;refine hK.out _ _ trivial (fun hHeld=>?_);clear hK K;refine pU 18 ?_
     refine oA 2 (some 12) an (fun K hK=>?_);refine gO Tryz.func58 #[.int .i64 (wrap64 (Int.tdiv a0 10))] rfl ?_;with_reducible refine(ih k (by omega) (wrap64 (Int.tdiv a0 10)) av _ A6.out).mono ?_
     rintro e _ ⟨rfl,hb⟩;refine⟨_,rfl,?_⟩;replace ao:=bR ao hb;replace HB:=bW HB hb;clear hb;refine hK.out _ _ trivial (fun hHeld=>?_);clear hK K;refine pU 12 ?_
     exact norm_ (by simp only[putAll,Act.put,qA,qB,qC]) (qU (aR) _ ⟨(rS ao),(wZ HB)⟩)
  rintro aR bl ⟨ak,cE⟩;have ao:hJ (Kd.R (Kd.int .u8) 5 bl w.heap.size (fun _=>True) aR aw):=⟨ak⟩;replace HB:hJ (Below w.heap.size w bl):=⟨cE⟩;clear ak cE;have hHeld:=trivial;refine norm_ (a':=?_) ?_ ?_;rotate_left
  ·simp only[putAll,Act.put,qA,qB,qC];rfl
  refine pA 9 19 an ?_ ?_ ?_ ?_ (pA 10 2 an ?_ ?_ ?_ ?_ ?_)
  all_goals first|(intro w';go_simp;with_reducible rfl)|(simp only[Act.put,qA,qB,qC,i64_w,i32_w];rfl)|skip
  refine done_ (done_of an.out (by kernel_rfl)) ?_;try go_wp2
  go_ret;exact⟨eF,wZ HB⟩
end Go.Proofs.YtigeaokfhnlkcaaGreatDoor.P
