import Derived.Test.YtihgpkohglcijaaGreatDoorPx0
import Derived.Test.YtihgpkohglcijaaGreatDoorPx15
import Derived.Test.YtihgpkohglcijaaGreatDoorPx18
import Derived.Test.YtihgpkohglcijaaGreatDoorPx19
namespace Go.Proofs.YtihgpkohglcijaaGreatDoor.P
open Go.RowKit Go.Proofs.YtihgpkohglcijaaGreatDoorW.PrintWords Go.Proofs.YtihgpkohglcijaaGreatDoorW.PrintLast Go.Proofs.YtihgpkohglcijaaGreatDoorW.PrintMore
attribute [local go_sem] max2_int min2_int max_two min_two max_three min_three max_four min_four   -- for this text's walks alone
set_option linter.unusedVariables false
set_option linter.unusedSimpArgs false
set_option maxHeartbeats 8000000
set_option maxRecDepth 100000
abbrev DD:Array Bool:= #[false,false,false,false,false,false,false,false,false,false,false,false,false]
def rD.f (k:Nat) (a0:Int) (l1:List Int):Option (Int):=(kc.f k a0 l1).bind fun aN=>(if aN=true then((qw.f a0).bind fun aA=>((kv.f k l1 aA).bind fun aO=>(some aO)))else(some (-1)))
instance rD.mo {k a0 a1}:qg (rD.f k a0 a1) (rD.f (k+1) a0 a1):=by unfold rD.f;infer_instance
theorem rD.calls (k:Nat) (a0:Int) (A1:Option Addr) (c1:Nat) (l1:List Int) (r:Int) (w:World) (cb:Kd.C (Kd.int .i64) w A1 l1.length l1) (cc:l1.length≤c1) (h:rD.f k a0 l1=some r):
  Calls Tryz.prog 48 #[.int .i64 a0,.slice A1 l1.length c1] w fun e w'=>e= .returned (.int .i64 r)∧Below w.heap.size w w':=by
 have bA:=bm cb;have bB:=bm cc;clear cb cc;have HB:=bm (Below.refl w.heap.size w);have H:=h;clear h;unfold rD.f at H;obtain⟨aN,A3,H⟩:=bE H;try dsimp only at H
 by_cases c4:aN=true
 ·subst c4;rw[if_pos rfl]at H;obtain⟨aA,A5,H⟩:=bE H;try dsimp only at H
  obtain⟨aO,A6,H⟩:=bE H;try dsimp only at H
  obtain rfl:=vU H;go_enter Tryz.func48,Tryz.ntmps48;go_wp2_with (first|(refine gB (some 7) Tryz.func103 #[.int .i64 a0,.slice A1 l1.length c1] rfl ?_;(with_reducible refine(kc.calls k a0 _ _ l1 true _ ?_ ?_ A3.out).mono ?_);exact cZ bA.out;exact bB.out;rintro e w7 ⟨rfl,hb⟩;refine⟨_,rfl,?_⟩;replace HB:=bW HB hb;clear hb)|(refine gB (some 11) Tryz.func105 #[.int .i64 a0] rfl ?_;(with_reducible refine(qw.calls a0 aA _ A5.out).mono ?_);rintro e w' ⟨rfl,⟨nd,rfl⟩⟩;refine⟨_,rfl,?_⟩)|(refine gB (some 12) Tryz.func104 #[.slice A1 l1.length c1,.int .i64 aA] rfl ?_;(with_reducible refine(kv.calls k _ _ l1 aA aO _ ?_ ?_ A6.out).mono ?_);exact cZ (Kd.C_below bA.out (wZ HB));exact bB.out;rintro e w8 ⟨rfl,hb⟩;refine⟨_,rfl,?_⟩;replace HB:=bW HB hb;clear hb));go_ret;exact vZ HB
 ·replace c4:=uZ c4;subst c4;rw[if_neg vM]at H;obtain rfl:=vU H;go_enter Tryz.func48,Tryz.ntmps48;go_wp2_with (first|(refine gB (some 7) Tryz.func103 #[.int .i64 a0,.slice A1 l1.length c1] rfl ?_;(with_reducible refine(kc.calls k a0 _ _ l1 false _ ?_ ?_ A3.out).mono ?_);exact cZ bA.out;exact bB.out;rintro e w9 ⟨rfl,hb⟩;refine⟨_,rfl,?_⟩;replace HB:=bW HB hb;clear hb));go_ret;exact vZ HB
def ox.l0:Nat→Int→ByteArray→Int→Option (ByteArray)
 |0,_,_,_=>none
 |k+1,x1,x5,x6=>if x6≥0 then((some (([(⟨#[33]⟩:ByteArray),(⟨#[]⟩:ByteArray)]:List ByteArray):List ByteArray)).bind fun J=>(if 0≤x6 then(if 0≤(Int.tmod (shr .i64 x1 x6) 2)then(if(Int.tmod (shr .i64 x1 x6) 2)<(J.length:Int)then((some (([(⟨#[97]⟩:ByteArray),(⟨#[98]⟩:ByteArray),(⟨#[99]⟩:ByteArray)]:List ByteArray):List ByteArray)).bind fun aa=>(if x6<(aa.length:Int)then(if(rdOf ByteArray.empty J (Int.tmod (shr .i64 x1 x6) 2)).size+(rdOf ByteArray.empty aa x6).size≤9223372036854775807 then(if x5.toList=([]:List UInt8)then(ox.l0 k x1 ((rdOf ByteArray.empty J (Int.tmod (shr .i64 x1 x6) 2))++(rdOf ByteArray.empty aa x6)) (wrap64 (x6 - 1)))else(if 1+((rdOf ByteArray.empty J (Int.tmod (shr .i64 x1 x6) 2))++(rdOf ByteArray.empty aa x6)).size≤9223372036854775807 then(if((⟨#[40]⟩:ByteArray)++((rdOf ByteArray.empty J (Int.tmod (shr .i64 x1 x6) 2))++(rdOf ByteArray.empty aa x6))).size+1≤9223372036854775807 then(if(((⟨#[40]⟩:ByteArray)++((rdOf ByteArray.empty J (Int.tmod (shr .i64 x1 x6) 2))++(rdOf ByteArray.empty aa x6)))++(⟨#[38]⟩:ByteArray)).size+x5.size≤9223372036854775807 then(if((((⟨#[40]⟩:ByteArray)++((rdOf ByteArray.empty J (Int.tmod (shr .i64 x1 x6) 2))++(rdOf ByteArray.empty aa x6)))++(⟨#[38]⟩:ByteArray))++x5).size+1≤9223372036854775807 then(ox.l0 k x1 (((((⟨#[40]⟩:ByteArray)++((rdOf ByteArray.empty J (Int.tmod (shr .i64 x1 x6) 2))++(rdOf ByteArray.empty aa x6)))++(⟨#[38]⟩:ByteArray))++x5)++(⟨#[41]⟩:ByteArray)) (wrap64 (x6 - 1)))else(none))else(none))else(none))else(none)))else(none))else(none)))else(none))else(none))else(none)))else(some x5)
def ox.f (k:Nat) (a0:Int) (a1:Int):Option (ByteArray):=ox.l0 k a1 (⟨#[]⟩:ByteArray) (wrap64 (a0 - 1))
theorem ox.jQ:∀k,(∀y0 y1 y2,qg (ox.l0 k y0 y1 y2) (ox.l0 (k+1) y0 y1 y2))
 |0=>fun _ _ _=> .z (by simp only[ox.l0])
 |k+1=>by
  have i0:=ox.jQ k;exact fun _ _ _=>by unfold ox.l0;infer_instance
instance ox.mo {k a0 a1}:qg (ox.f k a0 a1) (ox.f (k+1) a0 a1):=by have i0:=ox.jQ k;unfold ox.f;infer_instance
def ox.T5:Bool×List (List Nat×List Nat):=(true,[([],[]),([],[]),([],[]),([1,2],[1,2]),([3],[3]),([0,4],[0,4]),([5],[5]),([],[]),([],[]),([7,8],[7,8]),([9],[9]),([6,10],[6,10]),([11,0,1,2,3,4,5,6,7,8,9,10,11],[11])])
def ox.B5:List Nat:=[0,0,0,6,14,31,63,0,0,384,896,2047,4095]
theorem ox.AO:rtab .any (opsOf Tryz.f108 5)=ox.T5:=by kernel_rfl
theorem ox.yz:waitsOk ox.T5.2 ox.B5=true:=by kernel_rfl
theorem ox.calls (k:Nat) (a0:Int) (a1:Int) (r:ByteArray) (w:World) (h:ox.f k a0 a1=some r):
  Calls Tryz.prog 108 #[.int .i64 a0,.int .i64 a1] w fun e w'=>e= .returned (.string r)∧Below w.heap.size w w':=by
 have HB:=bm (Below.refl w.heap.size w);have H:=h;clear h;unfold ox.f at H;have H':=bm H;clear H;go_enter Tryz.func108,Tryz.ntmps108;go_wp2;go_loopg [5,6] k (fun kq v5 v6 w'=>∃(af:ByteArray) (j:Int),v5= .string af∧v6= .int .i64 j∧jX (ox.l0 kq a1 af j=some r)∧jX (kq≤k)∧jX (Below w.heap.size w w'))
 case atStart=>exact⟨((⟨#[]⟩:ByteArray)),(wrap64 (a0 - 1)),(by first|rfl|(simp;done)|(simp[*];done)),(by first|rfl|(simp;done)|(simp[*];done)),H',⟨Nat.le_refl _⟩,⟨wZ HB⟩⟩
 case round=>
  clear H';obtain⟨af,j,rfl,rfl,HA,aB,HB⟩:=hrel;cases gk with
  |zero=>exact absurd HA.out (by simp[ox.l0])
  |succ k1=>
   have H:=HA.out;clear HA;simp only[ox.l0]at H;rcases vG H with⟨cd,H⟩|⟨cd,H⟩
   ·obtain⟨J,ax,H⟩:=bY H;obtain⟨dv,dw,H⟩:=vF H;obtain⟨aC,a6⟩:∃j_:Int,(shr .i64 a1 j)=j_:=⟨_,rfl⟩;first|rw[a6]at H|simp only[a6]at H
    have ct:(a1/2^min j.toNat 64)=aC:=a6;have cu:j≤64→(a1/2^j.toNat)=aC:=shr_small a6;obtain⟨ab,a7⟩:∃j_:Int,(Int.tmod (aC) 2)=j_:=⟨_,rfl⟩;first|rw[a7]at H|simp only[a7]at H
    obtain⟨bz,H⟩:=vE H;obtain⟨cf,H⟩:=vE H;obtain⟨aa,ay,H⟩:=bY H;obtain⟨dx,H⟩:=vE H;obtain⟨c10,H⟩:=iN H;have bd:=vD c10;have cv:=vC c10;try have cw:(9223372036854775807<(rdOf ByteArray.empty J (ab)).size+(rdOf ByteArray.empty aa j).size)=False:=eq_false (Nat.not_lt.2 c10)
    rcases iT H with⟨ba,H⟩|⟨ba,H⟩
    ·obtain⟨bD,bF⟩:=vW ba;clear ba;have H':=bm H;clear H;try go_wp2
     have aT:(0≤((ab):Int))=True:=vD (pG);have aU:((ab)<(J.length:Int))=True:=vD (pG);have aV:(0≤(j:Int))=True:=vD (pG);have aW:(j<(aa.length:Int))=True:=vD (pG);replace HB:=bm (xO HB.out);refine start_ (n:=13) (S:=fun w'=>True) (ds:=[]) DD (by kernel_rfl) rfl rfl trivial (fun hHeld=>?_);refine with_tabW ox.AO ox.yz (fun aM bH=>?_);generalize wr.drew=dD at HB hHeld⊢;refine pA 1 15 aM ?_ ?_ ?_ ?_ (pA 2 16 aM ?_ ?_ ?_ ?_ (pA 8 22 aM ?_ ?_ ?_ ?_ ?_))
     all_goals first|(intro w';go_simp;with_reducible rfl)|(simp only[Act.put,qA,qB,qC,i64_w,i32_w];rfl)|skip
     refine inv_at [0,3,4,5,6,7,9,10,11,12] (fun bJ b a w'=>∃(o:Value) (pw:Addr) (I:Value) (py:Addr) (ad:Value) (ae:Value),a=putSel bJ b [(0,14,o),(3,17,.int .i64 aC),(4,18,.int .i64 ab),(5,19,ad),(6,20,.string (rdOf ByteArray.empty J (ab))),(7,21,I),(9,23,ae),(10,24,.string (rdOf ByteArray.empty aa j)),(11,25,.string ((rdOf ByteArray.empty J (ab))++(rdOf ByteArray.empty aa j))),(12,7,.string ((rdOf ByteArray.empty J (ab))++(rdOf ByteArray.empty aa j)))]∧(Below w.heap.size w w')∧(b 0=true→Kd.R Kd.string 9 w' w.heap.size (fun _=>True) o J)∧(b 0=true→∃c_,(o:Value)= .slice (some pw) J.length c_)∧(b 7=true→Kd.R Kd.string 9 w' w.heap.size (fun _=>True) I aa)∧(b 7=true→∃c_,(I:Value)= .slice (some py) aa.length c_)∧(b 5=true→(ad:Value)= .pointer (some (pw.add ((ab)).toNat)))∧(b 9=true→(ae:Value)= .pointer (some (py.add (j).toNat)))) aM.out bH.out (by kernel_rfl) (by kernel_rfl) ?_ ?_ ?_
     ·exact⟨.bool false,⟨0,0,none⟩,.bool false,⟨0,0,none⟩,.bool false,.bool false,by simp only[putSel,Bool.false_eq_true,if_false],HB.out,fun h_=>absurd h_ (by decide),fun h_=>absurd h_ (by decide),fun h_=>absurd h_ (by decide),fun h_=>absurd h_ (by decide),fun h_=>absurd h_ (by decide),fun h_=>absurd h_ (by decide)⟩
     ·skip;clear HB;refine steps_cons ?_ ?_
      ·rintro b a w' ⟨o,pw,I,py,ad,ae,ha,rO,pH,kX,pI,kY,rW,rL⟩ xm hon hoff;refine⟨_,rfl,fun K hK=>?_⟩;replace ha:=bm ha;have HB:=bm rO;refine Kd.R_lit_step Kd.string _ 9 ?hg (N:=14) ?hd (xs:=([(⟨#[33]⟩:ByteArray),(⟨#[]⟩:ByteArray)]:List ByteArray)) (inner:=[.string (⟨#[33]⟩:ByteArray),.string (⟨#[]⟩:ByteArray)]) (ok:=fun _=>True) (okp:=fun _=>True) ?hr ?hp (fun _ hk=>hk) trivial (Below.refl _ _) (Nat.le_refl _) (by simp) ?_;(case hd=>rfl);(case hg=>rfl);(case hr=>first|(go_simp;done)|(go_simp;rfl));(case hp=>exact(Reps.one (show Kd.M Kd.string _ _ _ (⟨#[33]⟩:ByteArray) [.string (⟨#[33]⟩:ByteArray)] from rfl) (Reps.one (show Kd.M Kd.string _ _ _ (⟨#[]⟩:ByteArray) [.string (⟨#[]⟩:ByteArray)] from rfl) (Reps.none _ _))));intro o bO ak hb aY aq;clear aY aq;(first|rw[←ax.out]at ak|(simp only[Int.reduceToNat]at ak;rw[←ax.out]at ak));have aD:=vX ak HB;have aE:=bW HB hb;have Ae:=fun(aj:b 7=true)=>(show Kd.R Kd.string 9 bO w.heap.size (fun _=>True) I aa from by first|exact(Kd.R_elder' (by(repeat apply Kd.RS);exact(pI aj)) (Kd.R_base ak) hb)|exact Kd.R_mono (Kd.R_elder' (by(repeat apply Kd.RS);exact(pI aj)) (Kd.R_base ak) hb) (fun _ h_=>by first|trivial|exact h_|exact h_.1))
       clear HB;have ag:=aD;have HB:=aE;clear aD aE hb ak;obtain⟨cg,bf,bg⟩:=Kd.R_slice ag.out;subst bg;obtain⟨aF,bh,_⟩:=Kd.at_string (Kd.R_reads' ag.out).2.2 0 (by decide) (by rw[ax.out];simp);cases bh;refine hK.out _ _ ⟨.slice (some aF) J.length bf,aF,I,py,ad,ae,(by rw[ha.out];exact putSel_upk 0 xm rfl rfl rfl),(wZ HB),fun _=>(rS ag),fun _=>⟨_,rfl⟩,Ae,kY,fun aj=>absurd ((hoff 5 (by kernel_rfl)).symm.trans aj) (by decide),rL⟩
      refine steps_cons ?_ ?_
      ·rintro b a w' ⟨o,pw,I,py,ad,ae,ha,rO,pH,kX,pI,kY,rW,rL⟩ xm hon hoff;refine⟨_,rfl,fun K hK=>?_⟩;have cx:a.tmps[15]?=some (.int .i64 a1):=by rw[ha];exact(putSel_off rfl).trans rfl
       have cy:a.tmps[16]?=some (.int .i64 j):=by rw[ha];exact(putSel_off rfl).trans rfl
       replace ha:=bm ha;have HB:=bm rO;refine value_ (w1:=w') (v:=.int .i64 aC) (by rfl) rfl ?_ ?_
       ·go_simp;(try simp only[i64_w]);try rfl
       refine hK.out _ _ ⟨o,pw,I,py,ad,ae,(by rw[ha.out];exact putSel_upk 1 xm rfl rfl rfl),rO,pH,kX,pI,kY,fun aj=>absurd ((hoff 5 (by kernel_rfl)).symm.trans aj) (by decide),rL⟩
      refine steps_cons ?_ ?_
      ·rintro b a w' ⟨o,pw,I,py,ad,ae,ha,rO,pH,kX,pI,kY,rW,rL⟩ xm hon hoff;refine⟨_,rfl,fun K hK=>?_⟩;have cz:a.tmps[17]?=some (.int .i64 aC):=by rw[ha];exact putSel_on (e:=(3,17,.int .i64 aC)) 1 rfl rfl (hon 3 (by kernel_rfl)) rfl
       replace ha:=bm ha;have HB:=bm rO;refine value_ (w1:=w') (v:=.int .i64 ab) (by rfl) rfl ?_ ?_
       ·go_simp;(try simp only[i64_w]);try rfl
       refine hK.out _ _ ⟨o,pw,I,py,ad,ae,(by rw[ha.out];exact putSel_upk 2 xm rfl rfl rfl),rO,pH,kX,pI,kY,fun aj=>absurd ((hoff 5 (by kernel_rfl)).symm.trans aj) (by decide),rL⟩
      refine steps_cons ?_ ?_
      ·rintro b a w' ⟨o,pw,I,py,ad,ae,ha,rO,pH,kX,pI,kY,rW,rL⟩ xm hon hoff;refine⟨_,rfl,fun K hK=>?_⟩;have bT:a.tmps[14]?=some (o):=by rw[ha];exact putSel_on (e:=(0,14,o)) 0 rfl rfl (hon 0 (by kernel_rfl)) rfl
       have cA:a.tmps[18]?=some (.int .i64 ab):=by rw[ha];exact putSel_on (e:=(4,18,.int .i64 ab)) 2 rfl rfl (hon 4 (by kernel_rfl)) rfl
       replace ha:=bm ha;have HB:=bm rO;have ag:=bm (pH (hon 0 (by kernel_rfl)));have rX:=bm (kX (hon 0 (by kernel_rfl)));obtain⟨c_,ar⟩:=rX.out;rw[ar]at bT;refine value_ (w1:=w') (v:=.pointer (some (pw.add ((ab)).toNat))) (by rfl) rfl ?_ ?_
       ·go_simp;(try simp only[i64_w]);try rfl
       refine hK.out _ _ ⟨o,pw,I,py,(.pointer (some (pw.add ((ab)).toNat))),ae,(by rw[ha.out];exact putSel_upk 3 xm rfl rfl rfl),rO,pH,kX,pI,kY,fun _=>rfl,rL⟩
      refine steps_cons ?_ ?_
      ·rintro b a w' ⟨o,pw,I,py,ad,ae,ha,rO,pH,kX,pI,kY,rW,rL⟩ xm hon hoff;refine⟨_,rfl,fun K hK=>?_⟩;have bV:a.tmps[19]?=some (ad):=by rw[ha];exact putSel_on (e:=(5,19,ad)) 3 rfl rfl (hon 5 (by kernel_rfl)) rfl
       rw[rW (hon 5 (by kernel_rfl))]at bV;replace ha:=bm ha;have HB:=bm rO;have ag:=bm (pH (hon 0 (by kernel_rfl)));have rX:=bm (kX (hon 0 (by kernel_rfl)));obtain⟨c_,ar⟩:=rX.out;have DE:=ag.out;rw[ar]at DE;obtain⟨Jq,xR,bZ⟩:=Kd.at_string (Kd.R_reads' DE).2.2 (ab) (of_eq_true aT) (of_eq_true aU);cases xR;refine value_ (w1:=w') (v:=.string (rdOf ByteArray.empty J (ab))) (by rfl) rfl ?_ ?_
       ·go_simp;(try simp only[i64_w]);try rfl
       refine hK.out _ _ ⟨o,pw,I,py,ad,ae,(by rw[ha.out];exact putSel_upk 4 xm rfl rfl rfl),rO,pH,kX,pI,kY,rW,rL⟩
      refine steps_cons ?_ ?_
      ·rintro b a w' ⟨o,pw,I,py,ad,ae,ha,rO,pH,kX,pI,kY,rW,rL⟩ xm hon hoff;refine⟨_,rfl,fun K hK=>?_⟩;replace ha:=bm ha;have HB:=bm rO;refine Kd.R_lit_step Kd.string _ 9 ?hg (N:=21) ?hd (xs:=([(⟨#[97]⟩:ByteArray),(⟨#[98]⟩:ByteArray),(⟨#[99]⟩:ByteArray)]:List ByteArray)) (inner:=[.string (⟨#[97]⟩:ByteArray),.string (⟨#[98]⟩:ByteArray),.string (⟨#[99]⟩:ByteArray)]) (ok:=fun _=>True) (okp:=fun _=>True) ?hr ?hp (fun _ hk=>hk) trivial (Below.refl _ _) (Nat.le_refl _) (by simp) ?_;(case hd=>rfl);(case hg=>rfl);(case hr=>first|(go_simp;done)|(go_simp;rfl));(case hp=>exact(Reps.one (show Kd.M Kd.string _ _ _ (⟨#[97]⟩:ByteArray) [.string (⟨#[97]⟩:ByteArray)] from rfl) (Reps.one (show Kd.M Kd.string _ _ _ (⟨#[98]⟩:ByteArray) [.string (⟨#[98]⟩:ByteArray)] from rfl) (Reps.one (show Kd.M Kd.string _ _ _ (⟨#[99]⟩:ByteArray) [.string (⟨#[99]⟩:ByteArray)] from rfl) (Reps.none _ _)))));intro I bO ak hb aY aq;clear aY aq;(first|rw[←ay.out]at ak|(simp only[Int.reduceToNat]at ak;rw[←ay.out]at ak));have aD:=vX ak HB;have aE:=bW HB hb;have Af:=fun(aj:b 0=true)=>(show Kd.R Kd.string 9 bO w.heap.size (fun _=>True) o J from by first|exact(Kd.R_elder' (by(repeat apply Kd.RS);exact(pH aj)) (Kd.R_base ak) hb)|exact Kd.R_mono (Kd.R_elder' (by(repeat apply Kd.RS);exact(pH aj)) (Kd.R_base ak) hb) (fun _ h_=>by first|trivial|exact h_|exact h_.1))
       clear HB;have ah:=aD;have HB:=aE;clear aD aE hb ak;obtain⟨cg,bf,bg⟩:=Kd.R_slice ah.out;subst bg;obtain⟨aF,bh,_⟩:=Kd.at_string (Kd.R_reads' ah.out).2.2 0 (by decide) (by rw[ay.out];simp);cases bh;refine hK.out _ _ ⟨o,pw,.slice (some aF) aa.length bf,aF,ad,ae,(by rw[ha.out];exact putSel_upk 5 xm rfl rfl rfl),(wZ HB),Af,kX,fun _=>(rS ah),fun _=>⟨_,rfl⟩,rW,fun aj=>absurd ((hoff 9 (by kernel_rfl)).symm.trans aj) (by decide)⟩
      refine steps_cons ?_ ?_
      ·rintro b a w' ⟨o,pw,I,py,ad,ae,ha,rO,pH,kX,pI,kY,rW,rL⟩ xm hon hoff;refine⟨_,rfl,fun K hK=>?_⟩;have b0:a.tmps[21]?=some (I):=by rw[ha];exact putSel_on (e:=(7,21,I)) 5 rfl rfl (hon 7 (by kernel_rfl)) rfl
       have cB:a.tmps[22]?=some (.int .i64 j):=by rw[ha];exact(putSel_off rfl).trans rfl
       replace ha:=bm ha;have HB:=bm rO;have ah:=bm (pI (hon 7 (by kernel_rfl)));have rY:=bm (kY (hon 7 (by kernel_rfl)));obtain⟨c_,ar⟩:=rY.out;rw[ar]at b0;refine value_ (w1:=w') (v:=.pointer (some (py.add (j).toNat))) (by rfl) rfl ?_ ?_
       ·go_simp;(try simp only[i64_w]);try rfl
       refine hK.out _ _ ⟨o,pw,I,py,ad,(.pointer (some (py.add (j).toNat))),(by rw[ha.out];exact putSel_upk 6 xm rfl rfl rfl),rO,pH,kX,pI,kY,rW,fun _=>rfl⟩
      refine steps_cons ?_ ?_
      ·rintro b a w' ⟨o,pw,I,py,ad,ae,ha,rO,pH,kX,pI,kY,rW,rL⟩ xm hon hoff;refine⟨_,rfl,fun K hK=>?_⟩;have b1:a.tmps[23]?=some (ae):=by rw[ha];exact putSel_on (e:=(9,23,ae)) 6 rfl rfl (hon 9 (by kernel_rfl)) rfl
       rw[rL (hon 9 (by kernel_rfl))]at b1;replace ha:=bm ha;have HB:=bm rO;have ah:=bm (pI (hon 7 (by kernel_rfl)));have rY:=bm (kY (hon 7 (by kernel_rfl)));obtain⟨c_,ar⟩:=rY.out;have DE:=ah.out;rw[ar]at DE;obtain⟨Jq,xR,bZ⟩:=Kd.at_string (Kd.R_reads' DE).2.2 j (of_eq_true aV) (of_eq_true aW);cases xR;refine value_ (w1:=w') (v:=.string (rdOf ByteArray.empty aa j)) (by rfl) rfl ?_ ?_
       ·go_simp;(try simp only[i64_w]);try rfl
       refine hK.out _ _ ⟨o,pw,I,py,ad,ae,(by rw[ha.out];exact putSel_upk 7 xm rfl rfl rfl),rO,pH,kX,pI,kY,rW,rL⟩
      refine steps_cons ?_ ?_
      ·rintro b a w' ⟨o,pw,I,py,ad,ae,ha,rO,pH,kX,pI,kY,rW,rL⟩ xm hon hoff;refine⟨_,rfl,fun K hK=>?_⟩;have cC:a.tmps[20]?=some (.string (rdOf ByteArray.empty J (ab))):=by rw[ha];exact putSel_on (e:=(6,20,.string (rdOf ByteArray.empty J (ab)))) 4 rfl rfl (hon 6 (by kernel_rfl)) rfl
       have cD:a.tmps[24]?=some (.string (rdOf ByteArray.empty aa j)):=by rw[ha];exact putSel_on (e:=(10,24,.string (rdOf ByteArray.empty aa j))) 7 rfl rfl (hon 10 (by kernel_rfl)) rfl
       replace ha:=bm ha;have HB:=bm rO;have ag:=bm (pH (hon 0 (by kernel_rfl)));have rX:=bm (kX (hon 0 (by kernel_rfl)));have ah:=bm (pI (hon 7 (by kernel_rfl)));have rY:=bm (kY (hon 7 (by kernel_rfl)));refine value_ (w1:=w') (v:=.string ((rdOf ByteArray.empty J (ab))++(rdOf ByteArray.empty aa j))) (by rfl) rfl ?_ ?_
       ·go_simp;(try simp only[i64_w]);try rfl
       refine hK.out _ _ ⟨o,pw,I,py,ad,ae,(by rw[ha.out];exact putSel_upk 8 xm rfl rfl rfl),rO,pH,kX,pI,kY,rW,rL⟩
      refine steps_cons ?_ ?_
      ·rintro b a w' ⟨o,pw,I,py,ad,ae,ha,rO,pH,kX,pI,kY,rW,rL⟩ xm hon hoff;refine⟨_,rfl,fun K hK=>?_⟩;have cE:a.tmps[25]?=some (.string ((rdOf ByteArray.empty J (ab))++(rdOf ByteArray.empty aa j))):=by rw[ha];exact putSel_on (e:=(11,25,.string ((rdOf ByteArray.empty J (ab))++(rdOf ByteArray.empty aa j)))) 8 rfl rfl (hon 11 (by kernel_rfl)) rfl
       replace ha:=bm ha;have HB:=bm rO;have ag:=bm (pH (hon 0 (by kernel_rfl)));have rX:=bm (kX (hon 0 (by kernel_rfl)));have ah:=bm (pI (hon 7 (by kernel_rfl)));have rY:=bm (kY (hon 7 (by kernel_rfl)));refine value_ (w1:=w') (v:=.string ((rdOf ByteArray.empty J (ab))++(rdOf ByteArray.empty aa j))) (by rfl) rfl ?_ ?_
       ·go_simp;(try simp only[i64_w]);try rfl
       refine hK.out _ _ ⟨o,pw,I,py,ad,ae,(by rw[ha.out];exact putSel_upk 9 xm rfl rfl rfl),rO,pH,kX,pI,kY,rW,rL⟩
      exact steps_nil
     rintro b a dE ai ⟨o,pw,I,py,ad,ae,ha,rO,pH,kX,pI,kY,rW,rL⟩;clear HB;have au:=ai 0 (by kernel_rfl);have aP:=ai 3 (by kernel_rfl);have aQ:=ai 4 (by kernel_rfl);have aG:=ai 5 (by kernel_rfl);have aR:=ai 6 (by kernel_rfl);have av:=ai 7 (by kernel_rfl);have aH:=ai 9 (by kernel_rfl);have aI:=ai 10 (by kernel_rfl);have aJ:=ai 11 (by kernel_rfl);have aK:=ai 12 (by kernel_rfl);subst ha;obtain rfl:=rW aG;obtain rfl:=rL aH;simp only[putSel,au,aP,aQ,aG,aR,av,aH,aI,aJ,aK,if_true,Act.put,qA,qB,qC];have HB:=bm rO;clear rO;have ag:=bm (pH au);clear pH;have rX:=bm (kX au);clear kX;have ah:=bm (pI av);clear pI;have rY:=bm (kY av);clear kY ai au aP aQ aG aR av aH aI aJ aK;obtain⟨dy,ch⟩:=rX.out;clear rX;subst ch;obtain⟨dz,cj⟩:=rY.out;clear rY;subst cj;try go_wp2
     go_roundg k1
     case measure=>have:=aB.out;omega
     case rel=>exact⟨((rdOf ByteArray.empty J (ab))++(rdOf ByteArray.empty aa j)),(wrap64 (j - 1)),(by first|rfl|(simp;done)|(simp only[←a7]<;>(first|rfl|simp))|(simp[*];done)),(by first|rfl|(simp;done)|(simp[*];done)),H',⟨by have:=aB.out;omega⟩,⟨wZ HB⟩⟩
    ·obtain⟨bD,bF⟩:=vV ba;obtain⟨bp,H⟩:=iN H;have cF:=vD bp;have cG:=vC bp;try have cH:(9223372036854775807<1+((rdOf ByteArray.empty J (ab))++(rdOf ByteArray.empty aa j)).size)=False:=eq_false (Nat.not_lt.2 bp)
     (try have cI:(9223372036854775807<1+((rdOf ByteArray.empty J (ab)).size+(rdOf ByteArray.empty aa j).size))=False:=eq_false (by have h_:=bp;(repeat rw[ByteArray.size_append]at h_);exact Nat.not_lt.2 h_));obtain⟨bq,H⟩:=iN H;have cJ:=vD bq;have cK:=vC bq;try have cL:(9223372036854775807<((⟨#[40]⟩:ByteArray)++((rdOf ByteArray.empty J (ab))++(rdOf ByteArray.empty aa j))).size+1)=False:=eq_false (Nat.not_lt.2 bq)
     (try have cM:(9223372036854775807<1+((rdOf ByteArray.empty J (ab)).size+(rdOf ByteArray.empty aa j).size)+1)=False:=eq_false (by have h_:=bq;(repeat rw[ByteArray.size_append]at h_);exact Nat.not_lt.2 h_));obtain⟨br,H⟩:=iN H;have cN:=vD br;have cO:=vC br;try have cP:(9223372036854775807<(((⟨#[40]⟩:ByteArray)++((rdOf ByteArray.empty J (ab))++(rdOf ByteArray.empty aa j)))++(⟨#[38]⟩:ByteArray)).size+af.size)=False:=eq_false (Nat.not_lt.2 br)
     (try have cQ:(9223372036854775807<1+((rdOf ByteArray.empty J (ab)).size+(rdOf ByteArray.empty aa j).size)+1+af.size)=False:=eq_false (by have h_:=br;(repeat rw[ByteArray.size_append]at h_);exact Nat.not_lt.2 h_));obtain⟨bs,H⟩:=iN H;have cR:=vD bs;have cS:=vC bs;try have cT:(9223372036854775807<((((⟨#[40]⟩:ByteArray)++((rdOf ByteArray.empty J (ab))++(rdOf ByteArray.empty aa j)))++(⟨#[38]⟩:ByteArray))++af).size+1)=False:=eq_false (Nat.not_lt.2 bs)
     (try have cU:(9223372036854775807<1+((rdOf ByteArray.empty J (ab)).size+(rdOf ByteArray.empty aa j).size)+1+af.size+1)=False:=eq_false (by have h_:=bs;(repeat rw[ByteArray.size_append]at h_);exact Nat.not_lt.2 h_));have H':=bm H;clear H;try go_wp2
     have aT:(0≤((ab):Int))=True:=vD (pG);have aU:((ab)<(J.length:Int))=True:=vD (pG);have aV:(0≤(j:Int))=True:=vD (pG);have aW:(j<(aa.length:Int))=True:=vD (pG);replace HB:=bm (xO HB.out);refine start_ (n:=13) (S:=fun w'=>True) (ds:=[]) DD (by kernel_rfl) rfl rfl trivial (fun hHeld=>?_);refine with_tabW ox.AO ox.yz (fun aM bH=>?_);generalize wr.drew=dF at HB hHeld⊢;refine pA 1 15 aM ?_ ?_ ?_ ?_ (pA 2 16 aM ?_ ?_ ?_ ?_ (pA 8 22 aM ?_ ?_ ?_ ?_ ?_))
     all_goals first|(intro w';go_simp;with_reducible rfl)|(simp only[Act.put,qA,qB,qC,i64_w,i32_w];rfl)|skip
     refine inv_at [0,3,4,5,6,7,9,10,11,12] (fun bJ b a w'=>∃(o:Value) (pw:Addr) (I:Value) (py:Addr) (ad:Value) (ae:Value),a=putSel bJ b [(0,14,o),(3,17,.int .i64 aC),(4,18,.int .i64 ab),(5,19,ad),(6,20,.string (rdOf ByteArray.empty J (ab))),(7,21,I),(9,23,ae),(10,24,.string (rdOf ByteArray.empty aa j)),(11,25,.string ((rdOf ByteArray.empty J (ab))++(rdOf ByteArray.empty aa j))),(12,7,.string ((rdOf ByteArray.empty J (ab))++(rdOf ByteArray.empty aa j)))]∧(Below w.heap.size w w')∧(b 0=true→Kd.R Kd.string 9 w' w.heap.size (fun _=>True) o J)∧(b 0=true→∃c_,(o:Value)= .slice (some pw) J.length c_)∧(b 7=true→Kd.R Kd.string 9 w' w.heap.size (fun _=>True) I aa)∧(b 7=true→∃c_,(I:Value)= .slice (some py) aa.length c_)∧(b 5=true→(ad:Value)= .pointer (some (pw.add ((ab)).toNat)))∧(b 9=true→(ae:Value)= .pointer (some (py.add (j).toNat)))) aM.out bH.out (by kernel_rfl) (by kernel_rfl) ?_ ?_ ?_
     ·exact⟨.bool false,⟨0,0,none⟩,.bool false,⟨0,0,none⟩,.bool false,.bool false,by simp only[putSel,Bool.false_eq_true,if_false],HB.out,fun h_=>absurd h_ (by decide),fun h_=>absurd h_ (by decide),fun h_=>absurd h_ (by decide),fun h_=>absurd h_ (by decide),fun h_=>absurd h_ (by decide),fun h_=>absurd h_ (by decide)⟩
     ·skip;clear HB;refine steps_cons ?_ ?_
      ·rintro b a w' ⟨o,pw,I,py,ad,ae,ha,rO,pH,kX,pI,kY,rW,rL⟩ xm hon hoff;refine⟨_,rfl,fun K hK=>?_⟩;replace ha:=bm ha;have HB:=bm rO;refine Kd.R_lit_step Kd.string _ 9 ?hg (N:=14) ?hd (xs:=([(⟨#[33]⟩:ByteArray),(⟨#[]⟩:ByteArray)]:List ByteArray)) (inner:=[.string (⟨#[33]⟩:ByteArray),.string (⟨#[]⟩:ByteArray)]) (ok:=fun _=>True) (okp:=fun _=>True) ?hr ?hp (fun _ hk=>hk) trivial (Below.refl _ _) (Nat.le_refl _) (by simp) ?_;(case hd=>rfl);(case hg=>rfl);(case hr=>first|(go_simp;done)|(go_simp;rfl));(case hp=>exact(Reps.one (show Kd.M Kd.string _ _ _ (⟨#[33]⟩:ByteArray) [.string (⟨#[33]⟩:ByteArray)] from rfl) (Reps.one (show Kd.M Kd.string _ _ _ (⟨#[]⟩:ByteArray) [.string (⟨#[]⟩:ByteArray)] from rfl) (Reps.none _ _))));intro o b4 al hb aY aq;clear aY aq;(first|rw[←ax.out]at al|(simp only[Int.reduceToNat]at al;rw[←ax.out]at al));have aD:=vX al HB;have aE:=bW HB hb;have Ae:=fun(aj:b 7=true)=>(show Kd.R Kd.string 9 b4 w.heap.size (fun _=>True) I aa from by first|exact(Kd.R_elder' (by(repeat apply Kd.RS);exact(pI aj)) (Kd.R_base al) hb)|exact Kd.R_mono (Kd.R_elder' (by(repeat apply Kd.RS);exact(pI aj)) (Kd.R_base al) hb) (fun _ h_=>by first|trivial|exact h_|exact h_.1))
       clear HB;have ag:=aD;have HB:=aE;clear aD aE hb al;obtain⟨ck,bj,bk⟩:=Kd.R_slice ag.out;subst bk;obtain⟨aL,bl,_⟩:=Kd.at_string (Kd.R_reads' ag.out).2.2 0 (by decide) (by rw[ax.out];simp);cases bl;refine hK.out _ _ ⟨.slice (some aL) J.length bj,aL,I,py,ad,ae,(by rw[ha.out];exact putSel_upk 0 xm rfl rfl rfl),(wZ HB),fun _=>(rS ag),fun _=>⟨_,rfl⟩,Ae,kY,fun aj=>absurd ((hoff 5 (by kernel_rfl)).symm.trans aj) (by decide),rL⟩
      refine steps_cons ?_ ?_
      ·rintro b a w' ⟨o,pw,I,py,ad,ae,ha,rO,pH,kX,pI,kY,rW,rL⟩ xm hon hoff;refine⟨_,rfl,fun K hK=>?_⟩;have cx:a.tmps[15]?=some (.int .i64 a1):=by rw[ha];exact(putSel_off rfl).trans rfl
       have cy:a.tmps[16]?=some (.int .i64 j):=by rw[ha];exact(putSel_off rfl).trans rfl
       replace ha:=bm ha;have HB:=bm rO;refine value_ (w1:=w') (v:=.int .i64 aC) (by rfl) rfl ?_ ?_
       ·go_simp;(try simp only[i64_w]);try rfl
       refine hK.out _ _ ⟨o,pw,I,py,ad,ae,(by rw[ha.out];exact putSel_upk 1 xm rfl rfl rfl),rO,pH,kX,pI,kY,fun aj=>absurd ((hoff 5 (by kernel_rfl)).symm.trans aj) (by decide),rL⟩
      refine steps_cons ?_ ?_
      ·rintro b a w' ⟨o,pw,I,py,ad,ae,ha,rO,pH,kX,pI,kY,rW,rL⟩ xm hon hoff;refine⟨_,rfl,fun K hK=>?_⟩;have cz:a.tmps[17]?=some (.int .i64 aC):=by rw[ha];exact putSel_on (e:=(3,17,.int .i64 aC)) 1 rfl rfl (hon 3 (by kernel_rfl)) rfl
       replace ha:=bm ha;have HB:=bm rO;refine value_ (w1:=w') (v:=.int .i64 ab) (by rfl) rfl ?_ ?_
       ·go_simp;(try simp only[i64_w]);try rfl
       refine hK.out _ _ ⟨o,pw,I,py,ad,ae,(by rw[ha.out];exact putSel_upk 2 xm rfl rfl rfl),rO,pH,kX,pI,kY,fun aj=>absurd ((hoff 5 (by kernel_rfl)).symm.trans aj) (by decide),rL⟩
      refine steps_cons ?_ ?_
      ·rintro b a w' ⟨o,pw,I,py,ad,ae,ha,rO,pH,kX,pI,kY,rW,rL⟩ xm hon hoff;refine⟨_,rfl,fun K hK=>?_⟩;have bT:a.tmps[14]?=some (o):=by rw[ha];exact putSel_on (e:=(0,14,o)) 0 rfl rfl (hon 0 (by kernel_rfl)) rfl
       have cA:a.tmps[18]?=some (.int .i64 ab):=by rw[ha];exact putSel_on (e:=(4,18,.int .i64 ab)) 2 rfl rfl (hon 4 (by kernel_rfl)) rfl
       replace ha:=bm ha;have HB:=bm rO;have ag:=bm (pH (hon 0 (by kernel_rfl)));have rX:=bm (kX (hon 0 (by kernel_rfl)));obtain⟨c_,ar⟩:=rX.out;rw[ar]at bT;refine value_ (w1:=w') (v:=.pointer (some (pw.add ((ab)).toNat))) (by rfl) rfl ?_ ?_
       ·go_simp;(try simp only[i64_w]);try rfl
       refine hK.out _ _ ⟨o,pw,I,py,(.pointer (some (pw.add ((ab)).toNat))),ae,(by rw[ha.out];exact putSel_upk 3 xm rfl rfl rfl),rO,pH,kX,pI,kY,fun _=>rfl,rL⟩
      refine steps_cons ?_ ?_
      ·rintro b a w' ⟨o,pw,I,py,ad,ae,ha,rO,pH,kX,pI,kY,rW,rL⟩ xm hon hoff;refine⟨_,rfl,fun K hK=>?_⟩;have bV:a.tmps[19]?=some (ad):=by rw[ha];exact putSel_on (e:=(5,19,ad)) 3 rfl rfl (hon 5 (by kernel_rfl)) rfl
       rw[rW (hon 5 (by kernel_rfl))]at bV;replace ha:=bm ha;have HB:=bm rO;have ag:=bm (pH (hon 0 (by kernel_rfl)));have rX:=bm (kX (hon 0 (by kernel_rfl)));obtain⟨c_,ar⟩:=rX.out;have DE:=ag.out;rw[ar]at DE;obtain⟨Jq,xR,bZ⟩:=Kd.at_string (Kd.R_reads' DE).2.2 (ab) (of_eq_true aT) (of_eq_true aU);cases xR;refine value_ (w1:=w') (v:=.string (rdOf ByteArray.empty J (ab))) (by rfl) rfl ?_ ?_
       ·go_simp;(try simp only[i64_w]);try rfl
       refine hK.out _ _ ⟨o,pw,I,py,ad,ae,(by rw[ha.out];exact putSel_upk 4 xm rfl rfl rfl),rO,pH,kX,pI,kY,rW,rL⟩
      refine steps_cons ?_ ?_
      ·rintro b a w' ⟨o,pw,I,py,ad,ae,ha,rO,pH,kX,pI,kY,rW,rL⟩ xm hon hoff;refine⟨_,rfl,fun K hK=>?_⟩;replace ha:=bm ha;have HB:=bm rO;refine Kd.R_lit_step Kd.string _ 9 ?hg (N:=21) ?hd (xs:=([(⟨#[97]⟩:ByteArray),(⟨#[98]⟩:ByteArray),(⟨#[99]⟩:ByteArray)]:List ByteArray)) (inner:=[.string (⟨#[97]⟩:ByteArray),.string (⟨#[98]⟩:ByteArray),.string (⟨#[99]⟩:ByteArray)]) (ok:=fun _=>True) (okp:=fun _=>True) ?hr ?hp (fun _ hk=>hk) trivial (Below.refl _ _) (Nat.le_refl _) (by simp) ?_;(case hd=>rfl);(case hg=>rfl);(case hr=>first|(go_simp;done)|(go_simp;rfl));(case hp=>exact(Reps.one (show Kd.M Kd.string _ _ _ (⟨#[97]⟩:ByteArray) [.string (⟨#[97]⟩:ByteArray)] from rfl) (Reps.one (show Kd.M Kd.string _ _ _ (⟨#[98]⟩:ByteArray) [.string (⟨#[98]⟩:ByteArray)] from rfl) (Reps.one (show Kd.M Kd.string _ _ _ (⟨#[99]⟩:ByteArray) [.string (⟨#[99]⟩:ByteArray)] from rfl) (Reps.none _ _)))));intro I b4 al hb aY aq;clear aY aq;(first|rw[←ay.out]at al|(simp only[Int.reduceToNat]at al;rw[←ay.out]at al));have aD:=vX al HB;have aE:=bW HB hb;have Af:=fun(aj:b 0=true)=>(show Kd.R Kd.string 9 b4 w.heap.size (fun _=>True) o J from by first|exact(Kd.R_elder' (by(repeat apply Kd.RS);exact(pH aj)) (Kd.R_base al) hb)|exact Kd.R_mono (Kd.R_elder' (by(repeat apply Kd.RS);exact(pH aj)) (Kd.R_base al) hb) (fun _ h_=>by first|trivial|exact h_|exact h_.1))
       clear HB;have ah:=aD;have HB:=aE;clear aD aE hb al;obtain⟨ck,bj,bk⟩:=Kd.R_slice ah.out;subst bk;obtain⟨aL,bl,_⟩:=Kd.at_string (Kd.R_reads' ah.out).2.2 0 (by decide) (by rw[ay.out];simp);cases bl;refine hK.out _ _ ⟨o,pw,.slice (some aL) aa.length bj,aL,ad,ae,(by rw[ha.out];exact putSel_upk 5 xm rfl rfl rfl),(wZ HB),Af,kX,fun _=>(rS ah),fun _=>⟨_,rfl⟩,rW,fun aj=>absurd ((hoff 9 (by kernel_rfl)).symm.trans aj) (by decide)⟩
      refine steps_cons ?_ ?_
      ·rintro b a w' ⟨o,pw,I,py,ad,ae,ha,rO,pH,kX,pI,kY,rW,rL⟩ xm hon hoff;refine⟨_,rfl,fun K hK=>?_⟩;have b0:a.tmps[21]?=some (I):=by rw[ha];exact putSel_on (e:=(7,21,I)) 5 rfl rfl (hon 7 (by kernel_rfl)) rfl
       have cB:a.tmps[22]?=some (.int .i64 j):=by rw[ha];exact(putSel_off rfl).trans rfl
       replace ha:=bm ha;have HB:=bm rO;have ah:=bm (pI (hon 7 (by kernel_rfl)));have rY:=bm (kY (hon 7 (by kernel_rfl)));obtain⟨c_,ar⟩:=rY.out;rw[ar]at b0;refine value_ (w1:=w') (v:=.pointer (some (py.add (j).toNat))) (by rfl) rfl ?_ ?_
       ·go_simp;(try simp only[i64_w]);try rfl
       refine hK.out _ _ ⟨o,pw,I,py,ad,(.pointer (some (py.add (j).toNat))),(by rw[ha.out];exact putSel_upk 6 xm rfl rfl rfl),rO,pH,kX,pI,kY,rW,fun _=>rfl⟩
      refine steps_cons ?_ ?_
      ·rintro b a w' ⟨o,pw,I,py,ad,ae,ha,rO,pH,kX,pI,kY,rW,rL⟩ xm hon hoff;refine⟨_,rfl,fun K hK=>?_⟩;have b1:a.tmps[23]?=some (ae):=by rw[ha];exact putSel_on (e:=(9,23,ae)) 6 rfl rfl (hon 9 (by kernel_rfl)) rfl
       rw[rL (hon 9 (by kernel_rfl))]at b1;replace ha:=bm ha;have HB:=bm rO;have ah:=bm (pI (hon 7 (by kernel_rfl)));have rY:=bm (kY (hon 7 (by kernel_rfl)));obtain⟨c_,ar⟩:=rY.out;have DE:=ah.out;rw[ar]at DE;obtain⟨Jq,xR,bZ⟩:=Kd.at_string (Kd.R_reads' DE).2.2 j (of_eq_true aV) (of_eq_true aW);cases xR;refine value_ (w1:=w') (v:=.string (rdOf ByteArray.empty aa j)) (by rfl) rfl ?_ ?_
       ·go_simp;(try simp only[i64_w]);try rfl
       refine hK.out _ _ ⟨o,pw,I,py,ad,ae,(by rw[ha.out];exact putSel_upk 7 xm rfl rfl rfl),rO,pH,kX,pI,kY,rW,rL⟩
      refine steps_cons ?_ ?_
      ·rintro b a w' ⟨o,pw,I,py,ad,ae,ha,rO,pH,kX,pI,kY,rW,rL⟩ xm hon hoff;refine⟨_,rfl,fun K hK=>?_⟩;have cC:a.tmps[20]?=some (.string (rdOf ByteArray.empty J (ab))):=by rw[ha];exact putSel_on (e:=(6,20,.string (rdOf ByteArray.empty J (ab)))) 4 rfl rfl (hon 6 (by kernel_rfl)) rfl
       have cD:a.tmps[24]?=some (.string (rdOf ByteArray.empty aa j)):=by rw[ha];exact putSel_on (e:=(10,24,.string (rdOf ByteArray.empty aa j))) 7 rfl rfl (hon 10 (by kernel_rfl)) rfl
       replace ha:=bm ha;have HB:=bm rO;have ag:=bm (pH (hon 0 (by kernel_rfl)));have rX:=bm (kX (hon 0 (by kernel_rfl)));have ah:=bm (pI (hon 7 (by kernel_rfl)));have rY:=bm (kY (hon 7 (by kernel_rfl)));refine value_ (w1:=w') (v:=.string ((rdOf ByteArray.empty J (ab))++(rdOf ByteArray.empty aa j))) (by rfl) rfl ?_ ?_
       ·go_simp;(try simp only[i64_w]);try rfl
       refine hK.out _ _ ⟨o,pw,I,py,ad,ae,(by rw[ha.out];exact putSel_upk 8 xm rfl rfl rfl),rO,pH,kX,pI,kY,rW,rL⟩
      refine steps_cons ?_ ?_
      ·rintro b a w' ⟨o,pw,I,py,ad,ae,ha,rO,pH,kX,pI,kY,rW,rL⟩ xm hon hoff;refine⟨_,rfl,fun K hK=>?_⟩;have cE:a.tmps[25]?=some (.string ((rdOf ByteArray.empty J (ab))++(rdOf ByteArray.empty aa j))):=by rw[ha];exact putSel_on (e:=(11,25,.string ((rdOf ByteArray.empty J (ab))++(rdOf ByteArray.empty aa j)))) 8 rfl rfl (hon 11 (by kernel_rfl)) rfl
       replace ha:=bm ha;have HB:=bm rO;have ag:=bm (pH (hon 0 (by kernel_rfl)));have rX:=bm (kX (hon 0 (by kernel_rfl)));have ah:=bm (pI (hon 7 (by kernel_rfl)));have rY:=bm (kY (hon 7 (by kernel_rfl)));refine value_ (w1:=w') (v:=.string ((rdOf ByteArray.empty J (ab))++(rdOf ByteArray.empty aa j))) (by rfl) rfl ?_ ?_
       ·go_simp;(try simp only[i64_w]);try rfl
       refine hK.out _ _ ⟨o,pw,I,py,ad,ae,(by rw[ha.out];exact putSel_upk 9 xm rfl rfl rfl),rO,pH,kX,pI,kY,rW,rL⟩
      exact steps_nil
     rintro b a dG ai ⟨o,pw,I,py,ad,ae,ha,rO,pH,kX,pI,kY,rW,rL⟩;clear HB;have au:=ai 0 (by kernel_rfl);have aP:=ai 3 (by kernel_rfl);have aQ:=ai 4 (by kernel_rfl);have aG:=ai 5 (by kernel_rfl);have aR:=ai 6 (by kernel_rfl);have av:=ai 7 (by kernel_rfl);have aH:=ai 9 (by kernel_rfl);have aI:=ai 10 (by kernel_rfl);have aJ:=ai 11 (by kernel_rfl);have aK:=ai 12 (by kernel_rfl);subst ha;obtain rfl:=rW aG;obtain rfl:=rL aH;simp only[putSel,au,aP,aQ,aG,aR,av,aH,aI,aJ,aK,if_true,Act.put,qA,qB,qC];have HB:=bm rO;clear rO;have ag:=bm (pH au);clear pH;have rX:=bm (kX au);clear kX;have ah:=bm (pI av);clear pI;have rY:=bm (kY av);clear kY ai au aP aQ aG aR av aH aI aJ aK;obtain⟨dA,cl⟩:=rX.out;clear rX;subst cl;obtain⟨dB,cm⟩:=rY.out;clear rY;subst cm;try go_wp2
     go_roundg k1
     case measure=>have:=aB.out;omega
     case rel=>exact⟨(((((⟨#[40]⟩:ByteArray)++((rdOf ByteArray.empty J (ab))++(rdOf ByteArray.empty aa j)))++(⟨#[38]⟩:ByteArray))++af)++(⟨#[41]⟩:ByteArray)),(wrap64 (j - 1)),(by first|rfl|(simp;done)|(simp only[←a7]<;>(first|rfl|simp))|(simp[*];done)),(by first|rfl|(simp;done)|(simp[*];done)),H',⟨by have:=aB.out;omega⟩,⟨wZ HB⟩⟩
   ·obtain rfl:=vU H;go_wp2;go_ret;exact vZ HB
def ks.l0:Nat→Int→Int→ByteArray→Int→Option (ByteArray)
 |0,_,_,_,_=>none
 |k+1,x0,x1,x5,x6=>if x6≥0 then((pV.f x1 x6).bind fun aw=>(if aw=0 then(ks.l0 k x0 x1 x5 (wrap64 (x6 - 1)))else(if x5.toList=([]:List UInt8)then((ox.f k x0 x6).bind fun a8=>(ks.l0 k x0 x1 a8 (wrap64 (x6 - 1))))else((ox.f k x0 x6).bind fun an=>(if 1+an.size≤9223372036854775807 then(if((⟨#[40]⟩:ByteArray)++an).size+1≤9223372036854775807 then(if(((⟨#[40]⟩:ByteArray)++an)++(⟨#[124]⟩:ByteArray)).size+x5.size≤9223372036854775807 then(if((((⟨#[40]⟩:ByteArray)++an)++(⟨#[124]⟩:ByteArray))++x5).size+1≤9223372036854775807 then(ks.l0 k x0 x1 (((((⟨#[40]⟩:ByteArray)++an)++(⟨#[124]⟩:ByteArray))++x5)++(⟨#[41]⟩:ByteArray)) (wrap64 (x6 - 1)))else(none))else(none))else(none))else(none))))))else(some x5)
def ks.f (k:Nat) (a0:Int) (a1:Int):Option (ByteArray):=(oD.f a0 a1).bind fun aS=>(if aS=true then(if a1=0 then(some (⟨#[48]⟩:ByteArray))else((qw.f a0).bind fun ao=>(if a1=ao then(some (⟨#[49]⟩:ByteArray))else(if 0≤a0 then(ks.l0 k a0 a1 (⟨#[]⟩:ByteArray) (wrap64 ((shl .i64 1 a0) - 1)))else(none)))))else(some (⟨#[]⟩:ByteArray)))
theorem ks.jQ:∀k,(∀y0 y1 y2 y3,qg (ks.l0 k y0 y1 y2 y3) (ks.l0 (k+1) y0 y1 y2 y3))
 |0=>fun _ _ _ _=> .z (by simp only[ks.l0])
 |k+1=>by
  have i0:=ks.jQ k;exact fun _ _ _ _=>by unfold ks.l0;infer_instance
instance ks.mo {k a0 a1}:qg (ks.f k a0 a1) (ks.f (k+1) a0 a1):=by have i0:=ks.jQ k;unfold ks.f;infer_instance
theorem ks.mono:∀a0 a1 k,LeO (ks.f k a0 a1) (ks.f (k+1) a0 a1):=fun _ _ _=>ks.mo.h
theorem ks.calls (k:Nat) (a0:Int) (a1:Int) (r:ByteArray) (w:World) (h:ks.f k a0 a1=some r):
  Calls Tryz.prog 49 #[.int .i64 a0,.int .i64 a1] w fun e w'=>e= .returned (.string r)∧Below w.heap.size w w':=by
 have HB:=bm (Below.refl w.heap.size w);have H:=h;clear h;unfold ks.f at H;obtain⟨aS,A3,H⟩:=bE H;try dsimp only at H
 by_cases c4:aS=true
 ·subst c4;rw[if_pos rfl]at H;rcases iT H with⟨c5,H⟩|⟨c5,H⟩
  ·obtain⟨cn,cp⟩:=vW c5;clear c5;obtain rfl:=vU H;go_enter Tryz.func49,Tryz.ntmps49;go_wp2_with (first|(refine gB (some 9) Tryz.func106 #[.int .i64 a0,.int .i64 a1] rfl ?_;(with_reducible refine(oD.calls a0 a1 true _ A3.out).mono ?_);rintro e w' ⟨rfl,⟨nd,rfl⟩⟩;refine⟨_,rfl,?_⟩));go_ret;exact vZ HB
  ·obtain⟨cn,cp⟩:=vV c5;obtain⟨ao,A6,H⟩:=bE H;try dsimp only at H
   rcases iT H with⟨c7,H⟩|⟨c7,H⟩
   ·obtain⟨bz,cq⟩:=vW c7;clear c7;obtain rfl:=vU H;go_enter Tryz.func49,Tryz.ntmps49;go_wp2_with (first|(refine gB (some 9) Tryz.func106 #[.int .i64 a0,.int .i64 a1] rfl ?_;(with_reducible refine(oD.calls a0 a1 true _ A3.out).mono ?_);rintro e w' ⟨rfl,⟨nd,rfl⟩⟩;refine⟨_,rfl,?_⟩)|(refine gB (some 15) Tryz.func105 #[.int .i64 a0] rfl ?_;(with_reducible refine(qw.calls a0 ao _ A6.out).mono ?_);rintro e w' ⟨rfl,⟨nd,rfl⟩⟩;refine⟨_,rfl,?_⟩));go_ret;exact vZ HB
   ·obtain⟨bz,cq⟩:=vV c7;obtain⟨cf,dC,H⟩:=vF H;obtain⟨aZ,az⟩:∃j_:Int,(shl .i64 1 a0)=j_:=⟨_,rfl⟩;first|rw[az]at H|simp only[az]at H
    (try rw[az]at A3);(try rw[az]at A6);have bn:(IntKind.i64.wrap (1*2^min a0.toNat 64))=aZ:=az;have bo:a0≤64→(IntKind.i64.wrap (1*2^a0.toNat))=aZ:=shl_small az;have cV:(IntKind.i64.wrap (2^min a0.toNat 64))=aZ:=by have h_:=bn;rw[Int.one_mul]at h_;exact h_
    have cW:a0≤64→(IntKind.i64.wrap (2^a0.toNat))=aZ:=fun cr=>by have h_:=bo cr;rw[Int.one_mul]at h_;exact h_
    have cX:(wrap64 (1*2^min a0.toNat 64))=aZ:=(i64_w _).symm.trans bn;have c0:a0≤64→(wrap64 (1*2^a0.toNat))=aZ:=fun h_=>(i64_w _).symm.trans (bo h_)
    have H':=bm H;clear H;go_enter Tryz.func49,Tryz.ntmps49;go_wp2_with (first|(refine gB (some 9) Tryz.func106 #[.int .i64 a0,.int .i64 a1] rfl ?_;(with_reducible refine(oD.calls a0 a1 true _ A3.out).mono ?_);rintro e w' ⟨rfl,⟨nd,rfl⟩⟩;refine⟨_,rfl,?_⟩)|(refine gB (some 15) Tryz.func105 #[.int .i64 a0] rfl ?_;(with_reducible refine(qw.calls a0 ao _ A6.out).mono ?_);rintro e w' ⟨rfl,⟨nd,rfl⟩⟩;refine⟨_,rfl,?_⟩));go_loopg [5,6] k (fun kq v5 v6 w'=>∃(af:ByteArray) (j:Int),v5= .string af∧v6= .int .i64 j∧jX (ks.l0 kq a0 a1 af j=some r)∧jX (kq≤k)∧jX (Below w.heap.size w w'))
    case atStart=>exact⟨((⟨#[]⟩:ByteArray)),(wrap64 ((aZ) - 1)),(by first|rfl|(simp;done)|(simp[*];done)),(by first|rfl|(simp;done)|(simp only[←az]<;>(first|rfl|simp))|(simp[*];done)),H',⟨Nat.le_refl _⟩,⟨wZ HB⟩⟩
    case round=>
     clear H';obtain⟨af,j,rfl,rfl,HA,aB,HB⟩:=hrel;cases gk with
     |zero=>exact absurd HA.out (by simp[ks.l0])
     |succ k1=>
      have H:=HA.out;clear HA;simp only[ks.l0]at H;rcases vG H with⟨bd,H⟩|⟨bd,H⟩
      ·obtain⟨aw,b5,H⟩:=bE H;try dsimp only at H
       rcases iT H with⟨bb,H⟩|⟨bb,H⟩
       ·obtain⟨b6,b7⟩:=vW bb;clear bb;have H':=bm H;clear H;go_wp2_with (first|(refine gB (some 26) Tryz.func107 #[.int .i64 a1,.int .i64 j] rfl ?_;(with_reducible refine(pV.calls a1 j aw _ b5.out).mono ?_);rintro e w' ⟨rfl,⟨nd,rfl⟩⟩;refine⟨_,rfl,?_⟩));go_roundg k1
        case measure=>have:=aB.out;omega
        case rel=>exact⟨(af),(wrap64 (j - 1)),(by first|rfl|(simp;done)|(simp[*];done)),(by first|rfl|(simp;done)|(simp[*];done)),H',⟨by have:=aB.out;omega⟩,⟨wZ HB⟩⟩
       ·obtain⟨b6,b7⟩:=vV bb;rcases iT H with⟨bc,H⟩|⟨bc,H⟩
        ·obtain⟨b8,b9⟩:=vW bc;clear bc;obtain⟨a8,da,H⟩:=bE H;try dsimp only at H
         have H':=bm H;clear H;go_wp2_with (first|(refine gB (some 26) Tryz.func107 #[.int .i64 a1,.int .i64 j] rfl ?_;(with_reducible refine(pV.calls a1 j aw _ b5.out).mono ?_);rintro e w' ⟨rfl,⟨nd,rfl⟩⟩;refine⟨_,rfl,?_⟩)|(refine gB (some 32) Tryz.func108 #[.int .i64 a0,.int .i64 j] rfl ?_;(with_reducible refine(ox.calls k1 a0 j a8 _ da.out).mono ?_);rintro e dH ⟨rfl,hb⟩;refine⟨_,rfl,?_⟩;replace HB:=bW HB hb;clear hb));go_roundg k1
         case measure=>have:=aB.out;omega
         case rel=>exact⟨(a8),(wrap64 (j - 1)),(by first|rfl|(simp;done)|(simp[*];done)),(by first|rfl|(simp;done)|(simp[*];done)),H',⟨by have:=aB.out;omega⟩,⟨wZ HB⟩⟩
        ·obtain⟨b8,b9⟩:=vV bc;obtain⟨an,db,H⟩:=bE H;try dsimp only at H
         obtain⟨ca,H⟩:=iN H;have dc:=vD ca;have dd:=vC ca;try have de:(9223372036854775807<1+an.size)=False:=eq_false (Nat.not_lt.2 ca)
         obtain⟨bu,H⟩:=iN H;have df:=vD bu;have dh:=vC bu;try have di:(9223372036854775807<((⟨#[40]⟩:ByteArray)++an).size+1)=False:=eq_false (Nat.not_lt.2 bu)
         (try have dj:(9223372036854775807<1+an.size+1)=False:=eq_false (by have h_:=bu;(repeat rw[ByteArray.size_append]at h_);exact Nat.not_lt.2 h_));obtain⟨bw,H⟩:=iN H;have dk:=vD bw;have dm:=vC bw;try have dn:(9223372036854775807<(((⟨#[40]⟩:ByteArray)++an)++(⟨#[124]⟩:ByteArray)).size+af.size)=False:=eq_false (Nat.not_lt.2 bw)
         (try have dp:(9223372036854775807<1+an.size+1+af.size)=False:=eq_false (by have h_:=bw;(repeat rw[ByteArray.size_append]at h_);exact Nat.not_lt.2 h_));obtain⟨bx,H⟩:=iN H;have dq:=vD bx;have dr:=vC bx;try have dt:(9223372036854775807<((((⟨#[40]⟩:ByteArray)++an)++(⟨#[124]⟩:ByteArray))++af).size+1)=False:=eq_false (Nat.not_lt.2 bx)
         (try have du:(9223372036854775807<1+an.size+1+af.size+1)=False:=eq_false (by have h_:=bx;(repeat rw[ByteArray.size_append]at h_);exact Nat.not_lt.2 h_));have H':=bm H;clear H;go_wp2_with (first|(refine gB (some 26) Tryz.func107 #[.int .i64 a1,.int .i64 j] rfl ?_;(with_reducible refine(pV.calls a1 j aw _ b5.out).mono ?_);rintro e w' ⟨rfl,⟨nd,rfl⟩⟩;refine⟨_,rfl,?_⟩)|(refine gB (some 35) Tryz.func108 #[.int .i64 a0,.int .i64 j] rfl ?_;(with_reducible refine(ox.calls k1 a0 j an _ db.out).mono ?_);rintro e dI ⟨rfl,hb⟩;refine⟨_,rfl,?_⟩;replace HB:=bW HB hb;clear hb));go_roundg k1
         case measure=>have:=aB.out;omega
         case rel=>exact⟨(((((⟨#[40]⟩:ByteArray)++an)++(⟨#[124]⟩:ByteArray))++af)++(⟨#[41]⟩:ByteArray)),(wrap64 (j - 1)),(by first|rfl|(simp;done)|(simp[*];done)),(by first|rfl|(simp;done)|(simp[*];done)),H',⟨by have:=aB.out;omega⟩,⟨wZ HB⟩⟩
      ·obtain rfl:=vU H;go_wp2;go_ret;exact⟨by first|rfl|(simp[jS,jT]<;>rfl)|(simp only[←az];first|rfl|(simp[jS,jT]<;>rfl))|(simp[*,jS,jT]<;>rfl),wZ HB⟩
 ·replace c4:=uZ c4;subst c4;rw[if_neg vM]at H;obtain rfl:=vU H;go_enter Tryz.func49,Tryz.ntmps49;go_wp2_with (first|(refine gB (some 9) Tryz.func106 #[.int .i64 a0,.int .i64 a1] rfl ?_;(with_reducible refine(oD.calls a0 a1 false _ A3.out).mono ?_);rintro e w' ⟨rfl,⟨nd,rfl⟩⟩;refine⟨_,rfl,?_⟩));go_ret;exact vZ HB
end Go.Proofs.YtihgpkohglcijaaGreatDoor.P
