import Derived.Test.YtihgpkohglcijaaGreatDoorPx0
import Derived.Test.YtihgpkohglcijaaGreatDoorPx15
namespace Go.Proofs.YtihgpkohglcijaaGreatDoor.P
open Go.RowKit Go.Proofs.YtihgpkohglcijaaGreatDoorW.PrintWords Go.Proofs.YtihgpkohglcijaaGreatDoorW.PrintLast Go.Proofs.YtihgpkohglcijaaGreatDoorW.PrintMore
attribute [local go_sem] max2_int min2_int max_two min_two max_three min_three max_four min_four   -- for this text's walks alone
set_option linter.unusedVariables false
set_option linter.unusedSimpArgs false
set_option maxHeartbeats 8000000
set_option maxRecDepth 100000
abbrev DB:Array Bool:= #[false,false,false,false,false,false,false,false,false]
def oN.l0:Nat→List Int→List Int→Int→Option (Bool)
 |0,_,_,_=>none
 |k+1,x1,x5,x6=>if x6<(x5.length:Int)then(if 0≤x6 then(if x6<(x1.length:Int)then(if(rd x5 x6)=(rd x1 x6)then(oN.l0 k x1 x5 (wrap64 (x6+1)))else(some false))else(none))else(none))else(some true)
def oN.f (k:Nat) (a0:Int) (l1:List Int):Option (Bool):=(kc.f k a0 l1).bind fun aF=>(if aF=true then((jP.f k a0 l1).bind fun af=>(oN.l0 k l1 af 0))else(some false))
theorem oN.jQ:∀k,(∀y0 y1 y2,qg (oN.l0 k y0 y1 y2) (oN.l0 (k+1) y0 y1 y2))
 |0=>fun _ _ _=> .z (by simp only[oN.l0])
 |k+1=>by
  have i0:=oN.jQ k;exact fun _ _ _=>by unfold oN.l0;infer_instance
instance oN.mo {k a0 a1}:qg (oN.f k a0 a1) (oN.f (k+1) a0 a1):=by have i0:=oN.jQ k;unfold oN.f;infer_instance
theorem oN.calls (k:Nat) (a0:Int) (A1:Option Addr) (c1:Nat) (l1:List Int) (r:Bool) (w:World) (bf:Kd.C (Kd.int .i64) w A1 l1.length l1) (bg:l1.length≤c1) (h:oN.f k a0 l1=some r):
  Calls Tryz.prog 62 #[.int .i64 a0,.slice A1 l1.length c1] w fun e w'=>e= .returned (.bool r)∧Below w.heap.size w w':=by
 have au:=bm bf;have aE:=bm bg;clear bf bg;have HB:=bm (Below.refl w.heap.size w);have H:=h;clear h;unfold oN.f at H;obtain⟨aF,A3,H⟩:=bE H;try dsimp only at H
 by_cases c4:aF=true
 ·subst c4;rw[if_pos rfl]at H;obtain⟨af,A5,H⟩:=bE H;try dsimp only at H
  have H':=bm H;clear H;go_enter Tryz.func62,Tryz.ntmps62;go_wp2_with (first|(go_at_call 103;(with_reducible refine(kc.calls k a0 _ _ l1 true _ ?_ ?_ A3.out).mono ?_);exact cZ au.out;exact aE.out;rintro e w6 ⟨rfl,hb⟩;replace HB:=bW HB hb;clear hb)|(go_at_call 114;(with_reducible refine(jP.calls k a0 _ _ l1 af _ ?_ ?_ A5.out).mono ?_);exact cY au HB;exact aE.out;rintro e w7 ⟨aL,rfl,aG,hb⟩;have aH:=vX aG HB;replace HB:=bW HB hb;clear hb;(try clear aG)));repeat(go_quiet (first|(go_at_call 103;(with_reducible refine(kc.calls k a0 _ _ l1 true _ ?_ ?_ A3.out).mono ?_);exact cZ au.out;exact aE.out;rintro e w6 ⟨rfl,hb⟩;replace HB:=bW HB hb;clear hb)|(go_at_call 114;(with_reducible refine(jP.calls k a0 _ _ l1 af _ ?_ ?_ A5.out).mono ?_);exact cY au HB;exact aE.out;rintro e w7 ⟨aL,rfl,aG,hb⟩;have aH:=vX aG HB;replace HB:=bW HB hb;clear hb;(try clear aG)));try go_wp2_with (first|(go_at_call 103;(with_reducible refine(kc.calls k a0 _ _ l1 true _ ?_ ?_ A3.out).mono ?_);exact cZ au.out;exact aE.out;rintro e w6 ⟨rfl,hb⟩;replace HB:=bW HB hb;clear hb)|(go_at_call 114;(with_reducible refine(jP.calls k a0 _ _ l1 af _ ?_ ?_ A5.out).mono ?_);exact cY au HB;exact aE.out;rintro e w7 ⟨aL,rfl,aG,hb⟩;have aH:=vX aG HB;replace HB:=bW HB hb;clear hb;(try clear aG))))
  go_loopg [6] k (fun kq v6 w'=>∃(o:Int),v6= .int .i64 o∧jX (oN.l0 kq l1 af o=some r)∧jX (kq≤k)∧jX (Kd.R (Kd.int .i64) 3 w' w.heap.size (fun _=>True) aL af)∧jX (Below w.heap.size w w'))
  case atStart=>exact⟨(0),(by first|rfl|(simp;done)|(simp[*];done)),H',⟨Nat.le_refl _⟩,⟨by(repeat apply Kd.RS);exact aH.out⟩,⟨wZ HB⟩⟩
  case round=>
   clear H';obtain⟨o,rfl,HA,aM,qL,HB⟩:=hrel;cases gk with
   |zero=>exact absurd HA.out (by simp[oN.l0])
   |succ k1=>
    have H:=HA.out;clear HA;simp only[oN.l0]at H;rcases vG H with⟨bh,H⟩|⟨bh,H⟩
    ·obtain⟨ck,H⟩:=vE H;obtain⟨cg,H⟩:=vE H;rcases iT H with⟨aK,H⟩|⟨aK,H⟩
     ·obtain⟨ba,bb⟩:=vW aK;clear aK;have H':=bm H;clear H;obtain⟨cl,cm,bj⟩:=Kd.R_slice qL.out;subst bj;have av:0≤(o:Int):=pG;have aw:o<(af.length:Int):=pG;obtain⟨bc,aN,aO⟩:=Kd.at_int (Kd.R_reads' qL.out).2.2 o av aw;cases aN;replace av:=vD av;replace aw:=vD aw;have ax:0≤(o:Int):=pG;have ay:o<(l1.length:Int):=pG;obtain⟨bd,aP,ag⟩:=Kd.at_int au.out o ax ay;cases aP;replace ag:=vA HB ag;replace ax:=vD ax;replace ay:=vD ay;go_wp2;repeat(go_quiet (fail);try go_wp2)
      go_roundg k1
      case measure=>have:=aM.out;omega
      case rel=>exact⟨(wrap64 (o+1)),(by first|rfl|(simp;done)|(simp[*];done)),H',⟨by have:=aM.out;omega⟩,⟨by(repeat apply Kd.RS);exact qL.out⟩,⟨wZ HB⟩⟩
     ·obtain⟨ba,bb⟩:=vV aK;obtain rfl:=vU H;obtain⟨cn,cp,bk⟩:=Kd.R_slice qL.out;subst bk;have av:0≤(o:Int):=pG;have aw:o<(af.length:Int):=pG;obtain⟨bc,aN,aO⟩:=Kd.at_int (Kd.R_reads' qL.out).2.2 o av aw;cases aN;replace av:=vD av;replace aw:=vD aw;have ax:0≤(o:Int):=pG;have ay:o<(l1.length:Int):=pG;obtain⟨bd,aP,ag⟩:=Kd.at_int au.out o ax ay;cases aP;replace ag:=vA HB ag;replace ax:=vD ax;replace ay:=vD ay;go_wp2;repeat(go_quiet (fail);try go_wp2)
      go_ret;exact vZ HB
    ·obtain rfl:=vU H;obtain⟨cq,cr,bl⟩:=Kd.R_slice qL.out;subst bl;go_wp2;repeat(go_quiet (fail);try go_wp2)
     go_ret;exact vZ HB
 ·replace c4:=uZ c4;subst c4;rw[if_neg vM]at H;obtain rfl:=vU H;go_enter Tryz.func62,Tryz.ntmps62;go_wp2_with (first|(go_at_call 103;(with_reducible refine(kc.calls k a0 _ _ l1 false _ ?_ ?_ A3.out).mono ?_);exact cZ au.out;exact aE.out;rintro e bn ⟨rfl,hb⟩;replace HB:=bW HB hb;clear hb));repeat(go_quiet (first|(go_at_call 103;(with_reducible refine(kc.calls k a0 _ _ l1 false _ ?_ ?_ A3.out).mono ?_);exact cZ au.out;exact aE.out;rintro e bn ⟨rfl,hb⟩;replace HB:=bW HB hb;clear hb));try go_wp2_with (first|(go_at_call 103;(with_reducible refine(kc.calls k a0 _ _ l1 false _ ?_ ?_ A3.out).mono ?_);exact cZ au.out;exact aE.out;rintro e bn ⟨rfl,hb⟩;replace HB:=bW HB hb;clear hb)))
  go_ret;exact vZ HB
def ka.l0:Nat→Int→Int→List Int→List (List Int)→Option (Bool)
 |0,_,_,_,_=>none
 |k+1,x3,Aa,Ce,yV=>if x3<(yV.length:Int)then(if 0≤x3 then((oN.f k Aa (qi yV x3)).bind fun aQ=>(if aQ=true then(ka.l0 k (wrap64 (x3+1)) Aa Ce yV)else(some false)))else(none))else((oN.f k Aa Ce).bind fun aR=>(if aR=true then(some (decide ((yV.length:Int)≤10)))else(some false)))
def ka.f (k:Nat) (ab:Int) (ae:List Int) (J:List (List Int)):Option (Bool):=ka.l0 k 0 ab ae J
theorem ka.jQ:∀k,(∀y0 y1 y2 y3,qg (ka.l0 k y0 y1 y2 y3) (ka.l0 (k+1) y0 y1 y2 y3))
 |0=>fun _ _ _ _=> .z (by simp only[ka.l0])
 |k+1=>by
  have i0:=ka.jQ k;exact fun _ _ _ _=>by unfold ka.l0;infer_instance
instance ka.mo {k a0 a1 a2}:qg (ka.f k a0 a1 a2) (ka.f (k+1) a0 a1 a2):=by have i0:=ka.jQ k;unfold ka.f;infer_instance
def ka.T4:Bool×List (List Nat×List Nat):=(true,[([],[]),([0],[0]),([],[]),([2],[2]),([],[]),([3,4],[3,4]),([5],[5]),([1,6],[1,6]),([7],[7])])
def ka.B4:List Nat:=[0,1,0,4,0,28,60,127,255]
theorem ka.Hq:rtab .any (opsOf Tryz.f12 4)=ka.T4:=by kernel_rfl
theorem ka.Fx:waitsOk ka.T4.2 ka.B4=true:=by kernel_rfl
theorem ka.calls (k:Nat) (ab:Int) (aq:Option Addr) (ar:Nat) (ae:List Int) (aJ:Option Addr) (aD:Nat) (J:List (List Int)) (r:Bool) (w:World) (aS:Kd.C (Kd.int .i64) w aq ae.length ae) (aT:ae.length≤ar) (aU:Kd.C (Kd.slice 3 (Kd.int .i64)) w aJ J.length J) (aV:J.length≤aD) (h:ka.f k ab ae J=some r):
  Calls Tryz.prog 12 #[.agg #[.int .i64 ab,.slice aq ae.length ar,.slice aJ J.length aD]] w fun e w'=>e= .returned (.bool r)∧Below w.heap.size w w':=by
 have ct:=Tryz.underlying26;have aW:=bm aS;have aY:=bm aT;clear aS aT;have aZ:=bm aU;have ch:=bm aV;clear aU aV;have HB:=bm (Below.refl w.heap.size w);have H:=h;clear h;unfold ka.f at H;have H':=bm H;clear H;go_enter Tryz.func12,Tryz.ntmps12;go_wp2_with (first|((with_reducible refine gate_dst (N:=1) rfl ?_);(try(refine gate_guard (by rfl) ?_;dsimp only));refine rz 1 #[.int .i64 ab,.slice aq ae.length ar,.slice aJ J.length aD] 26 ?_;intro al hg w2 a8 hb;have j:=bm (a8);have cj:=bG HB hg;replace HB:=bW HB hb;clear hb a8 hg));go_loopg [3] k (fun kq v3 w'=>∃(ad:Int),v3= .int .i64 ad∧jX (ka.l0 kq ad ab ae J=some r)∧jX (kq≤k)∧jX (w'.heap[al]?=some (.cells #[.int .i64 ab,(.slice aq ae.length ar),(.slice aJ J.length aD)] 26 (0,0)))∧jX (Below w.heap.size w w'))
 case atStart=>exact⟨(0),(by first|rfl|(simp;done)|(simp[*];done)),H',⟨Nat.le_refl _⟩,⟨kS j⟩,⟨wZ HB⟩⟩
 case round=>
  clear H';obtain⟨ad,rfl,HA,aM,j,HB⟩:=hrel;cases gk with
  |zero=>exact absurd HA.out (by simp[ka.l0])
  |succ k1=>
   have H:=HA.out;clear HA;simp only[ka.l0]at H;rcases vG H with⟨bo,H⟩|⟨bo,H⟩
   ·obtain⟨cu,H⟩:=vE H;obtain⟨aQ,A5,H⟩:=bE H;try dsimp only at H
    by_cases c6:aQ=true
    ·subst c6;rw[if_pos rfl]at H;have H':=bm H;clear H;obtain⟨b9,ca,cb,cc,cd,cf⟩:=b3 j;try go_wp2
     replace j:=bm (sI j.out);replace HB:=bm (xO HB.out);have az:0≤(ad:Int):=pG;have aA:ad<(J.length:Int):=pG;obtain⟨aB,an,ao,a6,I,ai,aj⟩:=xa aZ.out ad az aA;have aa:=I;cases a6;replace I:=vA HB I;have ak:=bm aj;have aC:=bm ai;clear aj ai;replace az:=vD az;replace aA:=vD aA;refine start_ (n:=9) (S:=fun w'=>w'.cell? ⟨al,0,none⟩=some (.int .i64 ab)∧w'.cell? ⟨al,1,none⟩=some (.slice aq ae.length ar)∧w'.cell? ⟨al,2,none⟩=some (.slice (some aB) J.length aD)∧w'.cell? (aB.add (ad).toNat)=some (.slice an (qi J ad).length ao)) (ds:=[]) DB (by kernel_rfl) rfl rfl ⟨(oB j.out 0).trans rfl,(oB j.out 1).trans rfl,(oB j.out 2).trans rfl,((HB.out.cell (World.block_lt_of_cell? w _ aa)).trans aa)⟩ (fun hHeld=>?_);refine with_tabW ka.Hq ka.Fx (fun ah aI=>?_);generalize wr.drew=w8 at j HB ak I hHeld⊢;refine pA 0 11 ah ?_ ?_ ?_ ?_ (pA 2 13 ah ?_ ?_ ?_ ?_ (pA 4 15 ah ?_ ?_ ?_ ?_ (tA 1 12 ah aI hHeld ?_ ?_ ?_ ?_ (tA 3 14 ah aI hHeld ?_ ?_ ?_ ?_ (pA 5 16 ah ?_ ?_ ?_ ?_ (tA 6 17 ah aI hHeld ?_ ?_ ?_ ?_ ?_))))))
     all_goals first|(rintro w' ⟨s0,s1,s2,s3⟩;go_simp;with_reducible rfl)|(intro w';go_simp;with_reducible rfl)|(simp only[Act.put,qA,qB,qC,i64_w,i32_w];rfl)|skip
     refine oA 7 (some 18) ah (fun K hK=>?_);refine goes_ Tryz.func62 (by kernel_rfl) rfl #[.int .i64 ab,.slice an (qi J ad).length ao] (by rfl) rfl rfl (by(try simp only[List.map_toArray,List.map_cons,List.map_nil]);first|done|rfl|(simp only[List.length_drop,List.length_take];rfl)) ?_;with_reducible refine(oN.calls k1 ab _ _ (qi J ad) true _ ?sn ?sq A5.out).mono ?_
     (case sn=>exact cY ak HB);(case sq=>exact aC.out);rintro e w9 ⟨rfl,hb⟩;refine⟨_,rfl,?_⟩;replace j:=bU j hb;replace HB:=bW HB hb;(try clear hb);(try clear hb2);(try clear hk);(try clear hi);refine hK.out _ _ ⟨(oB j.out 0).trans rfl,(oB j.out 1).trans rfl,(oB j.out 2).trans rfl,((HB.out.cell (World.block_lt_of_cell? w _ aa)).trans aa)⟩ (fun hHeld=>?_);clear hK K;refine vL 18 ?_
     refine pA 8 19 ah ?_ ?_ ?_ ?_ ?_
     all_goals first|(intro w';go_simp;with_reducible rfl)|(simp only[Act.put,qA,qB,qC,i64_w,i32_w];rfl)|skip
     refine done_ (done_of ah.out (by kernel_rfl)) ?_;try go_wp2
     go_roundg k1
     case measure=>have:=aM.out;omega
     case rel=>exact⟨(wrap64 (ad+1)),(by first|rfl|(simp;done)|(simp[*];done)),H',⟨by have:=aM.out;omega⟩,⟨kS j⟩,⟨wZ HB⟩⟩
    ·replace c6:=uZ c6;subst c6;rw[if_neg vM]at H;obtain rfl:=vU H;obtain⟨bp,bq,br,bs,bu,bw⟩:=b3 j;try go_wp2
     replace j:=bm (sI j.out);replace HB:=bm (xO HB.out);have az:0≤(ad:Int):=pG;have aA:ad<(J.length:Int):=pG;obtain⟨aB,an,ao,a6,I,ai,aj⟩:=xa aZ.out ad az aA;have aa:=I;cases a6;replace I:=vA HB I;have ak:=bm aj;have aC:=bm ai;clear aj ai;replace az:=vD az;replace aA:=vD aA;refine start_ (n:=9) (S:=fun w'=>w'.cell? ⟨al,0,none⟩=some (.int .i64 ab)∧w'.cell? ⟨al,1,none⟩=some (.slice aq ae.length ar)∧w'.cell? ⟨al,2,none⟩=some (.slice (some aB) J.length aD)∧w'.cell? (aB.add (ad).toNat)=some (.slice an (qi J ad).length ao)) (ds:=[]) DB (by kernel_rfl) rfl rfl ⟨(oB j.out 0).trans rfl,(oB j.out 1).trans rfl,(oB j.out 2).trans rfl,((HB.out.cell (World.block_lt_of_cell? w _ aa)).trans aa)⟩ (fun hHeld=>?_);refine with_tabW ka.Hq ka.Fx (fun ah aI=>?_);generalize wr.drew=cv at j HB ak I hHeld⊢;refine pA 0 11 ah ?_ ?_ ?_ ?_ (pA 2 13 ah ?_ ?_ ?_ ?_ (pA 4 15 ah ?_ ?_ ?_ ?_ (tA 1 12 ah aI hHeld ?_ ?_ ?_ ?_ (tA 3 14 ah aI hHeld ?_ ?_ ?_ ?_ (pA 5 16 ah ?_ ?_ ?_ ?_ (tA 6 17 ah aI hHeld ?_ ?_ ?_ ?_ ?_))))))
     all_goals first|(rintro w' ⟨s0,s1,s2,s3⟩;go_simp;with_reducible rfl)|(intro w';go_simp;with_reducible rfl)|(simp only[Act.put,qA,qB,qC,i64_w,i32_w];rfl)|skip
     refine oA 7 (some 18) ah (fun K hK=>?_);refine goes_ Tryz.func62 (by kernel_rfl) rfl #[.int .i64 ab,.slice an (qi J ad).length ao] (by rfl) rfl rfl (by(try simp only[List.map_toArray,List.map_cons,List.map_nil]);first|done|rfl|(simp only[List.length_drop,List.length_take];rfl)) ?_;with_reducible refine(oN.calls k1 ab _ _ (qi J ad) false _ ?sn ?sq A5.out).mono ?_
     (case sn=>exact cY ak HB);(case sq=>exact aC.out);rintro e cw ⟨rfl,hb⟩;refine⟨_,rfl,?_⟩;replace j:=bU j hb;replace HB:=bW HB hb;(try clear hb);(try clear hb2);(try clear hk);(try clear hi);refine hK.out _ _ ⟨(oB j.out 0).trans rfl,(oB j.out 1).trans rfl,(oB j.out 2).trans rfl,((HB.out.cell (World.block_lt_of_cell? w _ aa)).trans aa)⟩ (fun hHeld=>?_);clear hK K;refine vL 18 ?_
     refine pA 8 19 ah ?_ ?_ ?_ ?_ ?_
     all_goals first|(intro w';go_simp;with_reducible rfl)|(simp only[Act.put,qA,qB,qC,i64_w,i32_w];rfl)|skip
     refine done_ (done_of ah.out (by kernel_rfl)) ?_;try go_wp2
     go_ret;exact vZ HB
   ·obtain⟨aR,bx,H⟩:=bE H;try dsimp only at H
    by_cases a7:aR=true
    ·subst a7;rw[if_pos rfl]at H;obtain rfl:=vU H;obtain⟨bz,bA,bB,bD,bF,bH⟩:=b3 j;go_wp2_with (first|(refine gB (some 24) Tryz.func62 #[.int .i64 ab,.slice aq ae.length ar] rfl ?_;(with_reducible refine(oN.calls k1 ab _ _ ae true _ ?_ ?_ bx.out).mono ?_);exact cY aW HB;exact aY.out;rintro e cx ⟨rfl,hb⟩;refine⟨_,rfl,?_⟩;replace j:=bU j hb;replace HB:=bW HB hb;clear hb;obtain⟨bJ,bO,bT,bV,bZ,b0⟩:=b3 j));go_ret;exact vZ HB
    ·replace a7:=uZ a7;subst a7;rw[if_neg vM]at H;obtain rfl:=vU H;obtain⟨b1,b4,b5,b6,b7,b8⟩:=b3 j;go_wp2_with (first|(refine gB (some 24) Tryz.func62 #[.int .i64 ab,.slice aq ae.length ar] rfl ?_;(with_reducible refine(oN.calls k1 ab _ _ ae false _ ?_ ?_ bx.out).mono ?_);exact cY aW HB;exact aY.out;rintro e cy ⟨rfl,hb⟩;refine⟨_,rfl,?_⟩;replace j:=bU j hb;replace HB:=bW HB hb;clear hb));go_ret;exact vZ HB
end Go.Proofs.YtihgpkohglcijaaGreatDoor.P
