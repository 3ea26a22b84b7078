-- Written by a program of this session (wip/hook.py), which runs the kit's printer; Lean checks it.
import Derived.Test.YtihgpkohglcijaaPx0
import Derived.Test.YtihgpkohglcijaaPx3
import Derived.Test.YtihgpkohglcijaaPx4
namespace Go.Proofs.Ytihgpkohglcijaa.P
open Go.RowKit Go.Proofs.YtihgpkohglcijaaW.PrintWords Go.Proofs.YtihgpkohglcijaaW.PrintLast Go.Proofs.YtihgpkohglcijaaW.PrintMore
attribute [local go_sem] max2_int min2_int max_two min_two max_three min_three max_four min_four   -- for this text's walks alone
set_option linter.unusedVariables false
set_option linter.unusedSimpArgs false

/-! ### spec_l1Read: function 119 -/
mutual
def spec_l1Read.j0:Nat→Int→ByteArray→Int→Int→Bool→Option (Int×Int)
 |0,_,_,_,_,_=>none
 |k+1,x0,x1,x2,x8,x38=>if x38=true then(spec_l1Read.l0 k x0 x1 x2 0 0)else(if 0≤x2 then(if x2<(x1.size:Int)then(if(bt x1 x2)=33 then((spec_l1Read.f k x0 x1 (wrap64 (x2+1))).bind fun ay=>(if ay.2<0 then(some ((-1),(-1)))else(some (wrap64 (x8 - ay.1),ay.2))))else(if(bt x1 x2)=40 then((spec_l1Read.f k x0 x1 (wrap64 (x2+1))).bind fun ad=>(if ad.2<0 then(spec_l1Read.j2 k x0 x1 x8 ad.1 ad.2 true)else(spec_l1Read.j2 k x0 x1 x8 ad.1 ad.2 (decide (ad.2≥(x1.size:Int))))))else(some ((-1),(-1)))))else(none))else(none))
def spec_l1Read.l0:Nat→Int→ByteArray→Int→Int→Int→Option (Int×Int)
 |0,_,_,_,_,_=>none
 |k+1,x0,x1,x2,x9,x10=>if 0≤x0 then(if x10<(shl .i64 1 x0)then(if 0≤x2 then(if x2<(x1.size:Int)then(if 0≤x10 then(spec_l1Read.l0 k x0 x1 x2 (wrap64 (x9+(shl .i64 (Int.tmod (shr .i64 x10 (((bt x1 x2) - 97)%256)) 2) x10))) (wrap64 (x10+1)))else(none))else(none))else(none))else(some (x9,wrap64 (x2+1))))else(none)
def spec_l1Read.j2:Nat→Int→ByteArray→Int→Int→Int→Bool→Option (Int×Int)
 |0,_,_,_,_,_,_=>none
 |k+1,x0,x1,x8,x13,x14,x111=>if x111=true then(some ((-1),(-1)))else((spec_l1Read.f k x0 x1 (wrap64 (x14+1))).bind fun o=>(if o.2<0 then(spec_l1Read.j3 k x1 x8 x13 x14 o.1 o.2 true)else(if o.2≥(x1.size:Int)then(spec_l1Read.j3 k x1 x8 x13 x14 o.1 o.2 true)else(if 0≤o.2 then(if o.2<(x1.size:Int)then(spec_l1Read.j3 k x1 x8 x13 x14 o.1 o.2 ((bt x1 o.2) !=41))else(none))else(none)))))
def spec_l1Read.j3:Nat→ByteArray→Int→Int→Int→Int→Int→Bool→Option (Int×Int)
 |0,_,_,_,_,_,_,_=>none
 |k+1,x1,x8,x13,x14,x15,x16,x133=>if x133=true then(some ((-1),(-1)))else(if 0≤x14 then(if x14<(x1.size:Int)then(if(bt x1 x14)=38 then((spec_l1Both.f k x13 x15).bind fun t192=>(some (t192,wrap64 (x16+1))))else(if(bt x1 x14)=124 then((spec_l1Either.f k x13 x15).bind fun t193=>(some (t193,wrap64 (x16+1))))else(if(bt x1 x14)=62 then((spec_l1Either.f k (wrap64 (x8 - x13)) x15).bind fun t194=>(some (t194,wrap64 (x16+1))))else(some ((-1),(-1))))))else(none))else(none))
def spec_l1Read.f:Nat→Int→ByteArray→Int→Option (Int×Int)
 |0,_,_,_=>none
 |k+1,a0,a1,a2=>if a2≥(a1.size:Int)then(some ((-1),(-1)))else((spec_l1All.f a0).bind fun t185=>(if 0≤a2 then(if a2<(a1.size:Int)then(if(bt a1 a2)=49 then(some (t185,wrap64 (a2+1)))else(if(bt a1 a2)=48 then(some (0,wrap64 (a2+1)))else(if(bt a1 a2)≥97 then(spec_l1Read.j0 k a0 a1 a2 t185 (decide ((((bt a1 a2) - 97)%256)<a0)))else(spec_l1Read.j0 k a0 a1 a2 t185 false))))else(none))else(none)))
end
theorem spec_l1Read.mono_l:∀k,(∀y0 y1 y2,LeO (spec_l1Read.f k y0 y1 y2) (spec_l1Read.f (k+1) y0 y1 y2))∧(∀y0 y1 y2 y3 y4,LeO (spec_l1Read.j0 k y0 y1 y2 y3 y4) (spec_l1Read.j0 (k+1) y0 y1 y2 y3 y4))∧(∀y0 y1 y2 y3 y4,LeO (spec_l1Read.l0 k y0 y1 y2 y3 y4) (spec_l1Read.l0 (k+1) y0 y1 y2 y3 y4))∧(∀y0 y1 y2 y3 y4 y5,LeO (spec_l1Read.j2 k y0 y1 y2 y3 y4 y5) (spec_l1Read.j2 (k+1) y0 y1 y2 y3 y4 y5))∧(∀y0 y1 y2 y3 y4 y5 y6,LeO (spec_l1Read.j3 k y0 y1 y2 y3 y4 y5 y6) (spec_l1Read.j3 (k+1) y0 y1 y2 y3 y4 y5 y6))
 |0=>⟨fun _ _ _ r h=>by simp[spec_l1Read.f]at h,fun _ _ _ _ _ r h=>by simp[spec_l1Read.j0]at h,fun _ _ _ _ _ r h=>by simp[spec_l1Read.l0]at h,fun _ _ _ _ _ _ r h=>by simp[spec_l1Read.j2]at h,fun _ _ _ _ _ _ _ r h=>by simp[spec_l1Read.j3]at h⟩
 |k+1=>by
  obtain⟨ah,aI,aJ,aK,aL⟩:=spec_l1Read.mono_l k;refine⟨?_,?_,?_,?_,?_⟩
  ·intro y0 y1 y2;unfold spec_l1Read.f;repeat' first
   |(with_reducible first|exact ah _ _ _|exact aI _ _ _ _ _|exact aJ _ _ _ _ _|exact aK _ _ _ _ _ _|exact aL _ _ _ _ _ _ _|exact spec_l1Both.mono _ _ _|exact spec_l1Either.mono _ _ _|exact LeO.refl _|exact LeO.none _|refine LeO.ite ?_ ?_|refine LeO.bind ?_ (fun _=>?_))
   |refine LeO.ite ?_ ?_
   |refine LeO.bind ?_ (fun _=>?_)
  ·intro y0 y1 y2 y3 y4;unfold spec_l1Read.j0;repeat' first
   |(with_reducible first|exact ah _ _ _|exact aI _ _ _ _ _|exact aJ _ _ _ _ _|exact aK _ _ _ _ _ _|exact aL _ _ _ _ _ _ _|exact spec_l1Both.mono _ _ _|exact spec_l1Either.mono _ _ _|exact LeO.refl _|exact LeO.none _|refine LeO.ite ?_ ?_|refine LeO.bind ?_ (fun _=>?_))
   |refine LeO.ite ?_ ?_
   |refine LeO.bind ?_ (fun _=>?_)
  ·intro y0 y1 y2 y3 y4;unfold spec_l1Read.l0;repeat' first
   |(with_reducible first|exact ah _ _ _|exact aI _ _ _ _ _|exact aJ _ _ _ _ _|exact aK _ _ _ _ _ _|exact aL _ _ _ _ _ _ _|exact spec_l1Both.mono _ _ _|exact spec_l1Either.mono _ _ _|exact LeO.refl _|exact LeO.none _|refine LeO.ite ?_ ?_|refine LeO.bind ?_ (fun _=>?_))
   |refine LeO.ite ?_ ?_
   |refine LeO.bind ?_ (fun _=>?_)
  ·intro y0 y1 y2 y3 y4 y5;unfold spec_l1Read.j2;repeat' first
   |(with_reducible first|exact ah _ _ _|exact aI _ _ _ _ _|exact aJ _ _ _ _ _|exact aK _ _ _ _ _ _|exact aL _ _ _ _ _ _ _|exact spec_l1Both.mono _ _ _|exact spec_l1Either.mono _ _ _|exact LeO.refl _|exact LeO.none _|refine LeO.ite ?_ ?_|refine LeO.bind ?_ (fun _=>?_))
   |refine LeO.ite ?_ ?_
   |refine LeO.bind ?_ (fun _=>?_)
  ·intro y0 y1 y2 y3 y4 y5 y6;unfold spec_l1Read.j3;repeat' first
   |(with_reducible first|exact ah _ _ _|exact aI _ _ _ _ _|exact aJ _ _ _ _ _|exact aK _ _ _ _ _ _|exact aL _ _ _ _ _ _ _|exact spec_l1Both.mono _ _ _|exact spec_l1Either.mono _ _ _|exact LeO.refl _|exact LeO.none _|refine LeO.ite ?_ ?_|refine LeO.bind ?_ (fun _=>?_))
   |refine LeO.ite ?_ ?_
   |refine LeO.bind ?_ (fun _=>?_)
theorem spec_l1Read.mono:∀a0 a1 a2 k,LeO (spec_l1Read.f k a0 a1 a2) (spec_l1Read.f (k+1) a0 a1 a2):=by
 intro a0 a1 a2 k;obtain⟨ah,aI,aJ,aK,aL⟩:=spec_l1Read.mono_l k;exact ah a0 a1 a2
set_option maxHeartbeats 8000000 in
set_option maxRecDepth 100000 in
theorem spec_l1Read.calls (k:Nat):∀(a0:Int) (a1:ByteArray) (a2:Int) (r1:Int) (r2:Int) (w:World) (h:spec_l1Read.f k a0 a1 a2=some (r1,r2)),
  Calls Try.prog 119 #[.int .i64 a0,.string a1,.int .i64 a2] w fun e w'=>e= .returned (.tuple #[.int .i64 r1,.int .i64 r2])∧Drawn0 w w':=by
 induction k using Nat.strongRecOn with
 | _ k ih=>
 intro a0 a1 a2 r1 r2 w h;cases k with
 |zero=>exact absurd h (by simp[spec_l1Read.f])
 |succ k=>
 simp only[spec_l1Read.f]at h;have H:(if a2≥(a1.size:Int)then(some ((-1),(-1)))else((spec_l1All.f a0).bind fun t185=>(if 0≤a2 then(if a2<(a1.size:Int)then(if(bt a1 a2)=49 then(some (t185,wrap64 (a2+1)))else(if(bt a1 a2)=48 then(some (0,wrap64 (a2+1)))else(if(bt a1 a2)≥97 then(spec_l1Read.j0 k a0 a1 a2 t185 (decide ((((bt a1 a2) - 97)%256)<a0)))else(spec_l1Read.j0 k a0 a1 a2 t185 false))))else(none))else(none))))=some (r1,r2):=h;clear h;by_cases c4:a2≥(a1.size:Int)
 ·rw[if_pos c4]at H;have ca:decide ((a1.size:Int)≤a2)=true:=decide_eq_true c4;clear c4;simp only[Option.some.injEq,Prod.mk.injEq]at H;obtain⟨rfl,rfl⟩:=H;go_enter Try.func119,Try.ntmps119;go_wp2;go_ret2;exact⟨by first|rfl|(simp;done)|(simp[*];done),by repeat(first|exact Drawn0.refl _|apply Drawn0.step)⟩
 ·rw[if_neg c4]at H;have ca:decide ((a1.size:Int)≤a2)=false:=decide_eq_false c4;clear c4;replace H:=Option.bind_eq_some_iff.mp H;obtain⟨t185,bf,H⟩:=H;try dsimp only at H
  have A5:=Asd.mk bf;clear bf;by_cases c6:0≤a2;rotate_left;(rw[if_neg c6]at H;exact absurd H (by simp));rw[if_pos c6]at H;have dc:decide (0≤a2)=true:=decide_eq_true c6;clear c6;by_cases c7:a2<(a1.size:Int);rotate_left;(rw[if_neg c7]at H;exact absurd H (by simp));rw[if_pos c7]at H;have dd:decide (a2<(a1.size:Int))=true:=decide_eq_true c7;clear c7;by_cases c9:(bt a1 a2)=49
  ·rw[if_pos c9]at H;have cb:((bt a1 a2)==49)=true:=beq_iff_eq.mpr c9;have cc:((bt a1 a2) !=49)=false:=bne_eq_false_iff_eq.mpr c9;clear c9;simp only[Option.some.injEq,Prod.mk.injEq]at H;obtain⟨rfl,rfl⟩:=H;go_enter Try.func119,Try.ntmps119;go_wp2_with (first|((with_reducible refine gate_callee (f:=140) rfl ?_);refine gsM (some 22) rfl rfl Try.func140 (by kernel_rfl) rfl #[.int .i64 a0] rfl ?_;(with_reducible refine(spec_l1All.calls a0 t185 _ A5.out).mono ?_);rintro e w' ⟨rfl,⟨nd,rfl⟩⟩;refine⟨_,rfl,?_⟩;have p8:0≤(a2:Int):=odt;have q8:a2<(a1.size:Int):=odt;have cd:=bt_at a1 a2;replace p8:=eq_true p8;replace q8:=eq_true q8));go_ret2;exact⟨by first|rfl|(simp;done)|(simp[*];done),by repeat(first|exact Drawn0.refl _|apply Drawn0.step)⟩
  ·rw[if_neg c9]at H;have cb:((bt a1 a2)==49)=false:=beq_eq_false_iff_ne.mpr c9;have cc:((bt a1 a2) !=49)=true:=bne_iff_ne.mpr c9;by_cases az:(bt a1 a2)=48
   ·rw[if_pos az]at H;have bH:((bt a1 a2)==48)=true:=beq_iff_eq.mpr az;have bI:((bt a1 a2) !=48)=false:=bne_eq_false_iff_eq.mpr az;clear az;simp only[Option.some.injEq,Prod.mk.injEq]at H;obtain⟨rfl,rfl⟩:=H;go_enter Try.func119,Try.ntmps119;go_wp2_with (first|((with_reducible refine gate_callee (f:=140) rfl ?_);refine gsM (some 22) rfl rfl Try.func140 (by kernel_rfl) rfl #[.int .i64 a0] rfl ?_;(with_reducible refine(spec_l1All.calls a0 t185 _ A5.out).mono ?_);rintro e w' ⟨rfl,⟨nd,rfl⟩⟩;refine⟨_,rfl,?_⟩;have p8:0≤(a2:Int):=odt;have q8:a2<(a1.size:Int):=odt;have cd:=bt_at a1 a2;replace p8:=eq_true p8;replace q8:=eq_true q8;have aS:0≤(a2:Int):=odt;have aT:a2<(a1.size:Int):=odt;have cf:=bt_at a1 a2;replace aS:=eq_true aS;replace aT:=eq_true aT));go_ret2;exact⟨by first|rfl|(simp;done)|(simp[*];done),by repeat(first|exact Drawn0.refl _|apply Drawn0.step)⟩
   ·rw[if_neg az]at H;have bH:((bt a1 a2)==48)=false:=beq_eq_false_iff_ne.mpr az;have bI:((bt a1 a2) !=48)=true:=bne_iff_ne.mpr az;have aU:=Asd.mk H;clear H;go_enter Try.func119,Try.ntmps119;go_upto_region 8 with(first|((with_reducible refine gate_callee (f:=140) rfl ?_);refine gsM (some 22) rfl rfl Try.func140 (by kernel_rfl) rfl #[.int .i64 a0] rfl ?_;(with_reducible refine(spec_l1All.calls a0 t185 _ A5.out).mono ?_);rintro e w' ⟨rfl,⟨nd,rfl⟩⟩;refine⟨_,rfl,?_⟩;have p8:0≤(a2:Int):=odt;have q8:a2<(a1.size:Int):=odt;have cd:=bt_at a1 a2;replace p8:=eq_true p8;replace q8:=eq_true q8;have aS:0≤(a2:Int):=odt;have aT:a2<(a1.size:Int):=odt;have cf:=bt_at a1 a2;replace aS:=eq_true aS;replace aT:=eq_true aT))
    (try simp only[Act.put,qA,qB,qC]);go_cut [38] (fun cL wc=>∃(kq:Nat) (ag:Bool),cL= .bool ag∧Asd (spec_l1Read.j0 kq a0 a1 a2 t185 ag=some (r1,r2))∧Asd (kq≤k)∧Drawn0 w wc)
    case first=>
     have H:=aU.out;clear aU;by_cases aM:(bt a1 a2)≥97
     ·rw[if_pos aM]at H;have ai:decide (97≤(bt a1 a2))=true:=decide_eq_true aM;clear aM;(first|rw[ai]|(simp only[i64_w,i32_w];rw[ai])|skip);have H':=Asd.mk H;clear H;have aV:0≤(a2:Int):=odt;have aW:a2<(a1.size:Int):=odt;have cg:=bt_at a1 a2;replace aV:=eq_true aV;replace aW:=eq_true aW;have ch:0≤(a2:Int):=odt;have cj:a2<(a1.size:Int):=odt;have de:=bt_at a1 a2;replace ch:=eq_true ch;replace cj:=eq_true cj;go_wp2;go_meet
      case rel=>exact⟨_,(decide ((((bt a1 a2) - 97)%256)<a0)),(by first|rfl|(simp;done)|(simp[*];done)),H',⟨by first|omega|exact Nat.le_refl _⟩,by repeat(first|exact Drawn0.refl _|apply Drawn0.step)⟩
     ·rw[if_neg aM]at H;have ai:decide (97≤(bt a1 a2))=false:=decide_eq_false aM;clear aM;(first|rw[ai]|(simp only[i64_w,i32_w];rw[ai])|skip);have H':=Asd.mk H;clear H;have aV:0≤(a2:Int):=odt;have aW:a2<(a1.size:Int):=odt;have cg:=bt_at a1 a2;replace aV:=eq_true aV;replace aW:=eq_true aW;go_wp2;go_meet
      case rel=>exact⟨_,(false),(by first|rfl|(simp;done)|(simp[*];done)),H',⟨by first|omega|exact Nat.le_refl _⟩,by repeat(first|exact Drawn0.refl _|apply Drawn0.step)⟩
    case rest=>
     clear aU;obtain⟨kq,ag,rfl,HA,I,⟨df,rfl⟩⟩:=hcut;cases kq with
     |zero=>exact absurd HA.out (by simp[spec_l1Read.j0])
     |succ kj11=>
      have H:=HA.out;clear HA;simp only[spec_l1Read.j0]at H;by_cases bg:ag=true
      ·subst bg;rw[if_pos rfl]at H;have H':=Asd.mk H;clear H;go_wp2;go_loopg [9,10] kj11 (fun kq v9 v10 w'=>∃(ae:Int) (j:Int),v9= .int .i64 ae∧v10= .int .i64 j∧Asd (spec_l1Read.l0 kq a0 a1 a2 ae j=some (r1,r2))∧Asd (kq≤kj11)∧Drawn0 w w')
       case atStart=>exact⟨(0),(0),(by first|rfl|(simp;done)|(simp[*];done)),(by first|rfl|(simp;done)|(simp[*];done)),H',⟨Nat.le_refl _⟩,by repeat(first|exact Drawn0.refl _|apply Drawn0.step)⟩
       case round=>
        clear H';obtain⟨ae,j,rfl,rfl,HA,ck,⟨m2,rfl⟩⟩:=hrel;cases gk with
        |zero=>exact absurd HA.out (by simp[spec_l1Read.l0])
        |succ k2=>
         have H:=HA.out;clear HA;simp only[spec_l1Read.l0]at H;by_cases aY:0≤a0;rotate_left;(rw[if_neg aY]at H;exact absurd H (by simp));rw[if_pos aY]at H;have cM:=eq_true aY;have cN:decide (0≤a0)=true:=decide_eq_true aY;clear aY;obtain⟨J,aj⟩:∃j_:Int,(shl .i64 1 a0)=j_:=⟨_,rfl⟩;replace H:(if j<(J)then(if 0≤a2 then(if a2<(a1.size:Int)then(if 0≤j then(spec_l1Read.l0 k2 a0 a1 a2 (wrap64 (ae+(shl .i64 (Int.tmod (shr .i64 j (((bt a1 a2) - 97)%256)) 2) j))) (wrap64 (j+1)))else(none))else(none))else(none))else(some (ae,wrap64 (a2+1))))=some (r1,r2):=by first|(rw[aj]at H;exact H)|(simp only[aj]at H⊢;exact H)
         have aF:(IntKind.i64.wrap (1*2^min a0.toNat 64))=J:=aj;have aG:a0≤64→(IntKind.i64.wrap (1*2^a0.toNat))=J:=shl_small aj;have cD:(IntKind.i64.wrap (2^min a0.toNat 64))=J:=by have h_:=aF;rw[Int.one_mul]at h_;exact h_
         have cE:a0≤64→(IntKind.i64.wrap (2^a0.toNat))=J:=fun cl=>by have h_:=aG cl;rw[Int.one_mul]at h_;exact h_
         have cF:(wrap64 (1*2^min a0.toNat 64))=J:=(i64_w _).symm.trans aF;have cG:a0≤64→(wrap64 (1*2^a0.toNat))=J:=fun h_=>(i64_w _).symm.trans (aG h_)
         by_cases aN:j<(J)
         ·rw[if_pos aN]at H;have bJ:decide (j<(J))=true:=decide_eq_true aN;clear aN;by_cases bh:0≤a2;rotate_left;(rw[if_neg bh]at H;exact absurd H (by simp));rw[if_pos bh]at H;have cO:decide (0≤a2)=true:=decide_eq_true bh;clear bh;by_cases bj:a2<(a1.size:Int);rotate_left;(rw[if_neg bj]at H;exact absurd H (by simp));rw[if_pos bj]at H;have cP:decide (a2<(a1.size:Int))=true:=decide_eq_true bj;clear bj;obtain⟨af,aw⟩:∃j_:Int,(shr .i64 j (((bt a1 a2) - 97)%256))=j_:=⟨_,rfl⟩;replace H:(if 0≤j then(spec_l1Read.l0 k2 a0 a1 a2 (wrap64 (ae+(shl .i64 (Int.tmod (af) 2) j))) (wrap64 (j+1)))else(none))=some (r1,r2):=by first|(rw[aw]at H;exact H)|(simp only[aw]at H⊢;exact H)
          have cH:(j/2^min (((bt a1 a2) - 97)%256).toNat 64)=af:=aw;have cm:=eq_true (show(0:Int)≤(((bt a1 a2) - 97)%256) by omega);have cn:decide ((0:Int)≤(((bt a1 a2) - 97)%256))=true:=decide_eq_true (by omega);have cp:decide ((((bt a1 a2) - 97)%256)<0)=false:=decide_eq_false (by omega);have cI:(((bt a1 a2) - 97)%256)≤64→(j/2^(((bt a1 a2) - 97)%256).toNat)=af:=shr_small aw;by_cases aZ:0≤j;rotate_left;(rw[if_neg aZ]at H;exact absurd H (by simp));rw[if_pos aZ]at H;have cQ:=eq_true aZ;have cR:decide (0≤j)=true:=decide_eq_true aZ;clear aZ;obtain⟨av,ak⟩:∃j_:Int,(shl .i64 (Int.tmod (af) 2) j)=j_:=⟨_,rfl⟩;replace H:(spec_l1Read.l0 k2 a0 a1 a2 (wrap64 (ae+(av))) (wrap64 (j+1)))=some (r1,r2):=by first|(rw[ak]at H;exact H)|(simp only[ak]at H⊢;exact H)
          have bk:(IntKind.i64.wrap ((Int.tmod (af) 2)*2^min j.toNat 64))=av:=ak;have bl:j≤64→(IntKind.i64.wrap ((Int.tmod (af) 2)*2^j.toNat))=av:=shl_small ak;have cJ:(wrap64 ((Int.tmod (af) 2)*2^min j.toNat 64))=av:=(i64_w _).symm.trans bk;have cK:j≤64→(wrap64 ((Int.tmod (af) 2)*2^j.toNat))=av:=fun h_=>(i64_w _).symm.trans (bl h_)
          have H':=Asd.mk H;clear H;have cq:0≤(a2:Int):=odt;have cr:a2<(a1.size:Int):=odt;have dg:=bt_at a1 a2;replace cq:=eq_true cq;replace cr:=eq_true cr;go_wp2;go_roundg k2
          case measure=>have:=I.out;have:=ck.out;omega
          case rel=>exact⟨(wrap64 (ae+(av))),(wrap64 (j+1)),(by first|rfl|(simp;done)|(simp only[←ak]<;>(first|rfl|simp))|(simp[*];done)),(by first|rfl|(simp;done)|(simp[*];done)),H',⟨by have:=I.out;have:=ck.out;omega⟩,by repeat(first|exact Drawn0.refl _|apply Drawn0.step)⟩
         ·rw[if_neg aN]at H;have bJ:decide (j<(J))=false:=decide_eq_false aN;clear aN;simp only[Option.some.injEq,Prod.mk.injEq]at H;obtain⟨rfl,rfl⟩:=H;go_wp2;go_ret2;exact⟨by first|rfl|(simp;done)|(simp only[←aj]<;>(first|rfl|simp))|(simp[*];done),by repeat(first|exact Drawn0.refl _|apply Drawn0.step)⟩
      ·replace bg:=Bool.eq_false_iff.mpr bg;subst bg;rw[if_neg (show¬(false=true) by decide)]at H;by_cases bn:0≤a2;rotate_left;(rw[if_neg bn]at H;exact absurd H (by simp));rw[if_pos bn]at H;have cS:decide (0≤a2)=true:=decide_eq_true bn;clear bn;by_cases bo:a2<(a1.size:Int);rotate_left;(rw[if_neg bo]at H;exact absurd H (by simp));rw[if_pos bo]at H;have cT:decide (a2<(a1.size:Int))=true:=decide_eq_true bo;clear bo;by_cases aA:(bt a1 a2)=33
       ·rw[if_pos aA]at H;have bO:((bt a1 a2)==33)=true:=beq_iff_eq.mpr aA;have bQ:((bt a1 a2) !=33)=false:=bne_eq_false_iff_eq.mpr aA;clear aA;replace H:=Option.bind_eq_some_iff.mp H;obtain⟨⟨t186,t187⟩,bx,H⟩:=H;try dsimp only at H
        have ct:=Asd.mk bx;clear bx;by_cases aO:t187<0
        ·rw[if_pos aO]at H;have bT:decide (t187<0)=true:=decide_eq_true aO;clear aO;simp only[Option.some.injEq,Prod.mk.injEq]at H;obtain⟨rfl,rfl⟩:=H;have al:0≤(a2:Int):=odt;have an:a2<(a1.size:Int):=odt;have a6:=bt_at a1 a2;replace al:=eq_true al;replace an:=eq_true an;go_wp2_with (first|((with_reducible refine gate_callee (f:=119) rfl ?_);refine gsM (some 82) rfl rfl Try.func119 (by kernel_rfl) rfl #[.int .i64 a0,.string a1,.int .i64 (wrap64 (a2+1))] rfl ?_;(with_reducible refine(ih kj11 (by have:=I.out;omega) a0 a1 (wrap64 (a2+1)) t186 t187 _ ct.out).mono ?_);rintro e w' ⟨rfl,⟨nd,rfl⟩⟩;refine⟨_,rfl,?_⟩));go_ret2;exact⟨by first|rfl|(simp;done)|(simp[*];done),by repeat(first|exact Drawn0.refl _|apply Drawn0.step)⟩
        ·rw[if_neg aO]at H;have bT:decide (t187<0)=false:=decide_eq_false aO;clear aO;simp only[Option.some.injEq,Prod.mk.injEq]at H;obtain⟨rfl,rfl⟩:=H;have al:0≤(a2:Int):=odt;have an:a2<(a1.size:Int):=odt;have a6:=bt_at a1 a2;replace al:=eq_true al;replace an:=eq_true an;go_wp2_with (first|((with_reducible refine gate_callee (f:=119) rfl ?_);refine gsM (some 82) rfl rfl Try.func119 (by kernel_rfl) rfl #[.int .i64 a0,.string a1,.int .i64 (wrap64 (a2+1))] rfl ?_;(with_reducible refine(ih kj11 (by have:=I.out;omega) a0 a1 (wrap64 (a2+1)) t186 t187 _ ct.out).mono ?_);rintro e w' ⟨rfl,⟨nd,rfl⟩⟩;refine⟨_,rfl,?_⟩));go_ret2;exact⟨by first|rfl|(simp;done)|(simp[*];done),by repeat(first|exact Drawn0.refl _|apply Drawn0.step)⟩
       ·rw[if_neg aA]at H;have bO:((bt a1 a2)==33)=false:=beq_eq_false_iff_ne.mpr aA;have bQ:((bt a1 a2) !=33)=true:=bne_iff_ne.mpr aA;by_cases aB:(bt a1 a2)=40
        ·rw[if_pos aB]at H;have bV:((bt a1 a2)==40)=true:=beq_iff_eq.mpr aB;have bZ:((bt a1 a2) !=40)=false:=bne_eq_false_iff_eq.mpr aB;clear aB;replace H:=Option.bind_eq_some_iff.mp H;obtain⟨⟨t188,t189⟩,bz,H⟩:=H;try dsimp only at H
         have cU:=Asd.mk bz;clear bz;have a7:=Asd.mk H;clear H;have al:0≤(a2:Int):=odt;have an:a2<(a1.size:Int):=odt;have a6:=bt_at a1 a2;replace al:=eq_true al;replace an:=eq_true an;have a8:0≤(a2:Int):=odt;have ba:a2<(a1.size:Int):=odt;have cu:=bt_at a1 a2;replace a8:=eq_true a8;replace ba:=eq_true ba;go_upto_region 22 with(first|((with_reducible refine gate_callee (f:=119) rfl ?_);refine gsM (some 101) rfl rfl Try.func119 (by kernel_rfl) rfl #[.int .i64 a0,.string a1,.int .i64 (wrap64 (a2+1))] rfl ?_;(with_reducible refine(ih kj11 (by have:=I.out;omega) a0 a1 (wrap64 (a2+1)) t188 t189 _ cU.out).mono ?_);rintro e w' ⟨rfl,⟨nd,rfl⟩⟩;refine⟨_,rfl,?_⟩))
         (try simp only[Act.put,qA,qB,qC]);go_cut [111] (fun cv wc=>∃(kq:Nat) (aa:Bool),cv= .bool aa∧Asd (spec_l1Read.j2 kq a0 a1 t185 t188 t189 aa=some (r1,r2))∧Asd (kq≤kj11)∧Drawn0 w wc)
         case first=>
          have H:=a7.out;clear a7;by_cases aP:t189<0
          ·rw[if_pos aP]at H;have ao:decide (t189<0)=true:=decide_eq_true aP;clear aP;(first|rw[ao]|(simp only[i64_w,i32_w];rw[ao])|skip);have H':=Asd.mk H;clear H;go_wp2;go_meet
           case rel=>exact⟨_,(true),(by first|rfl|(simp;done)|(simp[*];done)),H',⟨by have:=I.out;first|omega|exact Nat.le_refl _⟩,by repeat(first|exact Drawn0.refl _|apply Drawn0.step)⟩
          ·rw[if_neg aP]at H;have ao:decide (t189<0)=false:=decide_eq_false aP;clear aP;(first|rw[ao]|(simp only[i64_w,i32_w];rw[ao])|skip);have H':=Asd.mk H;clear H;go_wp2;go_meet
           case rel=>exact⟨_,(decide (t189≥(a1.size:Int))),(by first|rfl|(simp;done)|(simp[*];done)),H',⟨by have:=I.out;first|omega|exact Nat.le_refl _⟩,by repeat(first|exact Drawn0.refl _|apply Drawn0.step)⟩
         case rest=>
          clear a7;obtain⟨kq,aa,rfl,HA,aH,⟨dh,rfl⟩⟩:=hcut;cases kq with
          |zero=>exact absurd HA.out (by simp[spec_l1Read.j2])
          |succ kj34=>
           have H:=HA.out;clear HA;simp only[spec_l1Read.j2]at H;by_cases bp:aa=true
           ·subst bp;rw[if_pos rfl]at H;simp only[Option.some.injEq,Prod.mk.injEq]at H;obtain⟨rfl,rfl⟩:=H;go_wp2;go_ret2;exact⟨by first|rfl|(simp;done)|(simp[*];done),by repeat(first|exact Drawn0.refl _|apply Drawn0.step)⟩
           ·replace bp:=Bool.eq_false_iff.mpr bp;subst bp;rw[if_neg (show¬(false=true) by decide)]at H;replace H:=Option.bind_eq_some_iff.mp H;obtain⟨⟨t190,t191⟩,bA,H⟩:=H;try dsimp only at H
            have cV:=Asd.mk bA;clear bA;have bb:=Asd.mk H;clear H;go_upto_region 25 with(first|((with_reducible refine gate_callee (f:=119) rfl ?_);refine gsM (some 117) rfl rfl Try.func119 (by kernel_rfl) rfl #[.int .i64 a0,.string a1,.int .i64 (wrap64 (t189+1))] rfl ?_;(with_reducible refine(ih kj34 (by have:=I.out;have:=aH.out;omega) a0 a1 (wrap64 (t189+1)) t190 t191 _ cV.out).mono ?_);rintro e w' ⟨rfl,⟨nd,rfl⟩⟩;refine⟨_,rfl,?_⟩))
            (try simp only[Act.put,qA,qB,qC]);go_cut [133] (fun cw wc=>∃(kq:Nat) (ab:Bool),cw= .bool ab∧Asd (spec_l1Read.j3 kq a1 t185 t188 t189 t190 t191 ab=some (r1,r2))∧Asd (kq≤kj34)∧Drawn0 w wc)
            case first=>
             have H:=bb.out;clear bb;by_cases aQ:t191<0
             ·rw[if_pos aQ]at H;have aq:decide (t191<0)=true:=decide_eq_true aQ;clear aQ;(first|rw[aq]|(simp only[i64_w,i32_w];rw[aq])|skip);have H':=Asd.mk H;clear H;go_wp2;go_meet
              case rel=>exact⟨_,(true),(by first|rfl|(simp;done)|(simp[*];done)),H',⟨by have:=I.out;have:=aH.out;first|omega|exact Nat.le_refl _⟩,by repeat(first|exact Drawn0.refl _|apply Drawn0.step)⟩
             ·rw[if_neg aQ]at H;have aq:decide (t191<0)=false:=decide_eq_false aQ;clear aQ;(first|rw[aq]|(simp only[i64_w,i32_w];rw[aq])|skip);by_cases aR:t191≥(a1.size:Int)
              ·rw[if_pos aR]at H;have b0:decide ((a1.size:Int)≤t191)=true:=decide_eq_true aR;clear aR;have H':=Asd.mk H;clear H;go_wp2;go_meet
               case rel=>exact⟨_,(true),(by first|rfl|(simp;done)|(simp[*];done)),H',⟨by have:=I.out;have:=aH.out;first|omega|exact Nat.le_refl _⟩,by repeat(first|exact Drawn0.refl _|apply Drawn0.step)⟩
              ·rw[if_neg aR]at H;have b0:decide ((a1.size:Int)≤t191)=false:=decide_eq_false aR;clear aR;by_cases bq:0≤t191;rotate_left;(rw[if_neg bq]at H;exact absurd H (by simp));rw[if_pos bq]at H;have cW:decide (0≤t191)=true:=decide_eq_true bq;clear bq;by_cases br:t191<(a1.size:Int);rotate_left;(rw[if_neg br]at H;exact absurd H (by simp));rw[if_pos br]at H;have cX:decide (t191<(a1.size:Int))=true:=decide_eq_true br;clear br;have H':=Asd.mk H;clear H;have cx:0≤(t191:Int):=odt;have cy:t191<(a1.size:Int):=odt;have di:=bt_at a1 t191;replace cx:=eq_true cx;replace cy:=eq_true cy;go_wp2;go_meet
               case rel=>exact⟨_,(((bt a1 t191) !=41)),(by first|rfl|(simp;done)|(simp[*];done)),H',⟨by have:=I.out;have:=aH.out;first|omega|exact Nat.le_refl _⟩,by repeat(first|exact Drawn0.refl _|apply Drawn0.step)⟩
            case rest=>
             clear bb;obtain⟨kq,ab,rfl,HA,dj,⟨dk,rfl⟩⟩:=hcut;cases kq with
             |zero=>exact absurd HA.out (by simp[spec_l1Read.j3])
             |succ kj38=>
              have H:=HA.out;clear HA;simp only[spec_l1Read.j3]at H;by_cases bs:ab=true
              ·subst bs;rw[if_pos rfl]at H;simp only[Option.some.injEq,Prod.mk.injEq]at H;obtain⟨rfl,rfl⟩:=H;go_wp2;go_ret2;exact⟨by first|rfl|(simp;done)|(simp[*];done),by repeat(first|exact Drawn0.refl _|apply Drawn0.step)⟩
              ·replace bs:=Bool.eq_false_iff.mpr bs;subst bs;rw[if_neg (show¬(false=true) by decide)]at H;by_cases bu:0≤t189;rotate_left;(rw[if_neg bu]at H;exact absurd H (by simp));rw[if_pos bu]at H;have cY:decide (0≤t189)=true:=decide_eq_true bu;clear bu;by_cases bw:t189<(a1.size:Int);rotate_left;(rw[if_neg bw]at H;exact absurd H (by simp));rw[if_pos bw]at H;have c0:decide (t189<(a1.size:Int))=true:=decide_eq_true bw;clear bw;by_cases aC:(bt a1 t189)=38
               ·rw[if_pos aC]at H;have b1:((bt a1 t189)==38)=true:=beq_iff_eq.mpr aC;have b4:((bt a1 t189) !=38)=false:=bne_eq_false_iff_eq.mpr aC;clear aC;replace H:=Option.bind_eq_some_iff.mp H;obtain⟨t192,bB,H⟩:=H;try dsimp only at H
                have bf:=Asd.mk bB;clear bB;simp only[Option.some.injEq,Prod.mk.injEq]at H;obtain⟨rfl,rfl⟩:=H;have ar:0≤(t189:Int):=odt;have au:t189<(a1.size:Int):=odt;have bc:=bt_at a1 t189;replace ar:=eq_true ar;replace au:=eq_true au;go_wp2_with (first|((with_reducible refine gate_callee (f:=141) rfl ?_);refine gsM (some 141) rfl rfl Try.func141 (by kernel_rfl) rfl #[.int .i64 t188,.int .i64 t190] rfl ?_;(with_reducible refine(spec_l1Both.calls kj38 t188 t190 t192 _ bf.out).mono ?_);rintro e w' ⟨rfl,⟨nd,rfl⟩⟩;refine⟨_,rfl,?_⟩));go_ret2;exact⟨by first|rfl|(simp;done)|(simp[*];done),by repeat(first|exact Drawn0.refl _|apply Drawn0.step)⟩
               ·rw[if_neg aC]at H;have b1:((bt a1 t189)==38)=false:=beq_eq_false_iff_ne.mpr aC;have b4:((bt a1 t189) !=38)=true:=bne_iff_ne.mpr aC;by_cases aD:(bt a1 t189)=124
                ·rw[if_pos aD]at H;have b5:((bt a1 t189)==124)=true:=beq_iff_eq.mpr aD;have b6:((bt a1 t189) !=124)=false:=bne_eq_false_iff_eq.mpr aD;clear aD;replace H:=Option.bind_eq_some_iff.mp H;obtain⟨t193,bD,H⟩:=H;try dsimp only at H
                 have c1:=Asd.mk bD;clear bD;simp only[Option.some.injEq,Prod.mk.injEq]at H;obtain⟨rfl,rfl⟩:=H;have ar:0≤(t189:Int):=odt;have au:t189<(a1.size:Int):=odt;have bc:=bt_at a1 t189;replace ar:=eq_true ar;replace au:=eq_true au;go_wp2_with (first|((with_reducible refine gate_callee (f:=142) rfl ?_);refine gsM (some 148) rfl rfl Try.func142 (by kernel_rfl) rfl #[.int .i64 t188,.int .i64 t190] rfl ?_;(with_reducible refine(spec_l1Either.calls kj38 t188 t190 t193 _ c1.out).mono ?_);rintro e w' ⟨rfl,⟨nd,rfl⟩⟩;refine⟨_,rfl,?_⟩));go_ret2;exact⟨by first|rfl|(simp;done)|(simp[*];done),by repeat(first|exact Drawn0.refl _|apply Drawn0.step)⟩
                ·rw[if_neg aD]at H;have b5:((bt a1 t189)==124)=false:=beq_eq_false_iff_ne.mpr aD;have b6:((bt a1 t189) !=124)=true:=bne_iff_ne.mpr aD;by_cases aE:(bt a1 t189)=62
                 ·rw[if_pos aE]at H;have b7:((bt a1 t189)==62)=true:=beq_iff_eq.mpr aE;have b8:((bt a1 t189) !=62)=false:=bne_eq_false_iff_eq.mpr aE;clear aE;replace H:=Option.bind_eq_some_iff.mp H;obtain⟨t194,bF,H⟩:=H;try dsimp only at H
                  have da:=Asd.mk bF;clear bF;simp only[Option.some.injEq,Prod.mk.injEq]at H;obtain⟨rfl,rfl⟩:=H;have ar:0≤(t189:Int):=odt;have au:t189<(a1.size:Int):=odt;have bc:=bt_at a1 t189;replace ar:=eq_true ar;replace au:=eq_true au;go_wp2_with (first|((with_reducible refine gate_callee (f:=142) rfl ?_);refine gsM (some 157) rfl rfl Try.func142 (by kernel_rfl) rfl #[.int .i64 (wrap64 (t185 - t188)),.int .i64 t190] rfl ?_;(with_reducible refine(spec_l1Either.calls kj38 (wrap64 (t185 - t188)) t190 t194 _ da.out).mono ?_);rintro e w' ⟨rfl,⟨nd,rfl⟩⟩;refine⟨_,rfl,?_⟩));go_ret2;exact⟨by first|rfl|(simp;done)|(simp[*];done),by repeat(first|exact Drawn0.refl _|apply Drawn0.step)⟩
                 ·rw[if_neg aE]at H;have b7:((bt a1 t189)==62)=false:=beq_eq_false_iff_ne.mpr aE;have b8:((bt a1 t189) !=62)=true:=bne_iff_ne.mpr aE;simp only[Option.some.injEq,Prod.mk.injEq]at H;obtain⟨rfl,rfl⟩:=H;have ar:0≤(t189:Int):=odt;have au:t189<(a1.size:Int):=odt;have bc:=bt_at a1 t189;replace ar:=eq_true ar;replace au:=eq_true au;go_wp2;go_ret2;exact⟨by first|rfl|(simp;done)|(simp[*];done),by repeat(first|exact Drawn0.refl _|apply Drawn0.step)⟩
        ·rw[if_neg aB]at H;have bV:((bt a1 a2)==40)=false:=beq_eq_false_iff_ne.mpr aB;have bZ:((bt a1 a2) !=40)=true:=bne_iff_ne.mpr aB;simp only[Option.some.injEq,Prod.mk.injEq]at H;obtain⟨rfl,rfl⟩:=H;have al:0≤(a2:Int):=odt;have an:a2<(a1.size:Int):=odt;have a6:=bt_at a1 a2;replace al:=eq_true al;replace an:=eq_true an;have a8:0≤(a2:Int):=odt;have ba:a2<(a1.size:Int):=odt;have cu:=bt_at a1 a2;replace a8:=eq_true a8;replace ba:=eq_true ba;go_wp2;go_ret2;exact⟨by first|rfl|(simp;done)|(simp[*];done),by repeat(first|exact Drawn0.refl _|apply Drawn0.step)⟩

/-! ### spec_HoldsIn: function 83 -/
def spec_HoldsIn.j0:Nat→Int→ByteArray→Bool→Option (Int×Bool)
 |0,_,_,_=>none
 |k+1,x0,x1,x15=>if x15=true then(some ((-1),false))else((spec_l1Read.f k x0 x1 0).bind fun bd=>(if bd.2=(x1.size:Int)then(some (bd.1,true))else(some ((-1),false))))
def spec_HoldsIn.f (k:Nat) (a0:Int) (a1:ByteArray):Option (Int×Bool):=(spec_l1In.f a0 1 3).bind fun t195=>(if t195=true then(spec_HoldsIn.j0 k a0 a1 (decide ((a1.size:Int)>120)))else(spec_HoldsIn.j0 k a0 a1 true))
theorem spec_HoldsIn.mono_l:∀k,(∀y0 y1 y2,LeO (spec_HoldsIn.j0 k y0 y1 y2) (spec_HoldsIn.j0 (k+1) y0 y1 y2))
 |0=>fun _ _ _ r h=>by simp[spec_HoldsIn.j0]at h
 |k+1=>by
  have ah:=spec_HoldsIn.mono_l k
  ·intro y0 y1 y2;unfold spec_HoldsIn.j0;repeat' first
   |(with_reducible first|exact ah _ _ _|exact spec_l1Read.mono _ _ _ _|exact LeO.refl _|exact LeO.none _|refine LeO.ite ?_ ?_|refine LeO.bind ?_ (fun _=>?_))
   |refine LeO.ite ?_ ?_
   |refine LeO.bind ?_ (fun _=>?_)
theorem spec_HoldsIn.mono:∀a0 a1 k,LeO (spec_HoldsIn.f k a0 a1) (spec_HoldsIn.f (k+1) a0 a1):=by
 intro a0 a1 k;have ah:=spec_HoldsIn.mono_l k;unfold spec_HoldsIn.f
 repeat' first
   |(with_reducible first|exact ah _ _ _|exact spec_l1Read.mono _ _ _ _|exact LeO.refl _|exact LeO.none _|refine LeO.ite ?_ ?_|refine LeO.bind ?_ (fun _=>?_))
   |refine LeO.ite ?_ ?_
   |refine LeO.bind ?_ (fun _=>?_)
set_option maxHeartbeats 8000000 in
set_option maxRecDepth 100000 in
theorem spec_HoldsIn.calls (k:Nat) (a0:Int) (a1:ByteArray) (r1:Int) (r2:Bool) (w:World) (h:spec_HoldsIn.f k a0 a1=some (r1,r2)):
  Calls Try.prog 83 #[.int .i64 a0,.string a1] w fun e w'=>e= .returned (.tuple #[.int .i64 r1,.bool r2])∧Drawn0 w w':=by
 have H:((spec_l1In.f a0 1 3).bind fun t195=>(if t195=true then(spec_HoldsIn.j0 k a0 a1 (decide ((a1.size:Int)>120)))else(spec_HoldsIn.j0 k a0 a1 true)))=some (r1,r2):=h;clear h;have b9:=Asd.mk H;clear H;go_enter Try.func83,Try.ntmps83;go_upto_region 1 with(fail)
 go_cut [15] (fun db wc=>∃(kq:Nat) (ax:Bool),db= .bool ax∧Asd (spec_HoldsIn.j0 kq a0 a1 ax=some (r1,r2))∧Asd (kq≤k)∧Drawn0 w wc)
 case first=>
  have H:=b9.out;clear b9;replace H:=Option.bind_eq_some_iff.mp H;obtain⟨t195,cz,H⟩:=H;try dsimp only at H
  have A4:=Asd.mk cz;clear cz;by_cases c5:t195=true
  ·subst c5;rw[if_pos rfl]at H;have H':=Asd.mk H;clear H;go_wp2_with (first|((with_reducible refine gate_callee (f:=72) rfl ?_);refine gsM (some 9) rfl rfl Try.func72 (by kernel_rfl) rfl #[.int .i64 a0,.int .i64 1,.int .i64 3] rfl ?_;(with_reducible refine(spec_l1In.calls a0 1 3 true _ A4.out).mono ?_);rintro e w' ⟨rfl,⟨nd,rfl⟩⟩;refine⟨_,rfl,?_⟩));go_meet
   case rel=>exact⟨_,(decide ((a1.size:Int)>120)),(by first|rfl|(simp;done)|(simp[*];done)),H',⟨by first|omega|exact Nat.le_refl _⟩,by repeat(first|exact Drawn0.refl _|apply Drawn0.step)⟩
  ·replace c5:=Bool.eq_false_iff.mpr c5;subst c5;rw[if_neg (show¬(false=true) by decide)]at H;have H':=Asd.mk H;clear H;go_wp2_with (first|((with_reducible refine gate_callee (f:=72) rfl ?_);refine gsM (some 9) rfl rfl Try.func72 (by kernel_rfl) rfl #[.int .i64 a0,.int .i64 1,.int .i64 3] rfl ?_;(with_reducible refine(spec_l1In.calls a0 1 3 false _ A4.out).mono ?_);rintro e w' ⟨rfl,⟨nd,rfl⟩⟩;refine⟨_,rfl,?_⟩));go_meet
   case rel=>exact⟨_,(true),(by first|rfl|(simp;done)|(simp[*];done)),H',⟨by first|omega|exact Nat.le_refl _⟩,by repeat(first|exact Drawn0.refl _|apply Drawn0.step)⟩
 case rest=>
  clear b9;obtain⟨kq,ax,rfl,HA,dm,⟨dn,rfl⟩⟩:=hcut;cases kq with
  |zero=>exact absurd HA.out (by simp[spec_HoldsIn.j0])
  |succ kj2=>
   have H:=HA.out;clear HA;simp only[spec_HoldsIn.j0]at H;by_cases c6:ax=true
   ·subst c6;rw[if_pos rfl]at H;simp only[Option.some.injEq,Prod.mk.injEq]at H;obtain⟨rfl,rfl⟩:=H;go_wp2;go_ret2;exact⟨by first|rfl|(simp;done)|(simp[*];done),by repeat(first|exact Drawn0.refl _|apply Drawn0.step)⟩
   ·replace c6:=Bool.eq_false_iff.mpr c6;subst c6;rw[if_neg (show¬(false=true) by decide)]at H;replace H:=Option.bind_eq_some_iff.mp H;obtain⟨⟨t196,t197⟩,cA,H⟩:=H;try dsimp only at H
    have A7:=Asd.mk cA;clear cA;by_cases c8:t197=(a1.size:Int)
    ·rw[if_pos c8]at H;have cB:(t197==(a1.size:Int))=true:=beq_iff_eq.mpr c8;have cC:(t197 !=(a1.size:Int))=false:=bne_eq_false_iff_eq.mpr c8;clear c8;simp only[Option.some.injEq,Prod.mk.injEq]at H;obtain⟨rfl,rfl⟩:=H;go_wp2_with (first|((with_reducible refine gate_callee (f:=119) rfl ?_);refine gsM (some 19) rfl rfl Try.func119 (by kernel_rfl) rfl #[.int .i64 a0,.string a1,.int .i64 0] rfl ?_;(with_reducible refine(spec_l1Read.calls kj2 a0 a1 0 t196 t197 _ A7.out).mono ?_);rintro e w' ⟨rfl,⟨nd,rfl⟩⟩;refine⟨_,rfl,?_⟩));go_ret2;exact⟨by first|rfl|(simp;done)|(simp[*];done),by repeat(first|exact Drawn0.refl _|apply Drawn0.step)⟩
    ·rw[if_neg c8]at H;have cB:(t197==(a1.size:Int))=false:=beq_eq_false_iff_ne.mpr c8;have cC:(t197 !=(a1.size:Int))=true:=bne_iff_ne.mpr c8;simp only[Option.some.injEq,Prod.mk.injEq]at H;obtain⟨rfl,rfl⟩:=H;go_wp2_with (first|((with_reducible refine gate_callee (f:=119) rfl ?_);refine gsM (some 19) rfl rfl Try.func119 (by kernel_rfl) rfl #[.int .i64 a0,.string a1,.int .i64 0] rfl ?_;(with_reducible refine(spec_l1Read.calls kj2 a0 a1 0 t196 t197 _ A7.out).mono ?_);rintro e w' ⟨rfl,⟨nd,rfl⟩⟩;refine⟨_,rfl,?_⟩));go_ret2;exact⟨by first|rfl|(simp;done)|(simp[*];done),by repeat(first|exact Drawn0.refl _|apply Drawn0.step)⟩

end Go.Proofs.Ytihgpkohglcijaa.P
