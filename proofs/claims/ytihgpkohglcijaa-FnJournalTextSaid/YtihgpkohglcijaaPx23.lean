-- Written by a program of this session (wip/hook.py), which runs the kit's printer; Lean checks it.
import Derived.Test.YtihgpkohglcijaaPx0
import Derived.Test.YtihgpkohglcijaaPx1
import Derived.Test.YtihgpkohglcijaaPx2
namespace Go.Proofs.Ytihgpkohglcijaa.P
open Go.RowKit Go.Proofs.YtihgpkohglcijaaW.PrintWords Go.Proofs.YtihgpkohglcijaaW.PrintLast Go.Proofs.YtihgpkohglcijaaW.PrintMore
attribute [local go_sem] max2_int min2_int max_two min_two max_three min_three max_four min_four   -- for this text's walks alone
set_option linter.unusedVariables false
set_option linter.unusedSimpArgs false

attribute [local go_sem high] eqA26
/-! ### spec_l10Plain: function 73 -/
def spec_l10Plain.l0:Nat→ByteArray→Int→Option (Bool)
 |0,_,_=>none
 |k+1,x0,x3=>if x3<(x0.size:Int)then(if 0≤x3 then(if(bt x0 x3)<32 then(some false)else(if(bt x0 x3)>126 then(some false)else(spec_l10Plain.l0 k x0 (wrap64 (x3+1)))))else(none))else(some (decide ((x0.size:Int)>0)))
def spec_l10Plain.f (k:Nat) (a0:ByteArray):Option (Bool):=spec_l10Plain.l0 k a0 0
theorem spec_l10Plain.mono_l:∀k,(∀y0 y1,LeO (spec_l10Plain.l0 k y0 y1) (spec_l10Plain.l0 (k+1) y0 y1))
 |0=>fun _ _ r h=>by simp[spec_l10Plain.l0]at h
 |k+1=>by
  have ag:=spec_l10Plain.mono_l k
  ·intro y0 y1;unfold spec_l10Plain.l0;repeat' first
   |(with_reducible first|exact ag _ _|exact LeO.refl _|exact LeO.none _|refine LeO.ite ?_ ?_|refine LeO.bind ?_ (fun _=>?_))
   |refine LeO.ite ?_ ?_
   |refine LeO.bind ?_ (fun _=>?_)
theorem spec_l10Plain.mono:∀a0 k,LeO (spec_l10Plain.f k a0) (spec_l10Plain.f (k+1) a0):=by
 intro a0 k;have ag:=spec_l10Plain.mono_l k;unfold spec_l10Plain.f
 repeat' first
   |(with_reducible first|exact ag _ _|exact LeO.refl _|exact LeO.none _|refine LeO.ite ?_ ?_|refine LeO.bind ?_ (fun _=>?_))
   |refine LeO.ite ?_ ?_
   |refine LeO.bind ?_ (fun _=>?_)
set_option maxHeartbeats 8000000 in
set_option maxRecDepth 100000 in
theorem spec_l10Plain.calls (k:Nat) (a0:ByteArray) (r:Bool) (w:World) (h:spec_l10Plain.f k a0=some r):
  Calls Try.prog 73 #[.string a0] w fun e w'=>e= .returned (.bool r)∧Drawn0 w w':=by
 have H:(spec_l10Plain.l0 k a0 0)=some r:=h;clear h;have H':=Asd.mk H;clear H;go_enter Try.func73,Try.ntmps73;go_wp2;go_loopg [3] k (fun kq v3 w'=>∃(I:Int),v3= .int .i64 I∧Asd (spec_l10Plain.l0 kq a0 I=some r)∧Asd (kq≤k)∧Drawn0 w w')
 case atStart=>exact⟨(0),(by first|rfl|(simp;done)|(simp[*];done)),H',⟨Nat.le_refl _⟩,by repeat(first|exact Drawn0.refl _|apply Drawn0.step)⟩
 case round=>
  clear H';obtain⟨I,rfl,HA,ax,⟨m1,rfl⟩⟩:=hrel;cases gk with
  |zero=>exact absurd HA.out (by simp[spec_l10Plain.l0])
  |succ k1=>
   have H:=HA.out;clear HA;simp only[spec_l10Plain.l0]at H;by_cases c2:I<(a0.size:Int)
   ·rw[if_pos c2]at H;have aq:decide (I<(a0.size:Int))=true:=decide_eq_true c2;clear c2;by_cases c3:0≤I;rotate_left;(rw[if_neg c3]at H;exact absurd H (by simp));rw[if_pos c3]at H;have aU:decide (0≤I)=true:=decide_eq_true c3;clear c3;by_cases c5:(bt a0 I)<32
    ·rw[if_pos c5]at H;have aV:decide ((bt a0 I)<32)=true:=decide_eq_true c5;clear c5;obtain rfl:=Option.some.inj H;have p4:0≤(I:Int):=odt;have q4:I<(a0.size:Int):=odt;have cg:=bt_at a0 I;replace p4:=eq_true p4;replace q4:=eq_true q4;go_wp2;go_ret;exact⟨by first|rfl|(simp;done)|(simp[*];done),by repeat(first|exact Drawn0.refl _|apply Drawn0.step)⟩
    ·rw[if_neg c5]at H;have aV:decide ((bt a0 I)<32)=false:=decide_eq_false c5;clear c5;by_cases c7:(bt a0 I)>126
     ·rw[if_pos c7]at H;have ch:decide (126<(bt a0 I))=true:=decide_eq_true c7;clear c7;obtain rfl:=Option.some.inj H;have p4:0≤(I:Int):=odt;have q4:I<(a0.size:Int):=odt;have cg:=bt_at a0 I;replace p4:=eq_true p4;replace q4:=eq_true q4;have p6:0≤(I:Int):=odt;have q6:I<(a0.size:Int):=odt;have df:=bt_at a0 I;replace p6:=eq_true p6;replace q6:=eq_true q6;go_wp2;go_ret;exact⟨by first|rfl|(simp;done)|(simp[*];done),by repeat(first|exact Drawn0.refl _|apply Drawn0.step)⟩
     ·rw[if_neg c7]at H;have ch:decide (126<(bt a0 I))=false:=decide_eq_false c7;clear c7;have H':=Asd.mk H;clear H;have p4:0≤(I:Int):=odt;have q4:I<(a0.size:Int):=odt;have cg:=bt_at a0 I;replace p4:=eq_true p4;replace q4:=eq_true q4;have p6:0≤(I:Int):=odt;have q6:I<(a0.size:Int):=odt;have df:=bt_at a0 I;replace p6:=eq_true p6;replace q6:=eq_true q6;go_wp2;go_roundg k1
      case measure=>have:=ax.out;omega
      case rel=>exact⟨(wrap64 (I+1)),(by first|rfl|(simp;done)|(simp[*];done)),H',⟨by have:=ax.out;omega⟩,by repeat(first|exact Drawn0.refl _|apply Drawn0.step)⟩
   ·rw[if_neg c2]at H;have aq:decide (I<(a0.size:Int))=false:=decide_eq_false c2;clear c2;obtain rfl:=Option.some.inj H;go_wp2;go_ret;exact⟨by first|rfl|(simp;done)|(simp[*];done),by repeat(first|exact Drawn0.refl _|apply Drawn0.step)⟩

/-! ### spec_DeedText: function 20 -/
def spec_DeedText.j0:Nat→Bool→Int→ByteArray→Option (ByteArray)
 |0,_,_,_=>none
 |k+1,x3,x680000,x680001=>if x3=true then((some (([(⟨#[102,105,114,115,116]⟩:ByteArray),(⟨#[97,108,108]⟩:ByteArray)]:List ByteArray):List ByteArray)).bind fun ae=>(if 0≤x680000 then(if x680000<(ae.length:Int)then(if(rdOf ByteArray.empty ae x680000).size+1≤9223372036854775807 then(if((rdOf ByteArray.empty ae x680000)++(⟨#[32]⟩:ByteArray)).size+x680001.size≤9223372036854775807 then(some (((rdOf ByteArray.empty ae x680000)++(⟨#[32]⟩:ByteArray))++x680001))else(none))else(none))else(none))else(none)))else(if(x680000==2&&(x680001.toList==([]:List UInt8)))=true then(some (⟨#[98,97,99,107]⟩:ByteArray))else(some (⟨#[]⟩:ByteArray)))
def spec_DeedText.f (k:Nat) (j:Int) (o:ByteArray):Option (ByteArray):=(spec_l1In.f j 0 1).bind fun aL=>(if aL=true then((spec_l10Plain.f k o).bind fun aJ=>(spec_DeedText.j0 k aJ j o))else(spec_DeedText.j0 k false j o))
theorem spec_DeedText.mono_l:∀k,(∀y0 y1 y2,LeO (spec_DeedText.j0 k y0 y1 y2) (spec_DeedText.j0 (k+1) y0 y1 y2))
 |0=>fun _ _ _ r h=>by simp[spec_DeedText.j0]at h
 |k+1=>by
  have ag:=spec_DeedText.mono_l k
  ·intro y0 y1 y2;unfold spec_DeedText.j0;repeat' first
   |(with_reducible first|exact ag _ _ _|exact spec_l10Plain.mono _ _|exact LeO.refl _|exact LeO.none _|refine LeO.ite ?_ ?_|refine LeO.bind ?_ (fun _=>?_))
   |refine LeO.ite ?_ ?_
   |refine LeO.bind ?_ (fun _=>?_)
theorem spec_DeedText.mono:∀a0 a1 k,LeO (spec_DeedText.f k a0 a1) (spec_DeedText.f (k+1) a0 a1):=by
 intro a0 a1 k;have ag:=spec_DeedText.mono_l k;unfold spec_DeedText.f
 repeat' first
   |(with_reducible first|exact ag _ _ _|exact spec_l10Plain.mono _ _|exact LeO.refl _|exact LeO.none _|refine LeO.ite ?_ ?_|refine LeO.bind ?_ (fun _=>?_))
   |refine LeO.ite ?_ ?_
   |refine LeO.bind ?_ (fun _=>?_)
def spec_DeedText.T2:Bool×List (List Nat×List Nat):=(true,[([],[]),([],[]),([1],[1]),([0,2],[0,2]),([3],[3]),([4],[4]),([],[]),([6],[6]),([5,7],[5,7]),([8,0,1,2,3,4,5,6,7,8],[8])])
def spec_DeedText.B2:List Nat:=[0,0,2,7,15,31,0,64,255,511]
theorem spec_DeedText.tab2:rtab .any (opsOf Try.f20 2)=spec_DeedText.T2:=by kernel_rfl
theorem spec_DeedText.bits2:waitsOk spec_DeedText.T2.2 spec_DeedText.B2=true:=by kernel_rfl
set_option maxHeartbeats 8000000 in
set_option maxRecDepth 100000 in
theorem spec_DeedText.calls (k:Nat) (j:Int) (o:ByteArray) (r:ByteArray) (w:World) (h:spec_DeedText.f k j o=some r):
  Calls Try.prog 20 #[.agg #[.int .i64 j,.string o]] w fun e w'=>e= .returned (.string r)∧Below w.heap.size w w':=by
 have aW:=Try.underlying26;have HB:=Asd.mk (Below.refl w.heap.size w);have H:((spec_l1In.f j 0 1).bind fun aL=>(if aL=true then((spec_l10Plain.f k o).bind fun aJ=>(spec_DeedText.j0 k aJ j o))else(spec_DeedText.j0 k false j o)))=some r:=h;clear h;have bH:=Asd.mk H;clear H;go_enter Try.func20,Try.ntmps20;go_upto_region 1 with(first|((with_reducible refine gate_dst (N:=1) rfl ?_);refine bxE ?hg (N:=1) ?hd (cs:= #[.int .i64 j,.string o]) (t:=26) ?hr ?_;(case hd=>rfl);(case hg=>rfl);(case hr=>first|(go_simp;done)|(go_simp;rfl));intro aN hg w3 an hb;have ad:=Asd.mk (an);have dg:=bG HB hg;have dh:=bG HB hg;replace HB:=bW HB hb;clear hb an hg))
 (try simp only[Act.put,qA,qB,qC]);go_cut [3] (fun v3 wc=>∃(kq:Nat) (I:Bool),v3= .bool I∧Asd (spec_DeedText.j0 kq I j o=some r)∧Asd (kq≤k)∧Asd (wc.heap[aN]?=some (.cells #[.int .i64 j,.string o] 26 (0,0)))∧Asd (Below w.heap.size w wc))
 case first=>
  have H:=bH.out;clear bH;replace H:=Option.bind_eq_some_iff.mp H;obtain⟨aL,aY,H⟩:=H;try dsimp only at H
  have A4:=Asd.mk aY;clear aY;by_cases c5:aL=true
  ·subst c5;rw[if_pos rfl]at H;replace H:=Option.bind_eq_some_iff.mp H;obtain⟨aJ,cj,H⟩:=H;try dsimp only at H
   have A6:=Asd.mk cj;clear cj;have H':=Asd.mk H;clear H;obtain⟨br,bs,bu,bw⟩:=b2 ad;go_wp2_with (first|((with_reducible refine gate_callee (f:=72) rfl ?_);refine gsM (some 6) rfl rfl Try.func72 (by kernel_rfl) rfl #[.int .i64 j,.int .i64 0,.int .i64 1] rfl ?_;(with_reducible refine(spec_l1In.calls j 0 1 true _ A4.out).mono ?_);rintro e w' ⟨rfl,⟨nd,rfl⟩⟩;refine⟨_,rfl,?_⟩)|(go_at_call 73;(with_reducible refine(spec_l10Plain.calls k o aJ _ A6.out).mono ?_);rintro e w' ⟨rfl,⟨nd,rfl⟩⟩));go_meet
   case rel=>exact⟨_,(aJ),(by first|rfl|(simp;done)|(simp[*];done)),H',⟨by first|omega|exact Nat.le_refl _⟩,⟨kS ad⟩,⟨wZ HB⟩⟩
  ·replace c5:=Bool.eq_false_iff.mpr c5;subst c5;rw[if_neg (show¬(false=true) by decide)]at H;have H':=Asd.mk H;clear H;obtain⟨bx,bz,bA,bB⟩:=b2 ad;go_wp2_with (first|((with_reducible refine gate_callee (f:=72) rfl ?_);refine gsM (some 6) rfl rfl Try.func72 (by kernel_rfl) rfl #[.int .i64 j,.int .i64 0,.int .i64 1] rfl ?_;(with_reducible refine(spec_l1In.calls j 0 1 false _ A4.out).mono ?_);rintro e w' ⟨rfl,⟨nd,rfl⟩⟩;refine⟨_,rfl,?_⟩));go_meet
   case rel=>exact⟨_,(false),(by first|rfl|(simp;done)|(simp[*];done)),H',⟨by first|omega|exact Nat.le_refl _⟩,⟨kS ad⟩,⟨wZ HB⟩⟩
 case rest=>
  clear bH;obtain⟨kq,I,rfl,HA,dS,ad,HB⟩:=hcut;cases kq with
  |zero=>exact absurd HA.out (by simp[spec_DeedText.j0])
  |succ kj1=>
   have H:=HA.out;clear HA;simp only[spec_DeedText.j0]at H;by_cases c9:I=true
   ·subst c9;rw[if_pos rfl]at H;obtain⟨ae,ay⟩:∃y_:List ByteArray,y_=(([(⟨#[102,105,114,115,116]⟩:ByteArray),(⟨#[97,108,108]⟩:ByteArray)]:List ByteArray)):=⟨_,rfl⟩;replace H:(if 0≤j then(if j<(ae.length:Int)then(if(rdOf ByteArray.empty ae j).size+1≤9223372036854775807 then(if((rdOf ByteArray.empty ae j)++(⟨#[32]⟩:ByteArray)).size+o.size≤9223372036854775807 then(some (((rdOf ByteArray.empty ae j)++(⟨#[32]⟩:ByteArray))++o))else(none))else(none))else(none))else(none))=some r:=by first|(rw[ay];with_reducible exact H)|(have bI:=(Option.bind_some _ _).symm.trans H;rw[ay];with_reducible exact bI)|(have bI:=(Option.bind_some _ _).symm.trans H;with_reducible exact bI)|with_reducible exact H|(rw[ay];exact H)|exact H
    have aO:=Asd.mk ay;clear ay;by_cases c10:0≤j;rotate_left;(rw[if_neg c10]at H;exact absurd H (by simp));rw[if_pos c10]at H;have bJ:decide (0≤j)=true:=decide_eq_true c10;clear c10;by_cases az:j<(ae.length:Int);rotate_left;(rw[if_neg az]at H;exact absurd H (by simp));rw[if_pos az]at H;have bO:decide (j<(ae.length:Int))=true:=decide_eq_true az;clear az;by_cases aI:(rdOf ByteArray.empty ae j).size+1≤9223372036854775807;rotate_left;(rw[if_neg aI]at H;exact absurd H (by simp));rw[if_pos aI]at H;have di:=eq_true aI;have dj:decide ((rdOf ByteArray.empty ae j).size+1≤9223372036854775807)=true:=decide_eq_true aI;try have dk:(9223372036854775807<(rdOf ByteArray.empty ae j).size+1)=False:=eq_false (Nat.not_lt.2 aI)
    by_cases au:((rdOf ByteArray.empty ae j)++(⟨#[32]⟩:ByteArray)).size+o.size≤9223372036854775807;rotate_left;(rw[if_neg au]at H;exact absurd H (by simp));rw[if_pos au]at H;have aZ:=eq_true au;have a6:decide (((rdOf ByteArray.empty ae j)++(⟨#[32]⟩:ByteArray)).size+o.size≤9223372036854775807)=true:=decide_eq_true au;try have dm:(9223372036854775807<((rdOf ByteArray.empty ae j)++(⟨#[32]⟩:ByteArray)).size+o.size)=False:=eq_false (Nat.not_lt.2 au)
    (try have dn:(9223372036854775807<(rdOf ByteArray.empty ae j).size+1+o.size)=False:=eq_false (by have h_:=au;(repeat rw[ByteArray.size_append]at h_);exact Nat.not_lt.2 h_));obtain rfl:=Option.some.inj H;try go_wp2
    have dp:(0≤(j:Int))=True:=eq_true (odt);have dq:(j<(ae.length:Int))=True:=eq_true (odt);replace ad:=Asd.mk (bkD ad.out);replace HB:=Asd.mk (bwD HB.out);refine start_ (n:=10) (S:=fun w'=>w'.cell? ⟨aN,0,none⟩=some (.int .i64 j)∧w'.cell? ⟨aN,1,none⟩=some (.string o)) (ds:=[]) #[false,false,false,false,false,false,false,false,false,false] (by kernel_rfl) rfl rfl ⟨(bkC ad.out 0).trans rfl,(bkC ad.out 1).trans rfl⟩ (fun hHeld=>?_);refine with_tabW spec_DeedText.tab2 spec_DeedText.bits2 (fun aA ck=>?_);generalize wc.drew=w14 at ad HB hHeld⊢;refine pure_ (i:=1) (N:=some 13) (v:=?_) (a':=?_) #[false,true,false,false,false,false,false,false,false,false] rfl rfl (any_of aA.out (by kernel_rfl)) (fun _ _ _ h=>h) (Or.inl ⟨by rfl,?_⟩) ?_ ?_;rotate_left
    ·intro w';go_simp;with_reducible rfl
    rotate_left
    ·simp only[Act.put,qA,qB,qC,i64_w,i32_w];rfl
    refine pure_ (i:=6) (N:=some 18) (v:=?_) (a':=?_) #[false,true,false,false,false,false,true,false,false,false] rfl rfl (any_of aA.out (by kernel_rfl)) (fun _ _ _ h=>h) (Or.inl ⟨by rfl,?_⟩) ?_ ?_;rotate_left
    ·intro w';go_simp;with_reducible rfl
    rotate_left
    ·simp only[Act.put,qA,qB,qC,i64_w,i32_w];rfl
    refine take_ (i:=2) (N:=some 14) (v:=?_) (a':=?_) #[false,true,true,false,false,false,true,false,false,false] rfl rfl (take_ofW aA.out ck.out (by kernel_rfl)) (fun _ _ _ h=>h) (Or.inl ⟨by rfl,?_⟩) hHeld ?_ ?_;rotate_left
    ·rintro w' ⟨s0,s1⟩;go_simp;with_reducible rfl
    rotate_left
    ·simp only[Act.put,qA,qB,qC,i64_w,i32_w];rfl
    refine take_ (i:=7) (N:=some 19) (v:=?_) (a':=?_) #[false,true,true,false,false,false,true,true,false,false] rfl rfl (take_ofW aA.out ck.out (by kernel_rfl)) (fun _ _ _ h=>h) (Or.inl ⟨by rfl,?_⟩) hHeld ?_ ?_;rotate_left
    ·rintro w' ⟨s0,s1⟩;go_simp;with_reducible rfl
    rotate_left
    ·simp only[Act.put,qA,qB,qC,i64_w,i32_w];rfl
    refine one_ (i:=0) (N:=some 12) #[true,true,true,false,false,false,true,true,false,false] rfl rfl (one_of aA.out (by kernel_rfl)) (by decide) (fun K hK=>?_);refine Kd.R_lit_step Kd.string _ 9 ?hg (N:=12) ?hd (xs:=([(⟨#[102,105,114,115,116]⟩:ByteArray),(⟨#[97,108,108]⟩:ByteArray)]:List ByteArray)) (inner:=[.string (⟨#[102,105,114,115,116]⟩:ByteArray),.string (⟨#[97,108,108]⟩:ByteArray)]) (ok:=fun _=>True) (okp:=fun _=>True) ?hr ?hp (fun _ hk=>hk) trivial (Below.refl _ _) (Nat.le_refl _) (by simp) ?_;(case hd=>rfl);(case hg=>rfl);(case hr=>first|(go_simp;done)|(go_simp;rfl));(case hp=>exact(Reps.one (show Kd.M Kd.string _ _ _ (⟨#[102,105,114,115,116]⟩:ByteArray) [.string (⟨#[102,105,114,115,116]⟩:ByteArray)] from rfl) (Reps.one (show Kd.M Kd.string _ _ _ (⟨#[97,108,108]⟩:ByteArray) [.string (⟨#[97,108,108]⟩:ByteArray)] from rfl) (Reps.none _ _))));intro dJ w15 aM hb dr bT;clear dr bT;(first|rw[←aO.out]at aM|(simp only[Int.reduceToNat]at aM;rw[←aO.out]at aM));have aP:=Asd.mk (Kd.R_lower aM (below_size (wZ HB)));replace ad:=bU ad hb;replace HB:=bW HB hb;clear hb aM;obtain⟨dK,dL,cl⟩:=Kd.R_slice aP.out;subst cl;obtain⟨bV,cm,_⟩:=Kd.at_string (Kd.R_reads' aP.out).2.2 0 (by decide) (by rw[aO.out];simp);cases cm;refine hK.out _ _ ⟨(bkC ad.out 0).trans rfl,(bkC ad.out 1).trans rfl⟩ (fun hHeld=>?_);clear hK K;refine norm_ (a':=?_) ?_ ?_;rotate_left
    ·show Act.put _ (some 12) _=_
     simp only[Act.put,qA,qB,qC,i64_w,i32_w];rfl
    refine pure_ (i:=3) (N:=some 15) (v:=?_) (a':=?_) #[true,true,true,true,false,false,true,true,false,false] rfl rfl (any_of aA.out (by kernel_rfl)) (fun _ _ _ h=>h) (Or.inl ⟨by rfl,?_⟩) ?_ ?_;rotate_left
    ·intro w';go_simp;with_reducible rfl
    rotate_left
    ·simp only[Act.put,qA,qB,qC,i64_w,i32_w];rfl
    refine one_ (i:=4) (N:=some 16) #[true,true,true,true,true,false,true,true,false,false] rfl rfl (one_of aA.out (by kernel_rfl)) (by decide) (fun K hK=>?_);(have cn:0≤(j:Int):=odt;have cp:j<(ae.length:Int):=odt;obtain⟨bZ,cq,a7⟩:=Kd.at_string (Kd.R_reads' aP.out).2.2 j cn cp;obtain rfl:bV=bZ:=(by injection cq));refine value_ (w1:=?_) (v:=?_) (by rfl) rfl ?_ ?_;rotate_left 2
    ·go_simp;constructor
     ·rfl
     ·rfl
    clear a7;refine hK.out _ _ ⟨(bkC ad.out 0).trans rfl,(bkC ad.out 1).trans rfl⟩ (fun hHeld=>?_);clear hK K;refine norm_ (a':=?_) ?_ ?_;rotate_left
    ·show Act.put _ (some 16) _=_
     simp only[Act.put,qA,qB,qC,i64_w,i32_w];rfl
    refine pure_ (i:=5) (N:=some 17) (v:=?_) (a':=?_) #[true,true,true,true,true,true,true,true,false,false] rfl rfl (any_of aA.out (by kernel_rfl)) (fun _ _ _ h=>h) (Or.inl ⟨by rfl,?_⟩) ?_ ?_;rotate_left
    ·intro w';go_simp;with_reducible rfl
    rotate_left
    ·simp only[Act.put,qA,qB,qC,i64_w,i32_w];rfl
    refine pure_ (i:=8) (N:=some 20) (v:=?_) (a':=?_) #[true,true,true,true,true,true,true,true,true,false] rfl rfl (any_of aA.out (by kernel_rfl)) (fun _ _ _ h=>h) (Or.inl ⟨by rfl,?_⟩) ?_ ?_;rotate_left
    ·intro w';go_simp;with_reducible rfl
    rotate_left
    ·simp only[Act.put,qA,qB,qC,i64_w,i32_w];rfl
    refine pure_ (i:=9) (N:=some 2) (v:=?_) (a':=?_) #[true,true,true,true,true,true,true,true,true,true] rfl rfl (any_of aA.out (by kernel_rfl)) (fun _ _ _ h=>h) (Or.inl ⟨by rfl,?_⟩) ?_ ?_;rotate_left
    ·intro w';go_simp;with_reducible rfl
    rotate_left
    ·simp only[Act.put,qA,qB,qC,i64_w,i32_w];rfl
    refine done_ (done_of aA.out (by kernel_rfl)) ?_;try go_wp2
    go_ret;exact⟨by first|rfl|(simp[*,errW_none,errW_some]<;>rfl),wZ HB⟩
   ·replace c9:=Bool.eq_false_iff.mpr c9;subst c9;rw[if_neg (show¬(false=true) by decide)]at H;by_cases aB:(j==2&&(o.toList==([]:List UInt8)))=true
    ·rw[if_pos aB]at H;have aQ:(j==2&&(o.toList==([]:List UInt8)))=true:=aB;try have b0:(j==2&&o.toList.isEmpty)=true:=by have h_:=aQ;(repeat rw[Hof.isEmpty_beq]);exact h_
     (try(have b1:decide (j=2&&(o.toList==([]:List UInt8)))=true:=by simpa using aB));(try(have b4:(j==2&&(o.toList==([]:List UInt8)))=true:=by simpa using aB));clear aB;obtain rfl:=Option.some.inj H;obtain⟨a8,ba,bb,bc⟩:=b2 ad;go_wp2;go_ret;exact⟨by first|rfl|(simp[*,errW_none,errW_some]<;>rfl),wZ HB⟩
    ·rw[if_neg aB]at H;have aQ:(j==2&&(o.toList==([]:List UInt8)))=false:=by simpa using aB
     (try have b0:(j==2&&o.toList.isEmpty)=false:=by have h_:=aQ;(repeat rw[Hof.isEmpty_beq]);exact h_);(try(have b1:decide (j=2&&(o.toList==([]:List UInt8)))=false:=by simpa using aB));(try(have b4:(j==2&&(o.toList==([]:List UInt8)))=false:=by simpa using aB));(try(have dt:¬(j=2&&(o.toList==([]:List UInt8))):=by simpa using aB));clear aB;obtain rfl:=Option.some.inj H;obtain⟨cr,ct,cu,cv⟩:=b2 ad;go_wp2;go_ret;exact⟨by first|rfl|(simp[*,errW_none,errW_some]<;>rfl),wZ HB⟩

/-! ### spec_JournalText: function 24 -/
def spec_JournalText.l0:Nat→List (S26)→ByteArray→Int→Option (ByteArray)
 |0,_,_,_=>none
 |k+1,x0,x3,x4=>if x4<(x0.length:Int)then(if 0≤x4 then((spec_DeedText.f k ((rd_T26 x0 x4).f0) ((rd_T26 x0 x4).f1)).bind fun av=>(if av.toList=([]:List UInt8)then(some (⟨#[]⟩:ByteArray))else((spec_DeedText.f k ((rd_T26 x0 x4).f0) ((rd_T26 x0 x4).f1)).bind fun ao=>(if x3.size+ao.size≤9223372036854775807 then(if(x3++ao).size+1≤9223372036854775807 then(spec_JournalText.l0 k x0 ((x3++ao)++(⟨#[10]⟩:ByteArray)) (wrap64 (x4+1)))else(none))else(none)))))else(none))else(some x3)
def spec_JournalText.f (k:Nat) (l0:List (S26)):Option (ByteArray):=spec_JournalText.l0 k l0 (⟨#[]⟩:ByteArray) 0
theorem spec_JournalText.mono_l:∀k,(∀y0 y1 y2,LeO (spec_JournalText.l0 k y0 y1 y2) (spec_JournalText.l0 (k+1) y0 y1 y2))
 |0=>fun _ _ _ r h=>by simp[spec_JournalText.l0]at h
 |k+1=>by
  have ag:=spec_JournalText.mono_l k
  ·intro y0 y1 y2;unfold spec_JournalText.l0;repeat' first
   |(with_reducible first|exact ag _ _ _|exact spec_DeedText.mono _ _ _|exact LeO.refl _|exact LeO.none _|refine LeO.ite ?_ ?_|refine LeO.bind ?_ (fun _=>?_))
   |refine LeO.ite ?_ ?_
   |refine LeO.bind ?_ (fun _=>?_)
theorem spec_JournalText.mono:∀a0 k,LeO (spec_JournalText.f k a0) (spec_JournalText.f (k+1) a0):=by
 intro a0 k;have ag:=spec_JournalText.mono_l k;unfold spec_JournalText.f
 repeat' first
   |(with_reducible first|exact ag _ _ _|exact spec_DeedText.mono _ _ _|exact LeO.refl _|exact LeO.none _|refine LeO.ite ?_ ?_|refine LeO.bind ?_ (fun _=>?_))
   |refine LeO.ite ?_ ?_
   |refine LeO.bind ?_ (fun _=>?_)
set_option maxHeartbeats 8000000 in
set_option maxRecDepth 100000 in
theorem spec_JournalText.calls (k:Nat) (A0:Option Addr) (c0:Nat) (l0:List (S26)) (r:ByteArray) (w:World) (bd:Kd.C k26 w A0 l0.length l0) (bf:l0.length≤c0) (h:spec_JournalText.f k l0=some r):
  Calls Try.prog 24 #[.slice A0 l0.length c0] w fun e w'=>e= .returned (.string r)∧Below w.heap.size w w':=by
 have aW:=Try.underlying26;have aT:=Asd.mk bd;have du:=Asd.mk bf;clear bd bf;have HB:=Asd.mk (Below.refl w.heap.size w);have H:(spec_JournalText.l0 k l0 (⟨#[]⟩:ByteArray) 0)=some r:=h;clear h;have H':=Asd.mk H;clear H;go_enter Try.func24,Try.ntmps24;go_wp2;go_loopg [3,4] k (fun kq v3 v4 w'=>∃(I:ByteArray) (aa:Int),v3= .string I∧v4= .int .i64 aa∧Asd (spec_JournalText.l0 kq l0 I aa=some r)∧Asd (kq≤k)∧Asd (Below w.heap.size w w'))
 case atStart=>exact⟨((⟨#[]⟩:ByteArray)),(0),(by first|rfl|(simp;done)|(simp[*];done)),(by first|rfl|(simp;done)|(simp[*];done)),H',⟨Nat.le_refl _⟩,⟨wZ HB⟩⟩
 case round=>
  clear H';obtain⟨I,aa,rfl,rfl,HA,ax,HB⟩:=hrel;cases gk with
  |zero=>exact absurd HA.out (by simp[spec_JournalText.l0])
  |succ k1=>
   have H:=HA.out;clear HA;simp only[spec_JournalText.l0]at H;by_cases c2:aa<(l0.length:Int)
   ·rw[if_pos c2]at H;have aq:decide (aa<(l0.length:Int))=true:=decide_eq_true c2;clear c2;by_cases c3:0≤aa;rotate_left;(rw[if_neg c3]at H;exact absurd H (by simp));rw[if_pos c3]at H;have aU:decide (0≤aa)=true:=decide_eq_true c3;clear c3;replace H:=Option.bind_eq_some_iff.mp H;obtain⟨av,aY,H⟩:=H;try dsimp only at H
    have A4:=Asd.mk aY;clear aY;by_cases c5:av.toList=([]:List UInt8)
    ·rw[if_pos c5]at H;have aV:(av.toList==([]:List UInt8))=true:=beq_iff_eq.mpr c5;have cw:(av.toList !=([]:List UInt8))=false:=bne_eq_false_iff_eq.mpr c5;clear c5;obtain rfl:=Option.some.inj H;have aC:0≤(aa:Int):=odt;have aD:aa<(l0.length:Int):=odt;obtain⟨bg,bh,ah,ai⟩:=at_T26 aT.out aa aC aD;cases bh;replace ah:=(HB.out.cell (World.block_lt_of_cell? w _ ah)).trans ah;replace ai:=(HB.out.cell (World.block_lt_of_cell? w _ ai)).trans ai;replace aC:=eq_true aC;replace aD:=eq_true aD;go_wp2_with (first|((with_reducible refine gate_callee (f:=20) rfl ?_);refine gsM (some 15) rfl rfl Try.func20 (by kernel_rfl) rfl #[.agg #[.int .i64 ((rd_T26 l0 aa).f0),.string ((rd_T26 l0 aa).f1)]] rfl ?_;(with_reducible refine(spec_DeedText.calls k1 ((rd_T26 l0 aa).f0) ((rd_T26 l0 aa).f1) av _ A4.out).mono ?_);rintro e w6 ⟨rfl,hb⟩;refine⟨_,rfl,?_⟩;replace HB:=bW HB hb;(try clear hb);(try clear hb2);(try clear hk);(try clear hi)));go_ret;exact⟨by first|rfl|(simp[*,errW_none,errW_some]<;>rfl),wZ HB⟩
    ·rw[if_neg c5]at H;have aV:(av.toList==([]:List UInt8))=false:=beq_eq_false_iff_ne.mpr c5;have cw:(av.toList !=([]:List UInt8))=true:=bne_iff_ne.mpr c5;replace H:=Option.bind_eq_some_iff.mp H;obtain⟨ao,cx,H⟩:=H;try dsimp only at H
     have A7:=Asd.mk cx;clear cx;by_cases c8:I.size+ao.size≤9223372036854775807;rotate_left;(rw[if_neg c8]at H;exact absurd H (by simp));rw[if_pos c8]at H;have aw:=eq_true c8;have bD:decide (I.size+ao.size≤9223372036854775807)=true:=decide_eq_true c8;try have dM:(9223372036854775807<I.size+ao.size)=False:=eq_false (Nat.not_lt.2 c8)
     by_cases c9:(I++ao).size+1≤9223372036854775807;rotate_left;(rw[if_neg c9]at H;exact absurd H (by simp));rw[if_pos c9]at H;have dN:=eq_true c9;have dO:decide ((I++ao).size+1≤9223372036854775807)=true:=decide_eq_true c9;try have dP:(9223372036854775807<(I++ao).size+1)=False:=eq_false (Nat.not_lt.2 c9)
     (try have dQ:(9223372036854775807<I.size+ao.size+1)=False:=eq_false (by have h_:=c9;(repeat rw[ByteArray.size_append]at h_);exact Nat.not_lt.2 h_));have H':=Asd.mk H;clear H;have aC:0≤(aa:Int):=odt;have aD:aa<(l0.length:Int):=odt;obtain⟨bg,bh,ah,ai⟩:=at_T26 aT.out aa aC aD;cases bh;replace ah:=(HB.out.cell (World.block_lt_of_cell? w _ ah)).trans ah;replace ai:=(HB.out.cell (World.block_lt_of_cell? w _ ai)).trans ai;replace aC:=eq_true aC;replace aD:=eq_true aD;go_wp2_with (first|((with_reducible refine gate_callee (f:=20) rfl ?_);refine gsM (some 15) rfl rfl Try.func20 (by kernel_rfl) rfl #[.agg #[.int .i64 ((rd_T26 l0 aa).f0),.string ((rd_T26 l0 aa).f1)]] rfl ?_;(with_reducible refine(spec_DeedText.calls k1 ((rd_T26 l0 aa).f0) ((rd_T26 l0 aa).f1) av _ A4.out).mono ?_);rintro e w10 ⟨rfl,hb⟩;refine⟨_,rfl,?_⟩;replace HB:=bW HB hb;(try clear hb);(try clear hb2);(try clear hk);(try clear hi);have bj:0≤(aa:Int):=odt;have bk:aa<(l0.length:Int):=odt;obtain⟨b5,cy,aE,aF⟩:=at_T26 aT.out aa bj bk;obtain rfl:bg=b5:=(by injection cy);replace aE:=(HB.out.cell (World.block_lt_of_cell? w _ aE)).trans aE;replace aF:=(HB.out.cell (World.block_lt_of_cell? w _ aF)).trans aF;replace bj:=eq_true bj;replace bk:=eq_true bk)|((with_reducible refine gate_callee (f:=20) rfl ?_);refine gsM (some 22) rfl rfl Try.func20 (by kernel_rfl) rfl #[.agg #[.int .i64 ((rd_T26 l0 aa).f0),.string ((rd_T26 l0 aa).f1)]] rfl ?_;(with_reducible refine(spec_DeedText.calls k1 ((rd_T26 l0 aa).f0) ((rd_T26 l0 aa).f1) ao _ A7.out).mono ?_);rintro e w11 ⟨rfl,hb⟩;refine⟨_,rfl,?_⟩;replace HB:=bW HB hb;(try clear hb);(try clear hb2);(try clear hk);(try clear hi)));go_roundg k1
     case measure=>have:=ax.out;omega
     case rel=>exact⟨((I++ao)++(⟨#[10]⟩:ByteArray)),(wrap64 (aa+1)),(by first|rfl|(simp;done)|(simp[*];done)),(by first|rfl|(simp;done)|(simp[*];done)),H',⟨by have:=ax.out;omega⟩,⟨wZ HB⟩⟩
   ·rw[if_neg c2]at H;have aq:decide (aa<(l0.length:Int))=false:=decide_eq_false c2;clear c2;obtain rfl:=Option.some.inj H;go_wp2;go_ret;exact⟨by first|rfl|(simp[*,errW_none,errW_some]<;>rfl),wZ HB⟩

/-! ### impl_isPrintable: function 117 -/
def impl_isPrintable.l0:Nat→ByteArray→Int→Int→Option (Bool)
 |0,_,_,_=>none
 |k+1,x0,x5,x6=>if x6<x5 then(if 0≤x6 then(if x6<(x0.size:Int)then(if(bt x0 x6)<32 then(some false)else(if(bt x0 x6)>126 then(some false)else(impl_isPrintable.l0 k x0 x5 (wrap64 (x6+1)))))else(none))else(none))else(some true)
def impl_isPrintable.f (k:Nat) (a0:ByteArray):Option (Bool):=impl_isPrintable.l0 k a0 (a0.size:Int) 0
theorem impl_isPrintable.mono_l:∀k,(∀y0 y1 y2,LeO (impl_isPrintable.l0 k y0 y1 y2) (impl_isPrintable.l0 (k+1) y0 y1 y2))
 |0=>fun _ _ _ r h=>by simp[impl_isPrintable.l0]at h
 |k+1=>by
  have ag:=impl_isPrintable.mono_l k
  ·intro y0 y1 y2;unfold impl_isPrintable.l0;repeat' first
   |(with_reducible first|exact ag _ _ _|exact LeO.refl _|exact LeO.none _|refine LeO.ite ?_ ?_|refine LeO.bind ?_ (fun _=>?_))
   |refine LeO.ite ?_ ?_
   |refine LeO.bind ?_ (fun _=>?_)
theorem impl_isPrintable.mono:∀a0 k,LeO (impl_isPrintable.f k a0) (impl_isPrintable.f (k+1) a0):=by
 intro a0 k;have ag:=impl_isPrintable.mono_l k;unfold impl_isPrintable.f
 repeat' first
   |(with_reducible first|exact ag _ _ _|exact LeO.refl _|exact LeO.none _|refine LeO.ite ?_ ?_|refine LeO.bind ?_ (fun _=>?_))
   |refine LeO.ite ?_ ?_
   |refine LeO.bind ?_ (fun _=>?_)
set_option maxHeartbeats 8000000 in
set_option maxRecDepth 100000 in
theorem impl_isPrintable.calls (k:Nat) (a0:ByteArray) (r:Bool) (w:World) (h:impl_isPrintable.f k a0=some r):
  Calls Try.prog 117 #[.string a0] w fun e w'=>e= .returned (.bool r)∧Drawn0 w w':=by
 have H:(impl_isPrintable.l0 k a0 (a0.size:Int) 0)=some r:=h;clear h;have H':=Asd.mk H;clear H;go_enter Try.func117,Try.ntmps117;go_wp2;go_loopg [6] k (fun kq v6 w'=>∃(J:Int),v6= .int .i64 J∧Asd (impl_isPrintable.l0 kq a0 (a0.size:Int) J=some r)∧Asd (kq≤k)∧Drawn0 w w')
 case atStart=>exact⟨(0),(by first|rfl|(simp;done)|(simp[*];done)),H',⟨Nat.le_refl _⟩,by repeat(first|exact Drawn0.refl _|apply Drawn0.step)⟩
 case round=>
  clear H';obtain⟨J,rfl,HA,ax,⟨m1,rfl⟩⟩:=hrel;cases gk with
  |zero=>exact absurd HA.out (by simp[impl_isPrintable.l0])
  |succ k1=>
   have H:=HA.out;clear HA;simp only[impl_isPrintable.l0]at H;by_cases c2:J<(a0.size:Int)
   ·rw[if_pos c2]at H;have aq:decide (J<(a0.size:Int))=true:=decide_eq_true c2;clear c2;by_cases c3:0≤J;rotate_left;(rw[if_neg c3]at H;exact absurd H (by simp));rw[if_pos c3]at H;have aU:decide (0≤J)=true:=decide_eq_true c3;clear c3;by_cases c4:J<(a0.size:Int);rotate_left;(rw[if_neg c4]at H;exact absurd H (by simp));rw[if_pos c4]at H;have cz:decide (J<(a0.size:Int))=true:=decide_eq_true c4;clear c4;by_cases c6:(bt a0 J)<32
    ·rw[if_pos c6]at H;have bl:decide ((bt a0 J)<32)=true:=decide_eq_true c6;clear c6;obtain rfl:=Option.some.inj H;have p5:0≤(J:Int):=odt;have q5:J<(a0.size:Int):=odt;have cA:=bt_at a0 J;replace p5:=eq_true p5;replace q5:=eq_true q5;go_wp2;go_ret;exact⟨by first|rfl|(simp;done)|(simp[*];done),by repeat(first|exact Drawn0.refl _|apply Drawn0.step)⟩
    ·rw[if_neg c6]at H;have bl:decide ((bt a0 J)<32)=false:=decide_eq_false c6;clear c6;by_cases c8:(bt a0 J)>126
     ·rw[if_pos c8]at H;have aw:decide (126<(bt a0 J))=true:=decide_eq_true c8;clear c8;obtain rfl:=Option.some.inj H;have p5:0≤(J:Int):=odt;have q5:J<(a0.size:Int):=odt;have cA:=bt_at a0 J;replace p5:=eq_true p5;replace q5:=eq_true q5;have p7:0≤(J:Int):=odt;have q7:J<(a0.size:Int):=odt;have dv:=bt_at a0 J;replace p7:=eq_true p7;replace q7:=eq_true q7;go_wp2;go_ret;exact⟨by first|rfl|(simp;done)|(simp[*];done),by repeat(first|exact Drawn0.refl _|apply Drawn0.step)⟩
     ·rw[if_neg c8]at H;have aw:decide (126<(bt a0 J))=false:=decide_eq_false c8;clear c8;have H':=Asd.mk H;clear H;have p5:0≤(J:Int):=odt;have q5:J<(a0.size:Int):=odt;have cA:=bt_at a0 J;replace p5:=eq_true p5;replace q5:=eq_true q5;have p7:0≤(J:Int):=odt;have q7:J<(a0.size:Int):=odt;have dv:=bt_at a0 J;replace p7:=eq_true p7;replace q7:=eq_true q7;go_wp2;go_roundg k1
      case measure=>have:=ax.out;omega
      case rel=>exact⟨(wrap64 (J+1)),(by first|rfl|(simp;done)|(simp[*];done)),H',⟨by have:=ax.out;omega⟩,by repeat(first|exact Drawn0.refl _|apply Drawn0.step)⟩
   ·rw[if_neg c2]at H;have aq:decide (J<(a0.size:Int))=false:=decide_eq_false c2;clear c2;obtain rfl:=Option.some.inj H;go_wp2;go_ret;exact⟨by first|rfl|(simp;done)|(simp[*];done),by repeat(first|exact Drawn0.refl _|apply Drawn0.step)⟩

/-! ### impl_deedText: function 74 -/
def impl_deedText.j0:Nat→Bool→Int→ByteArray→Option (ByteArray)
 |0,_,_,_=>none
 |k+1,x7,x691000,x691001=>if x7=true then(some (⟨#[]⟩:ByteArray))else(if x691000=0 then(if 6+x691001.size≤9223372036854775807 then(some ((⟨#[102,105,114,115,116,32]⟩:ByteArray)++x691001))else(none))else(if x691000=1 then(if 4+x691001.size≤9223372036854775807 then(some ((⟨#[97,108,108,32]⟩:ByteArray)++x691001))else(none))else(some (⟨#[]⟩:ByteArray))))
def impl_deedText.f (k:Nat) (j:Int) (o:ByteArray):Option (ByteArray):=if(j==2&&(o.toList==([]:List UInt8)))=true then(some (⟨#[98,97,99,107]⟩:ByteArray))else(if o.toList=([]:List UInt8)then(impl_deedText.j0 k true j o)else((impl_isPrintable.f k o).bind fun aK=>(impl_deedText.j0 k (!aK) j o)))
theorem impl_deedText.mono_l:∀k,(∀y0 y1 y2,LeO (impl_deedText.j0 k y0 y1 y2) (impl_deedText.j0 (k+1) y0 y1 y2))
 |0=>fun _ _ _ r h=>by simp[impl_deedText.j0]at h
 |k+1=>by
  have ag:=impl_deedText.mono_l k
  ·intro y0 y1 y2;unfold impl_deedText.j0;repeat' first
   |(with_reducible first|exact ag _ _ _|exact impl_isPrintable.mono _ _|exact LeO.refl _|exact LeO.none _|refine LeO.ite ?_ ?_|refine LeO.bind ?_ (fun _=>?_))
   |refine LeO.ite ?_ ?_
   |refine LeO.bind ?_ (fun _=>?_)
theorem impl_deedText.mono:∀a0 a1 k,LeO (impl_deedText.f k a0 a1) (impl_deedText.f (k+1) a0 a1):=by
 intro a0 a1 k;have ag:=impl_deedText.mono_l k;unfold impl_deedText.f
 repeat' first
   |(with_reducible first|exact ag _ _ _|exact impl_isPrintable.mono _ _|exact LeO.refl _|exact LeO.none _|refine LeO.ite ?_ ?_|refine LeO.bind ?_ (fun _=>?_))
   |refine LeO.ite ?_ ?_
   |refine LeO.bind ?_ (fun _=>?_)
set_option maxHeartbeats 8000000 in
set_option maxRecDepth 100000 in
theorem impl_deedText.calls (k:Nat) (j:Int) (o:ByteArray) (r:ByteArray) (w:World) (h:impl_deedText.f k j o=some r):
  Calls Try.prog 74 #[.agg #[.int .i64 j,.string o]] w fun e w'=>e= .returned (.string r)∧Below w.heap.size w w':=by
 have aW:=Try.underlying26;have HB:=Asd.mk (Below.refl w.heap.size w);have H:(if(j==2&&(o.toList==([]:List UInt8)))=true then(some (⟨#[98,97,99,107]⟩:ByteArray))else(if o.toList=([]:List UInt8)then(impl_deedText.j0 k true j o)else((impl_isPrintable.f k o).bind fun aK=>(impl_deedText.j0 k (!aK) j o))))=some r:=h;clear h;by_cases c2:(j==2&&(o.toList==([]:List UInt8)))=true
 ·rw[if_pos c2]at H;have aq:(j==2&&(o.toList==([]:List UInt8)))=true:=c2;try have cB:(j==2&&o.toList.isEmpty)=true:=by have h_:=aq;(repeat rw[Hof.isEmpty_beq]);exact h_
  (try(have cC:decide (j=2&&(o.toList==([]:List UInt8)))=true:=by simpa using c2));(try(have cD:(j==2&&(o.toList==([]:List UInt8)))=true:=by simpa using c2));clear c2;obtain rfl:=Option.some.inj H;go_enter Try.func74,Try.ntmps74;go_wp2_with (first|((with_reducible refine gate_dst (N:=1) rfl ?_);refine bxE ?hg (N:=1) ?hd (cs:= #[.int .i64 j,.string o]) (t:=26) ?hr ?_;(case hd=>rfl);(case hg=>rfl);(case hr=>first|(go_simp;done)|(go_simp;rfl));intro bn hg w3 an hb;have aj:=Asd.mk (an);have b6:=bG HB hg;have b7:=bG HB hg;replace HB:=bW HB hb;clear hb an hg;obtain⟨cW,cX,cY,da⟩:=b2 aj));go_ret;exact⟨by first|rfl|(simp[*,errW_none,errW_some]<;>rfl),wZ HB⟩
 ·rw[if_neg c2]at H;have aq:(j==2&&(o.toList==([]:List UInt8)))=false:=by simpa using c2
  (try have cB:(j==2&&o.toList.isEmpty)=false:=by have h_:=aq;(repeat rw[Hof.isEmpty_beq]);exact h_);(try(have cC:decide (j=2&&(o.toList==([]:List UInt8)))=false:=by simpa using c2));(try(have cD:(j==2&&(o.toList==([]:List UInt8)))=false:=by simpa using c2));(try(have dR:¬(j=2&&(o.toList==([]:List UInt8))):=by simpa using c2));clear c2;have b8:=Asd.mk H;clear H;go_enter Try.func74,Try.ntmps74;go_upto_region 3 with(first|((with_reducible refine gate_dst (N:=1) rfl ?_);refine bxE ?hg (N:=1) ?hd (cs:= #[.int .i64 j,.string o]) (t:=26) ?hr ?_;(case hd=>rfl);(case hg=>rfl);(case hr=>first|(go_simp;done)|(go_simp;rfl));intro bn hg w6 an hb;have aj:=Asd.mk (an);have b6:=bG HB hg;have b7:=bG HB hg;replace HB:=bW HB hb;clear hb an hg;obtain⟨br,bs,bu,bw⟩:=b2 aj))
  (try simp only[Act.put,qA,qB,qC]);go_cut [7] (fun v7 wc=>∃(kq:Nat) (aS:Bool),v7= .bool aS∧Asd (impl_deedText.j0 kq aS j o=some r)∧Asd (kq≤k)∧Asd (wc.heap[bn]?=some (.cells #[.int .i64 j,.string o] 26 (0,0)))∧Asd (Below w.heap.size w wc))
  case first=>
   have H:=b8.out;clear b8;by_cases c8:o.toList=([]:List UInt8)
   ·rw[if_pos c8]at H;have aw:(o.toList==([]:List UInt8))=true:=beq_iff_eq.mpr c8;have bD:(o.toList !=([]:List UInt8))=false:=bne_eq_false_iff_eq.mpr c8;clear c8;(first|rw[aw]|(simp only[i64_w,i32_w];rw[aw])|skip);have H':=Asd.mk H;clear H;obtain⟨db,dc,dd,de⟩:=b2 aj;go_wp2;go_meet
    case rel=>exact⟨_,(true),(by first|rfl|(simp;done)|(simp[*];done)),H',⟨by first|omega|exact Nat.le_refl _⟩,⟨kS aj⟩,⟨wZ HB⟩⟩
   ·rw[if_neg c8]at H;have aw:(o.toList==([]:List UInt8))=false:=beq_eq_false_iff_ne.mpr c8;have bD:(o.toList !=([]:List UInt8))=true:=bne_iff_ne.mpr c8;(first|rw[aw]|(simp only[i64_w,i32_w];rw[aw])|skip);replace H:=Option.bind_eq_some_iff.mp H;obtain⟨aK,bF,H⟩:=H;try dsimp only at H
    have dw:=Asd.mk bF;clear bF;have H':=Asd.mk H;clear H;obtain⟨cE,cF,cG,cH⟩:=b2 aj;go_wp2_with (first|(go_at_call 117;(with_reducible refine(impl_isPrintable.calls k o aK _ dw.out).mono ?_);rintro e w' ⟨rfl,⟨nd,rfl⟩⟩));go_meet
    case rel=>exact⟨_,(!aK),(by first|rfl|(simp;done)|(simp[*];done)),H',⟨by first|omega|exact Nat.le_refl _⟩,⟨kS aj⟩,⟨wZ HB⟩⟩
  case rest=>
   clear b8;obtain⟨kq,aS,rfl,HA,dT,aj,HB⟩:=hcut;cases kq with
   |zero=>exact absurd HA.out (by simp[impl_deedText.j0])
   |succ kj4=>
    have H:=HA.out;clear HA;simp only[impl_deedText.j0]at H;by_cases aI:aS=true
    ·subst aI;rw[if_pos rfl]at H;obtain rfl:=Option.some.inj H;go_wp2;go_ret;exact⟨by first|rfl|(simp[*,errW_none,errW_some]<;>rfl),wZ HB⟩
    ·replace aI:=Bool.eq_false_iff.mpr aI;subst aI;rw[if_neg (show¬(false=true) by decide)]at H;by_cases au:j=0
     ·rw[if_pos au]at H;have aZ:(j==0)=true:=beq_iff_eq.mpr au;have a6:(j !=0)=false:=bne_eq_false_iff_eq.mpr au;clear au;by_cases bo:6+o.size≤9223372036854775807;rotate_left;(rw[if_neg bo]at H;exact absurd H (by simp));rw[if_pos bo]at H;have dx:=eq_true bo;have dy:decide (6+o.size≤9223372036854775807)=true:=decide_eq_true bo;try have dz:(9223372036854775807<6+o.size)=False:=eq_false (Nat.not_lt.2 bo)
      obtain rfl:=Option.some.inj H;obtain⟨cI,cJ,cK,cL⟩:=b2 aj;go_wp2;go_ret;exact⟨by first|rfl|(simp[*,errW_none,errW_some]<;>rfl),wZ HB⟩
     ·rw[if_neg au]at H;have aZ:(j==0)=false:=beq_eq_false_iff_ne.mpr au;have a6:(j !=0)=true:=bne_iff_ne.mpr au;by_cases aR:j=1
      ·rw[if_pos aR]at H;have b9:(j==1)=true:=beq_iff_eq.mpr aR;have ca:(j !=1)=false:=bne_eq_false_iff_eq.mpr aR;clear aR;by_cases bp:4+o.size≤9223372036854775807;rotate_left;(rw[if_neg bp]at H;exact absurd H (by simp));rw[if_pos bp]at H;have dA:=eq_true bp;have dB:decide (4+o.size≤9223372036854775807)=true:=decide_eq_true bp;try have dC:(9223372036854775807<4+o.size)=False:=eq_false (Nat.not_lt.2 bp)
       obtain rfl:=Option.some.inj H;obtain⟨cM,cN,cO,cP⟩:=b2 aj;go_wp2;go_ret;exact⟨by first|rfl|(simp[*,errW_none,errW_some]<;>rfl),wZ HB⟩
      ·rw[if_neg aR]at H;have b9:(j==1)=false:=beq_eq_false_iff_ne.mpr aR;have ca:(j !=1)=true:=bne_iff_ne.mpr aR;obtain rfl:=Option.some.inj H;obtain⟨a8,ba,bb,bc⟩:=b2 aj;go_wp2;go_ret;exact⟨by first|rfl|(simp[*,errW_none,errW_some]<;>rfl),wZ HB⟩

/-! ### impl_JournalText: function 26 -/
def impl_JournalText.l0:Nat→ByteArray→List (S26)→Int→Int→Option (ByteArray)
 |0,_,_,_,_=>none
 |k+1,x3,x7,x8,x9=>if x9<x8 then(if 0≤x9 then(if x9<(x7.length:Int)then((impl_deedText.f k ((rd_T26 x7 x9).f0) ((rd_T26 x7 x9).f1)).bind fun af=>(if af.toList=([]:List UInt8)then(some (⟨#[]⟩:ByteArray))else(if af.size+1≤9223372036854775807 then(if x3.size+(af++(⟨#[10]⟩:ByteArray)).size≤9223372036854775807 then(impl_JournalText.l0 k (x3++(af++(⟨#[10]⟩:ByteArray))) x7 x8 (wrap64 (x9+1)))else(none))else(none))))else(none))else(none))else(some x3)
def impl_JournalText.f (k:Nat) (l0:List (S26)):Option (ByteArray):=impl_JournalText.l0 k (⟨#[]⟩:ByteArray) l0 (l0.length:Int) 0
theorem impl_JournalText.mono_l:∀k,(∀y0 y1 y2 y3,LeO (impl_JournalText.l0 k y0 y1 y2 y3) (impl_JournalText.l0 (k+1) y0 y1 y2 y3))
 |0=>fun _ _ _ _ r h=>by simp[impl_JournalText.l0]at h
 |k+1=>by
  have ag:=impl_JournalText.mono_l k
  ·intro y0 y1 y2 y3;unfold impl_JournalText.l0;repeat' first
   |(with_reducible first|exact ag _ _ _ _|exact impl_deedText.mono _ _ _|exact LeO.refl _|exact LeO.none _|refine LeO.ite ?_ ?_|refine LeO.bind ?_ (fun _=>?_))
   |refine LeO.ite ?_ ?_
   |refine LeO.bind ?_ (fun _=>?_)
theorem impl_JournalText.mono:∀a0 k,LeO (impl_JournalText.f k a0) (impl_JournalText.f (k+1) a0):=by
 intro a0 k;have ag:=impl_JournalText.mono_l k;unfold impl_JournalText.f
 repeat' first
   |(with_reducible first|exact ag _ _ _ _|exact impl_deedText.mono _ _ _|exact LeO.refl _|exact LeO.none _|refine LeO.ite ?_ ?_|refine LeO.bind ?_ (fun _=>?_))
   |refine LeO.ite ?_ ?_
   |refine LeO.bind ?_ (fun _=>?_)
set_option maxHeartbeats 8000000 in
set_option maxRecDepth 100000 in
theorem impl_JournalText.calls (k:Nat) (A0:Option Addr) (c0:Nat) (l0:List (S26)) (r:ByteArray) (w:World) (bd:Kd.C k26 w A0 l0.length l0) (bf:l0.length≤c0) (h:impl_JournalText.f k l0=some r):
  Calls Try.prog 26 #[.slice A0 l0.length c0] w fun e w'=>e= .returned (.string r)∧Below w.heap.size w w':=by
 have aW:=Try.underlying26;have aT:=Asd.mk bd;have du:=Asd.mk bf;clear bd bf;have HB:=Asd.mk (Below.refl w.heap.size w);have H:(impl_JournalText.l0 k (⟨#[]⟩:ByteArray) l0 (l0.length:Int) 0)=some r:=h;clear h;have H':=Asd.mk H;clear H;go_enter Try.func26,Try.ntmps26;go_wp2;go_loopg [3,9] k (fun kq v3 v9 w'=>∃(I:ByteArray) (ab:Int),v3= .string I∧v9= .int .i64 ab∧Asd (impl_JournalText.l0 kq I l0 (l0.length:Int) ab=some r)∧Asd (kq≤k)∧Asd (Below w.heap.size w w'))
 case atStart=>exact⟨((⟨#[]⟩:ByteArray)),(0),(by first|rfl|(simp;done)|(simp[*];done)),(by first|rfl|(simp;done)|(simp[*];done)),H',⟨Nat.le_refl _⟩,⟨wZ HB⟩⟩
 case round=>
  clear H';obtain⟨I,ab,rfl,rfl,HA,ax,HB⟩:=hrel;cases gk with
  |zero=>exact absurd HA.out (by simp[impl_JournalText.l0])
  |succ k1=>
   have H:=HA.out;clear HA;simp only[impl_JournalText.l0]at H;by_cases c2:ab<(l0.length:Int)
   ·rw[if_pos c2]at H;have aq:decide (ab<(l0.length:Int))=true:=decide_eq_true c2;clear c2;by_cases c3:0≤ab;rotate_left;(rw[if_neg c3]at H;exact absurd H (by simp));rw[if_pos c3]at H;have aU:decide (0≤ab)=true:=decide_eq_true c3;clear c3;by_cases c4:ab<(l0.length:Int);rotate_left;(rw[if_neg c4]at H;exact absurd H (by simp));rw[if_pos c4]at H;have cz:decide (ab<(l0.length:Int))=true:=decide_eq_true c4;clear c4;replace H:=Option.bind_eq_some_iff.mp H;obtain⟨af,cQ,H⟩:=H;try dsimp only at H
    have A5:=Asd.mk cQ;clear cQ;by_cases c6:af.toList=([]:List UInt8)
    ·rw[if_pos c6]at H;have bl:(af.toList==([]:List UInt8))=true:=beq_iff_eq.mpr c6;have cR:(af.toList !=([]:List UInt8))=false:=bne_eq_false_iff_eq.mpr c6;clear c6;obtain rfl:=Option.some.inj H;have aG:0≤(ab:Int):=odt;have aH:ab<(l0.length:Int):=odt;obtain⟨cb,bq,ak,al⟩:=at_T26 aT.out ab aG aH;cases bq;replace ak:=(HB.out.cell (World.block_lt_of_cell? w _ ak)).trans ak;replace al:=(HB.out.cell (World.block_lt_of_cell? w _ al)).trans al;replace aG:=eq_true aG;replace aH:=eq_true aH;go_wp2_with (first|((with_reducible refine gate_dst (N:=5) rfl ?_);refine bxE ?hg (N:=5) ?hd (cs:= #[.int .i64 0,.string (⟨#[]⟩:ByteArray)]) (t:=26) ?hr ?_;(case hd=>rfl);(case hg=>rfl);(case hr=>first|(go_simp;done)|(go_simp;rfl));intro cc hg w7 an hb;have ar:=Asd.mk (an);have cd:=bG HB hg;have cf:=bG HB hg;replace HB:=bW HB hb;clear hb an hg;obtain⟨bx,bz,bA,bB⟩:=b2 ar)|((with_reducible refine gate_callee (f:=74) rfl ?_);refine gsM (some 14) rfl rfl Try.func74 (by kernel_rfl) rfl #[.agg #[.int .i64 ((rd_T26 l0 ab).f0),.string ((rd_T26 l0 ab).f1)]] rfl ?_;(with_reducible refine(impl_deedText.calls k1 ((rd_T26 l0 ab).f0) ((rd_T26 l0 ab).f1) af _ A5.out).mono ?_);rintro e w9 ⟨rfl,hb⟩;refine⟨_,rfl,?_⟩;replace ar:=bP #[.int .i64 ((rd_T26 l0 ab).f0),.string ((rd_T26 l0 ab).f1)] ar hb;replace HB:=bW HB hb;(try clear hb);(try clear hb2);(try clear hk);(try clear hi)));go_ret;exact⟨by first|rfl|(simp[*,errW_none,errW_some]<;>rfl),wZ HB⟩
    ·rw[if_neg c6]at H;have bl:(af.toList==([]:List UInt8))=false:=beq_eq_false_iff_ne.mpr c6;have cR:(af.toList !=([]:List UInt8))=true:=bne_iff_ne.mpr c6;by_cases c10:af.size+1≤9223372036854775807;rotate_left;(rw[if_neg c10]at H;exact absurd H (by simp));rw[if_pos c10]at H;have bJ:=eq_true c10;have dD:decide (af.size+1≤9223372036854775807)=true:=decide_eq_true c10;try have dE:(9223372036854775807<af.size+1)=False:=eq_false (Nat.not_lt.2 c10)
     by_cases az:I.size+(af++(⟨#[10]⟩:ByteArray)).size≤9223372036854775807;rotate_left;(rw[if_neg az]at H;exact absurd H (by simp));rw[if_pos az]at H;have bO:=eq_true az;have dF:decide (I.size+(af++(⟨#[10]⟩:ByteArray)).size≤9223372036854775807)=true:=decide_eq_true az;try have dG:(9223372036854775807<I.size+(af++(⟨#[10]⟩:ByteArray)).size)=False:=eq_false (Nat.not_lt.2 az)
     (try have dH:(9223372036854775807<I.size+(af.size+1))=False:=eq_false (by have h_:=az;(repeat rw[ByteArray.size_append]at h_);exact Nat.not_lt.2 h_));have H':=Asd.mk H;clear H;have aG:0≤(ab:Int):=odt;have aH:ab<(l0.length:Int):=odt;obtain⟨cb,bq,ak,al⟩:=at_T26 aT.out ab aG aH;cases bq;replace ak:=(HB.out.cell (World.block_lt_of_cell? w _ ak)).trans ak;replace al:=(HB.out.cell (World.block_lt_of_cell? w _ al)).trans al;replace aG:=eq_true aG;replace aH:=eq_true aH;go_wp2_with (first|((with_reducible refine gate_dst (N:=5) rfl ?_);refine bxE ?hg (N:=5) ?hd (cs:= #[.int .i64 0,.string (⟨#[]⟩:ByteArray)]) (t:=26) ?hr ?_;(case hd=>rfl);(case hg=>rfl);(case hr=>first|(go_simp;done)|(go_simp;rfl));intro cc hg w12 an hb;have ar:=Asd.mk (an);have cd:=bG HB hg;have cf:=bG HB hg;replace HB:=bW HB hb;clear hb an hg;obtain⟨cS,cT,cU,cV⟩:=b2 ar)|((with_reducible refine gate_callee (f:=74) rfl ?_);refine gsM (some 14) rfl rfl Try.func74 (by kernel_rfl) rfl #[.agg #[.int .i64 ((rd_T26 l0 ab).f0),.string ((rd_T26 l0 ab).f1)]] rfl ?_;(with_reducible refine(impl_deedText.calls k1 ((rd_T26 l0 ab).f0) ((rd_T26 l0 ab).f1) af _ A5.out).mono ?_);rintro e w14 ⟨rfl,hb⟩;refine⟨_,rfl,?_⟩;replace ar:=bP #[.int .i64 ((rd_T26 l0 ab).f0),.string ((rd_T26 l0 ab).f1)] ar hb;replace HB:=bW HB hb;(try clear hb);(try clear hb2);(try clear hk);(try clear hi)));go_roundg k1
     case measure=>have:=ax.out;omega
     case rel=>exact⟨(I++(af++(⟨#[10]⟩:ByteArray))),(wrap64 (ab+1)),(by first|rfl|(simp;done)|(simp[*];done)),(by first|rfl|(simp;done)|(simp[*];done)),H',⟨by have:=ax.out;omega⟩,⟨wZ HB⟩⟩
   ·rw[if_neg c2]at H;have aq:decide (ab<(l0.length:Int))=false:=decide_eq_false c2;clear c2;obtain rfl:=Option.some.inj H;go_wp2;go_ret;exact⟨by first|rfl|(simp[*,errW_none,errW_some]<;>rfl),wZ HB⟩

/-! ### stringslite_IndexByte: function 151 (by hand) -/
def stringslite_IndexByte.f (s:ByteArray) (c:Int):Option Int:=some (Lib.indexByte s.data.toList c.toNat.toUInt8)
set_option maxRecDepth 100000 in
theorem stringslite_IndexByte.calls (s:ByteArray) (c:Int) (r:Int) (w:World) (h:stringslite_IndexByte.f s c=some r):
  Calls Try.prog 151 #[.string s,.int .u8 c] w fun e w'=>e= .returned (.int .i64 r)∧Drawn0 w w':=by
 obtain rfl:=Option.some.inj h;clear h;go_enter Try.func151,Try.ntmps151;go_wp2;rw[run_callFunc_extern Try.func168 (by kernel_rfl) (by kernel_rfl) (by kernel_rfl) (e:=Extern.BytealgIndexByte.indexByte) (by kernel_rfl),Lib.run_indexByteString];simp only[Result.andThen];rw[Oper.upon_value];go_wp2;go_ret;exact⟨rfl,Drawn0.refl _⟩

/-! ### stringslite_Index: function 139 (by hand) -/
def stringslite_Index.f (s sub:ByteArray):Option Int:=if sub.size=1 then(if s.size<9223372036854775807 then(if(sub.toList==s.toList)=true then some 0 else stringslite_IndexByte.f s (bt sub 0))else none)else none
set_option maxRecDepth 100000 in
theorem stringslite_Index.calls (s sub:ByteArray) (r:Int) (w:World) (h:stringslite_Index.f s sub=some r):
  Calls Try.prog 139 #[.string s,.string sub] w fun e w'=>e= .returned (.int .i64 r)∧Drawn0 w w':=by
 unfold stringslite_Index.f at h;by_cases h1:sub.size=1
 ·rw[if_pos h1]at h;by_cases h2:s.size<9223372036854775807
  ·rw[if_pos h2]at h;have dU:((sub.size:Int)==0)=false:=by rw[h1];rfl
   have dV:((sub.size:Int)==1)=true:=by rw[h1];rfl
   have dW:decide (0<sub.size)=true:=decide_eq_true (by omega);have dI:(0:Int)<(sub.size:Int):=by omega
   have dX:decide ((0:Int)<(sub.size:Int))=true:=decide_eq_true dI;by_cases h3:(sub.toList==s.toList)=true
   ·rw[if_pos h3]at h;obtain rfl:=Option.some.inj h;clear h h1 h2;go_enter Try.func139,Try.ntmps139;go_wp2;go_ret;exact⟨rfl,Drawn0.refl _⟩
   ·rw[if_neg h3]at h;have HI:=Asd.mk (fun(hh:0<sub.size) W=>stringslite_IndexByte.calls s ((sub[0]'hh).toNat:Int) r W (by rw[show((sub[0]'hh).toNat:Int)=bt sub 0 from bt_at sub 0 hh];exact h));have h4:(sub.toList==s.toList)=false:=Bool.eq_false_iff.mpr h3;clear h h1 h2 h3;go_enter Try.func139,Try.ntmps139;go_wp2_with fail;refine(HI.out _ _).mono ?_;rintro e w1 ⟨rfl,⟨n,rfl⟩⟩;go_wp2;go_ret;exact⟨rfl,⟨⟨n,rfl⟩⟩⟩
  ·rw[if_neg h2]at h;cases h
 ·rw[if_neg h1]at h;cases h

/-! ### stringslite_Cut: function 118 (by hand) -/
def stringslite_Cut.f (s sep:ByteArray):Option (ByteArray×ByteArray×Bool):=(stringslite_Index.f s sep).bind fun i=>if i<0 then some (s,(⟨#[]⟩:ByteArray),false)else if i.toNat+sep.size≤s.size then some (s.extract 0 i.toNat,s.extract (i.toNat+sep.size) s.size,true)else none
theorem stringslite_Cut.calls (s sep:ByteArray) (r1 r2:ByteArray) (r3:Bool) (w:World) (h:stringslite_Cut.f s sep=some (r1,r2,r3)):
  Calls Try.prog 118 #[.string s,.string sep] w fun e w'=>e= .returned (.tuple #[.string r1,.string r2,.bool r3])∧Drawn0 w w':=by
 unfold stringslite_Cut.f at h;obtain⟨i,hi,h⟩:=Option.bind_eq_some_iff.mp h;by_cases h0:i<0
 ·rw[if_pos h0]at h;obtain⟨rfl,rfl,rfl⟩:s=r1∧(⟨#[]⟩:ByteArray)=r2∧false=r3:=by simpa using h
  have HI:=Asd.mk (fun W=>stringslite_Index.calls s sep i W hi);have c1:decide (0≤i)=false:=decide_eq_false (by omega);have c2:decide (i<0)=true:=decide_eq_true h0;clear h hi h0;go_enter Try.func118,Try.ntmps118;go_wp2_with fail;refine(HI.out _).mono ?_;rintro e w1 ⟨rfl,⟨n,rfl⟩⟩;go_wp2;go_ret3;exact⟨rfl,⟨⟨n,rfl⟩⟩⟩
 ·rw[if_neg h0]at h;by_cases h1:i.toNat+sep.size≤s.size
  ·rw[if_pos h1]at h
   have dY:s.size<9223372036854775807:=by
    unfold stringslite_Index.f at hi;split at hi
    ·split at hi
     ·assumption
     ·cases hi
    ·cases hi
   obtain⟨rfl,rfl,rfl⟩:s.extract 0 i.toNat=r1∧s.extract (i.toNat+sep.size) s.size=r2∧true=r3:=by simpa using h
   clear h;obtain⟨n,rfl⟩:=Int.eq_ofNat_of_zero_le (by omega:0≤i);rw[Int.toNat_natCast]at h1⊢;have HI:=Asd.mk (fun W=>stringslite_Index.calls s sep n W hi);have c0:(0:Int)≤(n:Int):=by omega
   have c2:(n:Int)≤(s.size:Int):=by omega
   have c3:(0:Int)≤(n:Int)+(sep.size:Int):=by omega
   have c4:(n:Int)+(sep.size:Int)≤(s.size:Int):=by omega
   have c5:(n:Int)+(sep.size:Int)<9223372036854775807:=by omega
   clear hi h0 h1;go_enter Try.func118,Try.ntmps118;go_wp2_with fail;refine(HI.out _).mono ?_;rintro e w1 ⟨rfl,⟨m,rfl⟩⟩;go_wp2;go_quiet (fail);go_wp2;go_ret3;exact⟨rfl,Drawn0.step ⟨⟨m,rfl⟩⟩ _⟩
  ·rw[if_neg h1]at h;cases h

/-! ### strings_Cut: function 76 (by hand) -/
def strings_Cut.f (s sep:ByteArray):Option (ByteArray×ByteArray×Bool):=stringslite_Cut.f s sep
theorem strings_Cut.calls (s sep:ByteArray) (r1 r2:ByteArray) (r3:Bool) (w:World) (h:strings_Cut.f s sep=some (r1,r2,r3)):
  Calls Try.prog 76 #[.string s,.string sep] w fun e w'=>e= .returned (.tuple #[.string r1,.string r2,.bool r3])∧Drawn0 w w':=by
 have HI:=Asd.mk (fun W=>stringslite_Cut.calls s sep r1 r2 r3 W h);clear h;go_enter Try.func76,Try.ntmps76;go_wp2_with fail;refine(HI.out _).mono ?_;rintro e w1 ⟨rfl,⟨n,rfl⟩⟩;go_wp2;go_ret3;exact⟨rfl,⟨⟨n,rfl⟩⟩⟩

end Go.Proofs.Ytihgpkohglcijaa.P
