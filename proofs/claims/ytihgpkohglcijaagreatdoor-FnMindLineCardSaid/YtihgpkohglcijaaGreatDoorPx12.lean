import Derived.Test.YtihgpkohglcijaaGreatDoorPx0
import Derived.Test.YtihgpkohglcijaaGreatDoorPx1
import Derived.Test.YtihgpkohglcijaaGreatDoorPx2
namespace Go.Proofs.YtihgpkohglcijaaGreatDoor.P
open Go.RowKit YtihgpkohglcijaaGreatDoorW PrintWords PrintLast PrintMore
attribute [local go_sem] max2_int min2_int max_two min_two max_three min_three max_four min_four
set_option linter.unusedVariables false
set_option linter.unusedSimpArgs false
attribute [local go_sem high] xF
set_option maxHeartbeats 8000000
set_option maxRecDepth 100000
def jE.l0:Nat→ByteArray→Int→Option (Bool)
 |0,_,_=>none
 |k+1,x0,x3=>if x3<(x0.size:Int)then(if 0≤x3 then(if(bt x0 x3)<32 then(some false)else(if(bt x0 x3)>126 then(some false)else(jE.l0 k x0 (wrap64 (x3+1)))))else(none))else(some (decide ((x0.size:Int)>0)))
def jE.f (k:Nat) (a0:ByteArray):Option (Bool):=jE.l0 k a0 0
theorem jE.gF:∀k,(∀y0 y1,ku (jE.l0 k y0 y1) (jE.l0 (k+1) y0 y1))
 |0=>fun _ _=> .z (by simp only[jE.l0])
 |k+1=>by
  have i0:=jE.gF k;exact fun _ _=>by unfold jE.l0;infer_instance
instance jE.mo {k a0}:ku (jE.f k a0) (jE.f (k+1) a0):=by have i0:=jE.gF k;unfold jE.f;infer_instance
theorem jE.calls (k:Nat) (a0:ByteArray) (r:Bool) (w:World) (h:jE.f k a0=some r):
  Calls Tryz.prog 125 #[.string a0] w fun e w'=>e= .returned (.bool r)∧Drawn0 w w':=by
 have H:=h;clear h;unfold jE.f at H;have H':=bm H;clear H;go_enter Tryz.func125,Tryz.ntmps125;go_wp2;go_loopg [3] k (fun kq v3 w'=>∃(J:Int),v3= .int .i64 J∧gm (jE.l0 kq a0 J=some r)∧gm (kq≤k)∧Drawn0 w w')
 case atStart=>exact⟨(0),(by first|rfl|(simp;done)|(simp[*];done)),H',⟨Nat.le_refl _⟩,by repeat(first|exact Drawn0.refl _|apply Drawn0.step)⟩
 case round=>
  clear H';obtain⟨J,rfl,HA,aB,⟨m1,rfl⟩⟩:=hrel;cases gk with
  |zero=>exact absurd HA.out (by simp[jE.l0])
  |succ k1=>
   have H:=HA.out;clear HA;simp only[jE.l0]at H;rcases vL H with⟨aC,H⟩|⟨aC,H⟩
   ·obtain⟨bu,H⟩:=vJ H;rcases vL H with⟨aD,H⟩|⟨aD,H⟩
    ·obtain rfl:=vZ H;have p4:0≤(J:Int):=jK;have q4:J<(a0.size:Int):=jK;have aE:=bt_at a0 J;replace p4:=vI p4;replace q4:=vI q4;go_wp2;go_ret;exact vn
    ·rcases vL H with⟨aF,H⟩|⟨aF,H⟩
     ·obtain rfl:=vZ H;have p4:0≤(J:Int):=jK;have q4:J<(a0.size:Int):=jK;have aE:=bt_at a0 J;replace p4:=vI p4;replace q4:=vI q4;have p6:0≤(J:Int):=jK;have q6:J<(a0.size:Int):=jK;have bb:=bt_at a0 J;replace p6:=vI p6;replace q6:=vI q6;go_wp2;go_ret;exact vn
     ·have H':=bm H;clear H;have p4:0≤(J:Int):=jK;have q4:J<(a0.size:Int):=jK;have aE:=bt_at a0 J;replace p4:=vI p4;replace q4:=vI q4;have p6:0≤(J:Int):=jK;have q6:J<(a0.size:Int):=jK;have bb:=bt_at a0 J;replace p6:=vI p6;replace q6:=vI q6;go_wp2;go_roundg k1
      case measure=>have:=aB.out;omega
      case rel=>exact⟨(wrap64 (J+1)),(by first|rfl|(simp;done)|(simp[*];done)),H',⟨by have:=aB.out;omega⟩,by repeat(first|exact Drawn0.refl _|apply Drawn0.step)⟩
   ·obtain rfl:=vZ H;go_wp2;go_ret;exact vn
def iJ.j0:Nat→Bool→Int→ByteArray→Option (ByteArray)
 |0,_,_,_=>none
 |k+1,x3,qq,uH=>if x3=true then((some (([(⟨#[102,105,114,115,116]⟩:ByteArray),(⟨#[97,108,108]⟩:ByteArray)]:List ByteArray):List ByteArray)).bind fun aa=>(if 0≤qq then(if qq<(aa.length:Int)then(if(rdOf ByteArray.empty aa qq).size+1≤9223372036854775807 then(if((rdOf ByteArray.empty aa qq)++(⟨#[32]⟩:ByteArray)).size+uH.size≤9223372036854775807 then(some (((rdOf ByteArray.empty aa qq)++(⟨#[32]⟩:ByteArray))++uH))else(none))else(none))else(none))else(none)))else(if(qq==2&&(uH.toList==([]:List UInt8)))=true then(some (⟨#[98,97,99,107]⟩:ByteArray))else(some (⟨#[]⟩:ByteArray)))
def iJ.f (k:Nat) (j:Int) (o:ByteArray):Option (ByteArray):=(kj.f j 0 1).bind fun af=>(if af=true then((jE.f k o).bind fun ae=>(iJ.j0 k ae j o))else(iJ.j0 k false j o))
theorem iJ.gF:∀k,(∀y0 y1 y2,ku (iJ.j0 k y0 y1 y2) (iJ.j0 (k+1) y0 y1 y2))
 |0=>fun _ _ _=> .z (by simp only[iJ.j0])
 |k+1=>by
  have i0:=iJ.gF k;exact fun _ _ _=>by unfold iJ.j0;infer_instance
instance iJ.mo {k a0 a1}:ku (iJ.f k a0 a1) (iJ.f (k+1) a0 a1):=by have i0:=iJ.gF k;unfold iJ.f;infer_instance
def iJ.T2:Bool×List (List Nat×List Nat):=(true,[([],[]),([],[]),([1],[1]),([0,2],[0,2]),([3],[3]),([4],[4]),([],[]),([6],[6]),([5,7],[5,7]),([8,0,1,2,3,4,5,6,7,8],[8])])
def iJ.B2:List Nat:=[0,0,2,7,15,31,0,64,255,511]
theorem iJ.Er:rtab .any (opsOf Tryz.f95 2)=iJ.T2:=by kernel_rfl
theorem iJ.Dd:waitsOk iJ.T2.2 iJ.B2=true:=by kernel_rfl
theorem iJ.calls (k:Nat) (j:Int) (o:ByteArray) (r:ByteArray) (w:World) (h:iJ.f k j o=some r):
  Calls Tryz.prog 95 #[.agg #[.int .i64 j,.string o]] w fun e w'=>e= .returned (.string r)∧Below w.heap.size w w':=by
 have bw:=Tryz.underlying58;have HB:=bm (Below.refl w.heap.size w);have H:=h;clear h;unfold iJ.f at H;have ar:=bm H;clear H;go_enter Tryz.func95,Tryz.ntmps95;go_upto_region 1 with(first|(refine mK 1 #[.int .i64 j,.string o] 58 ?_;intro ah hg _ aq hb;have I:=bm (aq);have bc:=bG HB hg;replace HB:=bW HB hb;clear hb aq hg))
 (try simp only[Act.put,qA,qB,qC]);go_cut [3] (fun v3 wc=>∃(kq:Nat) (J:Bool),v3= .bool J∧gm (iJ.j0 kq J j o=some r)∧gm (kq≤k)∧lE wc ah #[.int .i64 j,.string o] 58∧gm (Below w.heap.size w wc))
 case first=>
  have H:=ar.out;clear ar;obtain⟨af,A4,H⟩:=bE H;try dsimp only at H
  by_cases c5:af=true
  ·subst c5;rw[if_pos rfl]at H;obtain⟨ae,A6,H⟩:=bE H;try dsimp only at H
   have H':=bm H;clear H;obtain⟨_,_,_,_⟩:=b2 I;go_wp2_with (first|(refine gB (some 6) Tryz.func100 #[.int .i64 j,.int .i64 0,.int .i64 1] rfl ?_;(with_reducible refine(kj.calls j 0 1 true _ A4.out).mono ?_);rintro e w' ⟨rfl,⟨nd,rfl⟩⟩;refine⟨_,rfl,?_⟩)|(go_at_call 125;(with_reducible refine(jE.calls k o ae _ A6.out).mono ?_);rintro e w' ⟨rfl,⟨nd,rfl⟩⟩));go_meet
   case rel=>exact⟨_,(ae),(by first|rfl|(simp;done)|(simp[*];done)),H',⟨by first|omega|exact Nat.le_refl _⟩,⟨kS I⟩,⟨wZ HB⟩⟩
  ·replace c5:=uZ c5;subst c5;rw[if_neg vR]at H;have H':=bm H;clear H;obtain⟨_,_,_,_⟩:=b2 I;go_wp2_with (first|(refine gB (some 6) Tryz.func100 #[.int .i64 j,.int .i64 0,.int .i64 1] rfl ?_;(with_reducible refine(kj.calls j 0 1 false _ A4.out).mono ?_);rintro e w' ⟨rfl,⟨nd,rfl⟩⟩;refine⟨_,rfl,?_⟩));go_meet
   case rel=>exact⟨_,(false),(by first|rfl|(simp;done)|(simp[*];done)),H',⟨by first|omega|exact Nat.le_refl _⟩,⟨kS I⟩,⟨wZ HB⟩⟩
 case rest=>
  clear ar;obtain⟨kq,J,rfl,HA,bB,I,HB⟩:=hcut;cases kq with
  |zero=>exact absurd HA.out (by simp[iJ.j0])
  |succ Fh=>
   have H:=HA.out;clear HA;simp only[iJ.j0]at H;by_cases c9:J=true
   ·subst c9;rw[if_pos rfl]at H;obtain⟨aa,ai⟩:∃y_:List ByteArray,y_=(([(⟨#[102,105,114,115,116]⟩:ByteArray),(⟨#[97,108,108]⟩:ByteArray)]:List ByteArray)):=⟨_,rfl⟩;rw[←ai]at H
    have aj:=bm ai;clear ai;obtain⟨bd,H⟩:=vJ H;obtain⟨bf,H⟩:=vJ H;obtain⟨au,H⟩:=iN H;have bg:=vI au;have bh:=vG au;try have bj:(9223372036854775807<(rdOf ByteArray.empty aa j).size+1)=False:=eq_false (Nat.not_lt.2 au)
    obtain⟨ao,H⟩:=iN H;have bk:=vI ao;have bl:=vG ao;try have bn:(9223372036854775807<((rdOf ByteArray.empty aa j)++(⟨#[32]⟩:ByteArray)).size+o.size)=False:=eq_false (Nat.not_lt.2 ao)
    (try have bo:(9223372036854775807<(rdOf ByteArray.empty aa j).size+1+o.size)=False:=eq_false (by have h_:=ao;(repeat rw[ByteArray.size_append]at h_);exact Nat.not_lt.2 h_));obtain rfl:=vZ H;try go_wp2
    have bp:(0≤(j:Int))=True:=vI (jK);have bq:(j<(aa.length:Int))=True:=vI (jK);replace I:=vC I;replace HB:=vH HB;refine start_ (n:=10) (S:=fun w'=>w'.cell? ⟨ah,0,none⟩=some (.int .i64 j)∧w'.cell? ⟨ah,1,none⟩=some (.string o)) (ds:=[]) #[false,false,false,false,false,false,false,false,false,false] (by kernel_rfl) rfl rfl ⟨(ja I.out 0).trans rfl,(ja I.out 1).trans rfl⟩ (fun hHeld=>?_);refine with_tabW iJ.Er iJ.Dd (fun ab aH=>?_);generalize wc.drew=bD at I HB hHeld⊢;refine pA 1 13 ab ?_ ?_ ?_ ?_ (pA 6 18 ab ?_ ?_ ?_ ?_ (tA 2 14 ab aH hHeld ?_ ?_ ?_ ?_ (tA 7 19 ab aH hHeld ?_ ?_ ?_ ?_ ?_)))
    all_goals first|(rintro w' ⟨_,_⟩;go_simp;with_reducible rfl)|(intro w';go_simp;with_reducible rfl)|(simp only[Act.put,qA,qB,qC,i64_w,i32_w];rfl)|skip
    refine oA 0 (some 12) ab (fun K hK=>?_);refine Kd.R_lit_step Kd.string _ 9 ?hg (N:=12) ?hd (xs:=([(⟨#[102,105,114,115,116]⟩:ByteArray),(⟨#[97,108,108]⟩:ByteArray)]:List ByteArray)) (inner:=[.string (⟨#[102,105,114,115,116]⟩:ByteArray),.string (⟨#[97,108,108]⟩:ByteArray)]) (ok:=fun _=>True) (okp:=fun _=>True) ?hr ?hp (fun _ hk=>hk) trivial (Below.refl _ _) (Nat.le_refl _) (by simp) ?_;(case hd=>rfl);(case hg=>rfl);(case hr=>first|(go_simp;done)|(go_simp;rfl));(case hp=>exact(Reps.one (show Kd.M Kd.string _ _ _ (⟨#[102,105,114,115,116]⟩:ByteArray) [.string (⟨#[102,105,114,115,116]⟩:ByteArray)] from rfl) (Reps.one (show Kd.M Kd.string _ _ _ (⟨#[97,108,108]⟩:ByteArray) [.string (⟨#[97,108,108]⟩:ByteArray)] from rfl) (Reps.none _ _))));intro _ _ ag hb br av;clear br av;(first|rw[←aj.out]at ag|(simp only[Int.reduceToNat]at ag;rw[←aj.out]at ag));have ak:=vm ag HB;replace I:=bU I hb;replace HB:=bW HB hb;clear hb ag;obtain⟨bz,bA,aI⟩:=Kd.R_slice ak.out;subst aI;obtain⟨aw,aJ,_⟩:=Kd.at_string (Kd.R_reads' ak.out).2.2 0 (by decide) (by rw[aj.out];simp);cases aJ;refine hK.out _ _ ⟨(ja I.out 0).trans rfl,(ja I.out 1).trans rfl⟩ (fun hHeld=>?_);clear hK K;refine vQ 12 ?_
    refine pA 3 15 ab ?_ ?_ ?_ ?_ ?_
    all_goals first|(intro w';go_simp;with_reducible rfl)|(simp only[Act.put,qA,qB,qC,i64_w,i32_w];rfl)|skip
    refine oA 4 (some 16) ab (fun K hK=>?_);(have aK:0≤(j:Int):=jK;have aL:j<(aa.length:Int):=jK;obtain⟨ax,aM,an⟩:=Kd.at_string (Kd.R_reads' ak.out).2.2 j aK aL;obtain rfl:aw=ax:=(by injection aM));refine value_ (w1:=?_) (v:=?_) (by rfl) rfl ?_ ?_;rotate_left 2
    ·go_simp;constructor
     ·rfl
     ·rfl
    clear an;refine hK.out _ _ ⟨(ja I.out 0).trans rfl,(ja I.out 1).trans rfl⟩ (fun hHeld=>?_);clear hK K;refine vQ 16 ?_
    refine pA 5 17 ab ?_ ?_ ?_ ?_ (pA 8 20 ab ?_ ?_ ?_ ?_ (pA 9 2 ab ?_ ?_ ?_ ?_ ?_))
    all_goals first|(intro w';go_simp;with_reducible rfl)|(simp only[Act.put,qA,qB,qC,i64_w,i32_w];rfl)|skip
    refine done_ (done_of ab.out (by kernel_rfl)) ?_;try go_wp2
    go_ret;exact vo HB
   ·replace c9:=uZ c9;subst c9;rw[if_neg vR]at H;rcases iT H with⟨ad,H⟩|⟨ad,H⟩
    ·have al:(j==2&&(o.toList==([]:List UInt8)))=true:=ad;try have ay:(j==2&&o.toList.isEmpty)=true:=by have h_:=al;(repeat rw[Hof.mZ]);exact h_
     (try(have az:decide (j=2&&(o.toList==([]:List UInt8)))=true:=by simpa using ad));(try(have aA:(j==2&&(o.toList==([]:List UInt8)))=true:=by simpa using ad));clear ad;obtain rfl:=vZ H;obtain⟨_,_,_,_⟩:=b2 I;go_wp2;go_ret;exact vo HB
    ·have al:(j==2&&(o.toList==([]:List UInt8)))=false:=by simpa using ad
     (try have ay:(j==2&&o.toList.isEmpty)=false:=by have h_:=al;(repeat rw[Hof.mZ]);exact h_);(try(have az:decide (j=2&&(o.toList==([]:List UInt8)))=false:=by simpa using ad));(try(have aA:(j==2&&(o.toList==([]:List UInt8)))=false:=by simpa using ad));(try(have bs:¬(j=2&&(o.toList==([]:List UInt8))):=by simpa using ad));clear ad;obtain rfl:=vZ H;obtain⟨_,_,_,_⟩:=b2 I;go_wp2;go_ret;exact vo HB
end Go.Proofs.YtihgpkohglcijaaGreatDoor.P
