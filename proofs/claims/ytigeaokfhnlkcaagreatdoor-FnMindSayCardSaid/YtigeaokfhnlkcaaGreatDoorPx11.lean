import Derived.Test.YtigeaokfhnlkcaaGreatDoorPx0
import Derived.Test.YtigeaokfhnlkcaaGreatDoorPx1
import Derived.Test.YtigeaokfhnlkcaaGreatDoorPx2
namespace Go.Proofs.YtigeaokfhnlkcaaGreatDoor.P
open Go.RowKit YtigeaokfhnlkcaaGreatDoorW PrintWords PrintLast PrintMore
attribute [local go_sem] max2_int min2_int max_two min_two max_three min_three max_four min_four
set_option linter.unusedVariables false
set_option linter.unusedSimpArgs false
attribute [local go_sem high] yX
set_option maxHeartbeats 8000000
set_option maxRecDepth 100000
def jT.l0:Nat→BA→Int→Option (Bool)
 |0,_,_=>none
 |k+1,x0,x3=>if x3<(x0.size:Int)then(if 0≤x3 then(if(bt x0 x3)<32 then(some false)else(if(bt x0 x3)>126 then(some false)else(jT.l0 k x0 (wrap64 (x3+1)))))else(none))else(some (decide ((x0.size:Int)>0)))
def jT.f (k:Nat) (a0:BA):Option (Bool):=jT.l0 k a0 0
theorem jT.hZ:∀k,(∀y0 y1,lS (jT.l0 k y0 y1) (jT.l0 (k+1) y0 y1))
 |0=>fun _ _=> .z (by simp only[jT.l0])
 |k+1=>by
  have i0:=jT.hZ k;exact fun _ _=>by unfold jT.l0;infer_instance
instance jT.mo {k a0}:lS (jT.f k a0) (jT.f (k+1) a0):=by have i0:=jT.hZ k;unfold jT.f;infer_instance
theorem jT.calls (k:Nat) (a0:BA) (r:Bool) (w:World) (h:jT.f k a0=some r):
  Calls Tryz.prog 80 #[.string a0] w fun e w'=>e= .returned (.bool r)∧Drawn0 w w':=by
 have H:=h;clear h;unfold jT.f at H;have H':=bm H;clear H;go_enter Tryz.func80,Tryz.ntmps80;go_wp2;go_loopg [3] k (fun kq v3 w'=>∃(J:Int),v3= .int .i64 J∧hJ (jT.l0 kq a0 J=some r)∧hJ (kq≤k)∧Drawn0 w w')
 case atStart=>exact⟨(0),eA,H',⟨Nat.le_refl _⟩,by repeat(first|exact Drawn0.refl _|apply Drawn0.step)⟩
 case round=>
  clear H';obtain⟨J,rfl,HA,aB,⟨m1,rfl⟩⟩:=hrel;cases gk with
  |zero=>exact absurd HA.out (by simp[jT.l0])
  |succ k1=>
   have H:=HA.out;clear HA;simp only[jT.l0]at H;rcases pP H with⟨aC,H⟩|⟨aC,H⟩
   ·obtain⟨bu,H⟩:=pN H;rcases pP H with⟨aD,H⟩|⟨aD,H⟩
    ·obtain rfl:=pd H;have p4:0≤(J:Int):=ko;have q4:J<(a0.size:Int):=ko;have aE:=bt_at a0 J;replace p4:=pM p4;replace q4:=pM q4;go_wp2;go_ret;exact rq
    ·rcases pP H with⟨aF,H⟩|⟨aF,H⟩
     ·obtain rfl:=pd H;have p4:0≤(J:Int):=ko;have q4:J<(a0.size:Int):=ko;have aE:=bt_at a0 J;replace p4:=pM p4;replace q4:=pM q4;have p6:0≤(J:Int):=ko;have q6:J<(a0.size:Int):=ko;have bb:=bt_at a0 J;replace p6:=pM p6;replace q6:=pM q6;go_wp2;go_ret;exact rq
     ·have H':=bm H;clear H;have p4:0≤(J:Int):=ko;have q4:J<(a0.size:Int):=ko;have aE:=bt_at a0 J;replace p4:=pM p4;replace q4:=pM q4;have p6:0≤(J:Int):=ko;have q6:J<(a0.size:Int):=ko;have bb:=bt_at a0 J;replace p6:=pM p6;replace q6:=pM q6;go_wp2;go_roundg k1
      case measure=>have:=aB.out;omega
      case rel=>exact⟨(wrap64 (J+1)),eA,H',⟨by have:=aB.out;omega⟩,by repeat(first|exact Drawn0.refl _|apply Drawn0.step)⟩
   ·obtain rfl:=pd H;go_wp2;go_ret;exact rq
def js.j0:Nat→Bool→Int→BA→Option (BA)
 |0,_,_,_=>none
 |k+1,x3,tz,wY=>if x3=true then((some (([(⟨#[102,105,114,115,116]⟩:BA),(⟨#[97,108,108]⟩:BA)]:List BA):List BA)).bind fun aa=>(if 0≤tz then(if tz<(aa.length:Int)then(if(rdOf ByteArray.empty aa tz).size+1≤9223372036854775807 then(if((rdOf ByteArray.empty aa tz)++(⟨#[32]⟩:BA)).size+wY.size≤9223372036854775807 then(some (((rdOf ByteArray.empty aa tz)++(⟨#[32]⟩:BA))++wY))else(none))else(none))else(none))else(none)))else(if(tz==2&&(wY.toList==([]:List UInt8)))=true then(some (⟨#[98,97,99,107]⟩:BA))else(some (⟨#[]⟩:BA)))
def js.f (k:Nat) (j:Int) (o:BA):Option (BA):=(lR.f j 0 1).bind fun af=>(if af=true then((jT.f k o).bind fun ae=>(js.j0 k ae j o))else(js.j0 k false j o))
theorem js.hZ:∀k,(∀y0 y1 y2,lS (js.j0 k y0 y1 y2) (js.j0 (k+1) y0 y1 y2))
 |0=>fun _ _ _=> .z (by simp only[js.j0])
 |k+1=>by
  have i0:=js.hZ k;exact fun _ _ _=>by unfold js.j0;infer_instance
instance js.mo {k a0 a1}:lS (js.f k a0 a1) (js.f (k+1) a0 a1):=by have i0:=js.hZ k;unfold js.f;infer_instance
def js.T2:Bool×List (List Nat×List Nat):=(true,[([],[]),([],[]),([1],[1]),([0,2],[0,2]),([3],[3]),([4],[4]),([],[]),([6],[6]),([5,7],[5,7]),([8,0,1,2,3,4,5,6,7,8],[8])])
def js.B2:List Nat:=[0,0,2,7,15,31,0,64,255,511]
theorem js.GH:rtab .any (opsOf Tryz.f51 2)=js.T2:=by kernel_rfl
theorem js.Fg:waitsOk js.T2.2 js.B2=true:=by kernel_rfl
theorem js.calls (k:Nat) (j:Int) (o:BA) (r:BA) (w:World) (h:js.f k j o=some r):
  Calls Tryz.prog 51 #[.agg #[.int .i64 j,.string o]] w fun e w'=>e= .returned (.string r)∧Below w.heap.size w w':=by
 have bw:=Tryz.underlying47;have HB:=bm (Below.refl w.heap.size w);have H:=h;clear h;unfold js.f at H;have ar:=bm H;clear H;go_enter Tryz.func51,Tryz.ntmps51;go_upto_region 1 with(first|(refine re 1 #[.int .i64 j,.string o] 47 ?_;intro ah hg _ aq hb;have I:=bm (aq);have bc:=bG HB hg;replace HB:=bW HB hb;clear hb aq hg))
 (try simp only[Act.put,qA,qB,qC]);go_cut [3] (fun v3 wc=>∃(kq:Nat) (J:Bool),v3= .bool J∧hJ (js.j0 kq J j o=some r)∧hJ (kq≤k)∧oI wc ah #[.int .i64 j,.string o] 47∧hJ (Below w.heap.size w wc))
 case first=>
  have H:=ar.out;clear ar;obtain⟨af,A4,H⟩:=bE H;try dsimp only at H
  by_cases c5:af=true
  ·subst c5;rw[if_pos rfl]at H;obtain⟨ae,A6,H⟩:=bE H;try dsimp only at H
   have H':=bm H;clear H;obtain⟨_,_,_,_⟩:=b2 I;go_wp2_with (first|(refine gB (some 6) Tryz.func77 #[.int .i64 j,.int .i64 0,.int .i64 1] rfl ?_;(refine(lR.calls j 0 1 true _ A4.out).mono ?_);rintro e w' ⟨rfl,⟨nd,rfl⟩⟩;refine⟨_,rfl,?_⟩)|(go_at_call 80;(with_reducible refine(jT.calls k o ae _ A6.out).mono ?_);rintro e w' ⟨rfl,⟨nd,rfl⟩⟩));go_meet
   case rel=>exact⟨_,(ae),eA,H',⟨by first|omega|exact Nat.le_refl _⟩,⟨kS I⟩,⟨wZ HB⟩⟩
  ·replace c5:=pD c5;subst c5;rw[if_neg pV]at H;have H':=bm H;clear H;obtain⟨_,_,_,_⟩:=b2 I;go_wp2_with (first|(refine gB (some 6) Tryz.func77 #[.int .i64 j,.int .i64 0,.int .i64 1] rfl ?_;(refine(lR.calls j 0 1 false _ A4.out).mono ?_);rintro e w' ⟨rfl,⟨nd,rfl⟩⟩;refine⟨_,rfl,?_⟩));go_meet
   case rel=>exact⟨_,(false),eA,H',⟨by first|omega|exact Nat.le_refl _⟩,⟨kS I⟩,⟨wZ HB⟩⟩
 case rest=>
  clear ar;obtain⟨kq,J,rfl,HA,bD,I,HB⟩:=hcut;cases kq with
  |zero=>exact absurd HA.out (by simp[js.j0])
  |succ Hz=>
   have H:=HA.out;clear HA;simp only[js.j0]at H;by_cases c9:J=true
   ·subst c9;rw[if_pos rfl]at H;obtain⟨aa,ai⟩:∃y_:List BA,y_=(([(⟨#[102,105,114,115,116]⟩:BA),(⟨#[97,108,108]⟩:BA)]:List BA)):=⟨_,rfl⟩;rw[←ai]at H
    have aj:=bm ai;clear ai;obtain⟨bd,H⟩:=pN H;obtain⟨bf,H⟩:=pN H;obtain⟨au,H⟩:=iN H;have bg:=pM au;have bh:=pK au;try have bj:(9223372036854775807<(rdOf ByteArray.empty aa j).size+1)=False:=eq_false (Nat.not_lt.2 au)
    obtain⟨ao,H⟩:=iN H;have bk:=pM ao;have bl:=pK ao;try have bn:(9223372036854775807<((rdOf ByteArray.empty aa j)++(⟨#[32]⟩:BA)).size+o.size)=False:=eq_false (Nat.not_lt.2 ao)
    (try have bo:(9223372036854775807<(rdOf ByteArray.empty aa j).size+1+o.size)=False:=eq_false (by have h_:=ao;(repeat rw[ByteArray.size_append]at h_);exact Nat.not_lt.2 h_));obtain rfl:=pd H;try go_wp2
    have bp:(0≤(j:Int))=True:=pM (ko);have bq:(j<(aa.length:Int))=True:=pM (ko);replace I:=pG I;replace HB:=pL HB;refine start_ (n:=10) (S:=fun w'=>w'.cell? ⟨ah,0,none⟩=some (.int .i64 j)∧w'.cell? ⟨ah,1,none⟩=some (.string o)) (ds:=[]) #[false,false,false,false,false,false,false,false,false,false] (by kernel_rfl) rfl rfl ⟨bz I 0,bz I 1⟩ (fun hHeld=>?_);refine with_tabW js.GH js.Fg (fun ab aH=>?_);generalize wc.drew=bF at I HB hHeld⊢;refine pA 1 13 ab ?_ ?_ ?_ ?_ (pA 6 18 ab ?_ ?_ ?_ ?_ (tA 2 14 ab aH hHeld ?_ ?_ ?_ ?_ (tA 7 19 ab aH hHeld ?_ ?_ ?_ ?_ ?_)))
    all_goals first|(rintro w' ⟨_,_⟩;go_simp;with_reducible rfl)|(intro w';go_simp;with_reducible rfl)|(simp only[Act.put,qA,qB,qC,i64_w,i32_w];rfl)|skip
    refine oA 0 (some 12) ab (fun K hK=>?_);refine Kd.R_lit_step Kd.string _ 9 ?hg (N:=12) ?hd (xs:=([(⟨#[102,105,114,115,116]⟩:BA),(⟨#[97,108,108]⟩:BA)]:List BA)) (inner:=[.string (⟨#[102,105,114,115,116]⟩:BA),.string (⟨#[97,108,108]⟩:BA)]) (ok:=fun _=>True) (okp:=fun _=>True) ?hr ?hp (fun _ hk=>hk) trivial (Below.refl _ _) (Nat.le_refl _) (by simp) ?_;(case hd=>rfl);(case hg=>rfl);(case hr=>first|(go_simp;done)|(go_simp;rfl));(case hp=>exact(Reps.one (show Kd.M Kd.string _ _ _ (⟨#[102,105,114,115,116]⟩:BA) [.string (⟨#[102,105,114,115,116]⟩:BA)] from rfl) (Reps.one (show Kd.M Kd.string _ _ _ (⟨#[97,108,108]⟩:BA) [.string (⟨#[97,108,108]⟩:BA)] from rfl) (Reps.none _ _))));intro _ _ ag hb br av;clear br av;(first|rw[←aj.out]at ag|(simp only[Int.reduceToNat]at ag;rw[←aj.out]at ag));have ak:=rL ag HB;replace I:=bU I hb;replace HB:=bW HB hb;clear hb ag;obtain⟨bA,bB,aI⟩:=Kd.R_slice ak.out;subst aI;obtain⟨aw,aJ,_⟩:=Kd.at_string (Kd.R_reads' ak.out).2.2 0 (by decide) (by rw[aj.out];simp);cases aJ;refine hK.out _ _ ⟨bz I 0,bz I 1⟩ (fun hHeld=>?_);clear hK K;refine pU 12 ?_
    refine pA 3 15 ab ?_ ?_ ?_ ?_ ?_
    all_goals first|(intro w';go_simp;with_reducible rfl)|(simp only[Act.put,qA,qB,qC,i64_w,i32_w];rfl)|skip
    refine oA 4 (some 16) ab (fun K hK=>?_);(have aK:0≤(j:Int):=ko;have aL:j<(aa.length:Int):=ko;obtain⟨ax,aM,an⟩:=Kd.at_string (Kd.R_reads' ak.out).2.2 j aK aL;obtain rfl:aw=ax:=(by injection aM));refine value_ (w1:=?_) (v:=?_) (by rfl) rfl ?_ ?_;rotate_left 2
    ·go_simp;constructor
     ·rfl
     ·rfl
    clear an;refine hK.out _ _ ⟨bz I 0,bz I 1⟩ (fun hHeld=>?_);clear hK K;refine pU 16 ?_
    refine pA 5 17 ab ?_ ?_ ?_ ?_ (pA 8 20 ab ?_ ?_ ?_ ?_ (pA 9 2 ab ?_ ?_ ?_ ?_ ?_))
    all_goals first|(intro w';go_simp;with_reducible rfl)|(simp only[Act.put,qA,qB,qC,i64_w,i32_w];rfl)|skip
    refine done_ (done_of ab.out (by kernel_rfl)) ?_;try go_wp2
    go_ret;exact⟨eF,wZ HB⟩
   ·replace c9:=pD c9;subst c9;rw[if_neg pV]at H;rcases iT H with⟨ad,H⟩|⟨ad,H⟩
    ·have al:(j==2&&(o.toList==([]:List UInt8)))=true:=ad;try have ay:(j==2&&o.toList.isEmpty)=true:=by have h_:=al;(repeat rw[Hof.qW]);exact h_
     (try(have az:decide (j=2&&(o.toList==([]:List UInt8)))=true:=by simpa using ad));(try(have aA:(j==2&&(o.toList==([]:List UInt8)))=true:=by simpa using ad));clear ad;obtain rfl:=pd H;obtain⟨_,_,_,_⟩:=b2 I;go_wp2;go_ret;exact⟨eF,wZ HB⟩
    ·have al:(j==2&&(o.toList==([]:List UInt8)))=false:=by simpa using ad
     (try have ay:(j==2&&o.toList.isEmpty)=false:=by have h_:=al;(repeat rw[Hof.qW]);exact h_);(try(have az:decide (j=2&&(o.toList==([]:List UInt8)))=false:=by simpa using ad));(try(have aA:(j==2&&(o.toList==([]:List UInt8)))=false:=by simpa using ad));(try(have bs:¬(j=2&&(o.toList==([]:List UInt8))):=by simpa using ad));clear ad;obtain rfl:=pd H;obtain⟨_,_,_,_⟩:=b2 I;go_wp2;go_ret;exact⟨eF,wZ HB⟩
end Go.Proofs.YtigeaokfhnlkcaaGreatDoor.P
