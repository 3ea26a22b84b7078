import Derived.Test.YtihgpkohglcijaaGreatDoorPx0
import Derived.Test.YtihgpkohglcijaaGreatDoorPx2
import Derived.Test.YtihgpkohglcijaaGreatDoorPx3
import Derived.Test.YtihgpkohglcijaaGreatDoorPx4
import Derived.Test.YtihgpkohglcijaaGreatDoorPx27
namespace Go.Proofs.YtihgpkohglcijaaGreatDoor.P
open Go.RowKit YtihgpkohglcijaaGreatDoorW PrintWords PrintLast PrintMore
attribute [local go_sem] max2_int min2_int max_two min_two max_three min_three max_four min_four
set_option linter.unusedVariables false
set_option linter.unusedSimpArgs false
set_option maxHeartbeats 8000000
set_option maxRecDepth 100000
abbrev BR:Array Bool:= #[true,true,true,true,true,true,true,true,false,false,false]
abbrev BS:Array Bool:= #[true,true,true,true,true,true,true,true,true,false,false]
def iq.l0:Nat→Int→Int→ByteArray→Int→Option (ByteArray)
 |0,_,_,_,_=>none
 |k+1,x0,x1,x5,x6=>if x6≥0 then((jM.f x1 x6).bind fun ao=>(if ao=0 then(iq.l0 k x0 x1 x5 (wrap64 (x6 - 1)))else(if x5.toList=([]:List UInt8)then((jc.f k x0 x6).bind fun br=>(iq.l0 k x0 x1 br (wrap64 (x6 - 1))))else((jc.f k x0 x6).bind fun ad=>(if 1+ad.size≤9223372036854775807 then(if((⟨#[40]⟩:ByteArray)++ad).size+1≤9223372036854775807 then(if(((⟨#[40]⟩:ByteArray)++ad)++(⟨#[124]⟩:ByteArray)).size+x5.size≤9223372036854775807 then(if((((⟨#[40]⟩:ByteArray)++ad)++(⟨#[124]⟩:ByteArray))++x5).size+1≤9223372036854775807 then(iq.l0 k x0 x1 (((((⟨#[40]⟩:ByteArray)++ad)++(⟨#[124]⟩:ByteArray))++x5)++(⟨#[41]⟩:ByteArray)) (wrap64 (x6 - 1)))else(none))else(none))else(none))else(none))))))else(some x5)
def iq.f (k:Nat) (a0:Int) (a1:Int):Option (ByteArray):=(js.f a0 a1).bind fun aP=>(if aP=true then(if a1=0 then(some (⟨#[48]⟩:ByteArray))else((kG.f a0).bind fun al=>(if a1=al then(some (⟨#[49]⟩:ByteArray))else(if 0≤a0 then(iq.l0 k a0 a1 (⟨#[]⟩:ByteArray) (wrap64 ((shl .i64 1 a0) - 1)))else(none)))))else(some (⟨#[]⟩:ByteArray)))
theorem iq.gF:∀k,(∀y0 y1 y2 y3,ku (iq.l0 k y0 y1 y2 y3) (iq.l0 (k+1) y0 y1 y2 y3))
 |0=>fun _ _ _ _=> .z (by simp only[iq.l0])
 |k+1=>by
  have i0:=iq.gF k;exact fun _ _ _ _=>by unfold iq.l0;infer_instance
instance iq.mo {k a0 a1}:ku (iq.f k a0 a1) (iq.f (k+1) a0 a1):=by have i0:=iq.gF k;unfold iq.f;infer_instance
theorem iq.mono:∀a0 a1 k,LeO (iq.f k a0 a1) (iq.f (k+1) a0 a1):=fun _ _ _=>iq.mo.h
theorem iq.calls (k:Nat) (a0:Int) (a1:Int) (r:ByteArray) (w:World) (h:iq.f k a0 a1=some r):
  Calls Tryz.prog 49 #[.int .i64 a0,.int .i64 a1] w fun e w'=>e= .returned (.string r)∧Below w.heap.size w w':=by
 have HB:=bm (Below.refl w.heap.size w);have H:=h;clear h;unfold iq.f at H;obtain⟨aP,A3,H⟩:=bE H;try dsimp only at H
 by_cases c4:aP=true
 subst c4;rw[if_pos rfl]at H;rcases iT H with⟨c5,H⟩|⟨c5,H⟩
 obtain⟨cz,cA⟩:=vl c5;clear c5;obtain rfl:=vZ H
 rotate_left
 obtain⟨cz,cA⟩:=vk c5;obtain⟨al,A6,H⟩:=bE H;try dsimp only at H
 rcases iT H with⟨c7,H⟩|⟨c7,H⟩
 obtain⟨bz,b8⟩:=vl c7;clear c7;obtain rfl:=vZ H
 rotate_left
 obtain⟨bz,b8⟩:=vk c7;obtain⟨dC,dD,H⟩:=vK H;obtain⟨bf,av⟩:∃j_:Int,(shl .i64 1 a0)=j_:=⟨_,rfl⟩;first|rw[av]at H|simp only[av]at H
 (try rw[av]at A3);(try rw[av]at A6);have bA:(IntKind.i64.wrap (1*2^min a0.toNat 64))=bf:=av;have bB:a0≤64→(IntKind.i64.wrap (1*2^a0.toNat))=bf:=shl_small av;have cX:(IntKind.i64.wrap (2^min a0.toNat 64))=bf:=by have h_:=bA;rw[Int.one_mul]at h_;exact h_
 have c0:a0≤64→(IntKind.i64.wrap (2^a0.toNat))=bf:=fun cB=>by have h_:=bB cB;rw[Int.one_mul]at h_;exact h_
 have da:(wrap64 (1*2^min a0.toNat 64))=bf:=(i64_w _).symm.trans bA;have db:a0≤64→(wrap64 (1*2^a0.toNat))=bf:=fun h_=>(i64_w _).symm.trans (bB h_)
 have H':=bm H;clear H
 rotate_left
 replace c4:=uZ c4;subst c4;rw[if_neg vR]at H;obtain rfl:=vZ H
 rotate_left
 all_goals(go_enter Tryz.func49,Tryz.ntmps49;go_wp2_with (first|(refine gB (some 9) Tryz.func106 #[.int .i64 a0,.int .i64 a1] rfl ?_;(with_reducible refine(js.calls a0 a1 true _ A3.out).mono ?_);rintro e w' ⟨rfl,⟨nd,rfl⟩⟩;refine⟨_,rfl,?_⟩)|(refine gB (some 15) Tryz.func105 #[.int .i64 a0] rfl ?_;(with_reducible refine(kG.calls a0 al _ A6.out).mono ?_);rintro e w' ⟨rfl,⟨nd,rfl⟩⟩;refine⟨_,rfl,?_⟩)|(refine gB (some 9) Tryz.func106 #[.int .i64 a0,.int .i64 a1] rfl ?_;(with_reducible refine(js.calls a0 a1 false _ A3.out).mono ?_);rintro e w' ⟨rfl,⟨nd,rfl⟩⟩;refine⟨_,rfl,?_⟩)))
 iterate 2(go_ret;exact vo HB)
 ·go_loopg [5,6] k (fun kq v5 v6 w'=>∃(af:ByteArray) (o:Int),v5= .string af∧v6= .int .i64 o∧gm (iq.l0 kq a0 a1 af o=some r)∧gm (kq≤k)∧gm (Below w.heap.size w w'))
  case atStart=>exact⟨((⟨#[]⟩:ByteArray)),(wrap64 ((bf) - 1)),(by first|rfl|(simp;done)|(simp[*];done)),(by first|rfl|(simp;done)|(simp only[←av]<;>(first|rfl|simp))|(simp[*];done)),H',⟨Nat.le_refl _⟩,⟨wZ HB⟩⟩
  case round=>
   clear H';obtain⟨af,o,rfl,rfl,HA,ak,HB⟩:=hrel;cases gk with
   |zero=>exact absurd HA.out (by simp[iq.l0])
   |succ k1=>
    have H:=HA.out;clear HA;simp only[iq.l0]at H;rcases vL H with⟨cf,H⟩|⟨cf,H⟩
    ·obtain⟨ao,bg,H⟩:=bE H;try dsimp only at H
     rcases iT H with⟨bs,H⟩|⟨bs,H⟩
     ·obtain⟨cg,ch⟩:=vl bs;clear bs;have H':=bm H;clear H;go_wp2_with (first|(refine gB (some 26) Tryz.func107 #[.int .i64 a1,.int .i64 o] rfl ?_;(with_reducible refine(jM.calls a1 o ao _ bg.out).mono ?_);rintro e w' ⟨rfl,⟨nd,rfl⟩⟩;refine⟨_,rfl,?_⟩));go_roundg k1
      case measure=>have:=ak.out;omega
      case rel=>exact⟨(af),(wrap64 (o - 1)),(by first|rfl|(simp;done)|(simp[*];done)),(by first|rfl|(simp;done)|(simp[*];done)),H',⟨by have:=ak.out;omega⟩,⟨wZ HB⟩⟩
     ·obtain⟨cg,ch⟩:=vk bs;rcases iT H with⟨aj,H⟩|⟨aj,H⟩
      ·obtain⟨bh,bj⟩:=vl aj;clear aj;obtain⟨br,cj,H⟩:=bE H;try dsimp only at H
       have H':=bm H;clear H;go_wp2_with (first|(refine gB (some 26) Tryz.func107 #[.int .i64 a1,.int .i64 o] rfl ?_;(with_reducible refine(jM.calls a1 o ao _ bg.out).mono ?_);rintro e w' ⟨rfl,⟨nd,rfl⟩⟩;refine⟨_,rfl,?_⟩)|(refine gB (some 32) Tryz.func108 #[.int .i64 a0,.int .i64 o] rfl ?_;(with_reducible refine(jc.calls k1 a0 o br _ cj.out).mono ?_);rintro e _ ⟨rfl,hb⟩;refine⟨_,rfl,?_⟩;replace HB:=bW HB hb;clear hb));go_roundg k1
       case measure=>have:=ak.out;omega
       case rel=>exact⟨(br),(wrap64 (o - 1)),(by first|rfl|(simp;done)|(simp[*];done)),(by first|rfl|(simp;done)|(simp[*];done)),H',⟨by have:=ak.out;omega⟩,⟨wZ HB⟩⟩
      ·obtain⟨bh,bj⟩:=vk aj;obtain⟨ad,bk,H⟩:=bE H;try dsimp only at H
       obtain⟨ck,H⟩:=iN H;have dd:=vI ck;have de:=vG ck;try have df:(9223372036854775807<1+ad.size)=False:=eq_false (Nat.not_lt.2 ck)
       obtain⟨aQ,H⟩:=iN H;have cl:=vI aQ;have cm:=vG aQ;try have dh:(9223372036854775807<((⟨#[40]⟩:ByteArray)++ad).size+1)=False:=eq_false (Nat.not_lt.2 aQ)
       (try have di:(9223372036854775807<1+ad.size+1)=False:=eq_false (by have h_:=aQ;(repeat rw[ByteArray.size_append]at h_);exact Nat.not_lt.2 h_));obtain⟨aR,H⟩:=iN H;have cn:=vI aR;have cp:=vG aR;try have dj:(9223372036854775807<(((⟨#[40]⟩:ByteArray)++ad)++(⟨#[124]⟩:ByteArray)).size+af.size)=False:=eq_false (Nat.not_lt.2 aR)
       (try have dk:(9223372036854775807<1+ad.size+1+af.size)=False:=eq_false (by have h_:=aR;(repeat rw[ByteArray.size_append]at h_);exact Nat.not_lt.2 h_));obtain⟨b1,H⟩:=iN H;have dm:=vI b1;have dn:=vG b1;try have dp:(9223372036854775807<((((⟨#[40]⟩:ByteArray)++ad)++(⟨#[124]⟩:ByteArray))++af).size+1)=False:=eq_false (Nat.not_lt.2 b1)
       (try have dq:(9223372036854775807<1+ad.size+1+af.size+1)=False:=eq_false (by have h_:=b1;(repeat rw[ByteArray.size_append]at h_);exact Nat.not_lt.2 h_));have H':=bm H;clear H;go_wp2_with (first|(refine gB (some 26) Tryz.func107 #[.int .i64 a1,.int .i64 o] rfl ?_;(with_reducible refine(jM.calls a1 o ao _ bg.out).mono ?_);rintro e w' ⟨rfl,⟨nd,rfl⟩⟩;refine⟨_,rfl,?_⟩)|(refine gB (some 35) Tryz.func108 #[.int .i64 a0,.int .i64 o] rfl ?_;(with_reducible refine(jc.calls k1 a0 o ad _ bk.out).mono ?_);rintro e _ ⟨rfl,hb⟩;refine⟨_,rfl,?_⟩;replace HB:=bW HB hb;clear hb));go_roundg k1
       case measure=>have:=ak.out;omega
       case rel=>exact⟨(((((⟨#[40]⟩:ByteArray)++ad)++(⟨#[124]⟩:ByteArray))++af)++(⟨#[41]⟩:ByteArray)),(wrap64 (o - 1)),(by first|rfl|(simp;done)|(simp[*];done)),(by first|rfl|(simp;done)|(simp[*];done)),H',⟨by have:=ak.out;omega⟩,⟨wZ HB⟩⟩
    ·obtain rfl:=vZ H;go_wp2;go_ret;exact⟨by first|rfl|(simp[fM,fN]<;>rfl)|(simp only[←av];first|rfl|(simp[fM,fN]<;>rfl))|(simp[*,fM,fN]<;>rfl),wZ HB⟩
 ·go_ret;exact vo HB
def il.f:Nat→Int→Option (ByteArray)
 |0,_=>none
 |k+1,a0=>if a0<10 then(some (strOfNums (([(wrap64 (48+a0))%256]:List Int))))else((il.f k (wrap64 (Int.tdiv a0 10))).bind fun ag=>((some (([(wrap64 (48+(Int.tmod a0 10)))%256]:List Int):List Int)).bind fun ai=>(if ag.size+(strOfNums ai).size≤9223372036854775807 then(some (ag++(strOfNums ai)))else(none))))
theorem il.gF:∀k,(∀y0,ku (il.f k y0) (il.f (k+1) y0))
 |0=>fun _=> .z (by simp only[il.f])
 |k+1=>by
  have i0:=il.gF k;exact fun _=>by unfold il.f;infer_instance
instance il.mo {k a0}:ku (il.f k a0) (il.f (k+1) a0):=(il.gF k) a0
theorem il.mono:∀a0 k,LeO (il.f k a0) (il.f (k+1) a0):=fun _ _=>il.mo.h
def il.T3:Bool×List (List Nat×List Nat):=(true,[([],[]),([0],[0]),([1],[1]),([],[]),([3],[3]),([4],[4]),([5],[5]),([6],[6]),([7],[7]),([2,8],[2,8]),([9,2,0,1,2,3,4,5,6,7,8,9],[9])])
def il.B3:List Nat:=[0,1,3,0,8,24,56,120,248,511,1023]
theorem il.EB:rtab .any (opsOf Tryz.f50 3)=il.T3:=by kernel_rfl
theorem il.Dn:waitsOk il.T3.2 il.B3=true:=by kernel_rfl
theorem il.calls (k:Nat):∀(a0:Int) (r:ByteArray) (w:World) (h:il.f k a0=some r),
  Calls Tryz.prog 50 #[.int .i64 a0] w fun e w'=>e= .returned (.string r)∧Below w.heap.size w w':=by
 induction k using Nat.strongRecOn with
 | _ k ih=>
 intro a0 r w h;cases k with
 |zero=>exact absurd h (by simp[il.f])
 |succ k=>
 simp only[il.f]at h;have HB:=bm (Below.refl w.heap.size w);have H:(if a0<10 then(some (strOfNums (([(wrap64 (48+a0))%256]:List Int))))else((il.f k (wrap64 (Int.tdiv a0 10))).bind fun ag=>((some (([(wrap64 (48+(Int.tmod a0 10)))%256]:List Int):List Int)).bind fun ai=>(if ag.size+(strOfNums ai).size≤9223372036854775807 then(some (ag++(strOfNums ai)))else(none)))))=some r:=h;clear h;rcases vL H with⟨cC,H⟩|⟨cC,H⟩
 ·obtain⟨cD,bl⟩:∃y_:List Int,y_=(([(wrap64 (48+a0))%256]:List Int)):=⟨_,rfl⟩;rw[←bl]at H
  have bD:=bm bl;clear bl;obtain rfl:=vZ H;go_enter Tryz.func50,Tryz.ntmps50;go_wp2_with (first|((with_reducible refine gate_dst (N:=8) rfl ?_);refine Kd.R_lit (Kd.int .u8) _ 5 ?hg (N:=8) ?hd (xs:=([(wrap64 (48+a0))%256]:List Int)) (inner:=[.int .u8 ((wrap64 (48+a0))%256)]) (ok:=fun _=>True) (okp:=fun _=>True) ?hr ?hp (fun _ hk=>hk) trivial (Below.refl _ _) (Nat.le_refl _) (by simp) ?_;(case hd=>rfl);(case hg=>rfl);(case hr=>first|(go_simp;done)|(go_simp;rfl));(case hp=>exact(Reps.one (show Kd.M (Kd.int .u8) _ _ _ ((wrap64 (48+a0))%256) [.int .u8 ((wrap64 (48+a0))%256)] from rfl) (Reps.none _ _)));intro _ _ bF hb bH az;clear bH az;(first|rw[←bD.out]at bF|(simp only[Int.reduceToNat]at bF;rw[←bD.out]at bF));have cq:=vm bF HB;replace HB:=bW HB hb;clear hb bF;have dF:=own_string (P:=Tryz.prog) Tryz.underlying22 Tryz.underlying5 Tryz.underlying9 (Kd.own_of_R cq.out)));go_ret;exact vo HB
 ·obtain⟨ag,A6,H⟩:=bE H;try dsimp only at H
  obtain⟨ai,bn⟩:∃y_:List Int,y_=(([(wrap64 (48+(Int.tmod a0 10)))%256]:List Int)):=⟨_,rfl⟩;rw[←bn]at H
  have aK:=bm bn;clear bn;obtain⟨c7,H⟩:=iN H;have bz:=vI c7;have b8:=vG c7;try have dG:(9223372036854775807<ag.size+(strOfNums ai).size)=False:=eq_false (Nat.not_lt.2 c7)
  obtain rfl:=vZ H;go_enter Tryz.func50,Tryz.ntmps50;try go_wp2
  replace HB:=vH HB;refine start_ (n:=11) (S:=fun w'=>True) (ds:=[]) #[false,false,false,false,false,false,false,false,false,false,false] (by kernel_rfl) rfl rfl trivial (fun hHeld=>?_);refine with_tabW il.EB il.Dn (fun an dK=>?_);generalize w.drew=w8 at HB hHeld⊢;refine pA 0 10 an ?_ ?_ ?_ ?_ (pA 1 11 an ?_ ?_ ?_ ?_ (pA 3 13 an ?_ ?_ ?_ ?_ (pA 4 14 an ?_ ?_ ?_ ?_ (pA 5 15 an ?_ ?_ ?_ ?_ (pA 6 16 an ?_ ?_ ?_ ?_ ?_)))))
  all_goals first|(intro w';go_simp;with_reducible rfl)|(simp only[Act.put,qA,qB,qC,i64_w,i32_w];rfl)|skip
  refine join_ (σ:=Value) 2 BS (fun s_=>[(12,.string ag),(17,s_),(18,.string (strOfNums ai))]) (fun s_ w'=>(Kd.R (Kd.int .u8) 5 w' w.heap.size (fun _=>True) s_ ai)∧(Below w.heap.size w w')) ?_ ?_;rotate_left
  ·intro nT;refine two_ (i:=2) (j:=7) (Ni:=some 12) (Nj:=some 17) #[true,true,true,true,true,true,true,false,false,false,false] #[true,true,false,true,true,true,true,true,false,false,false] rfl rfl rfl rfl (two_of an.out (by kernel_rfl)) (by decide) (by decide) (fun K hK=>?_) (fun K hK=>?_)
   ·skip;refine goes_ Tryz.func50 (by kernel_rfl) rfl #[.int .i64 (wrap64 (Int.tdiv a0 10))] (by rfl) rfl rfl (by(try simp only[List.map_toArray,List.map_cons,List.map_nil]);first|done|rfl|(simp only[List.length_drop,List.length_take];rfl)) ?_;with_reducible refine(ih k (by omega) (wrap64 (Int.tdiv a0 10)) ag _ A6.out).mono ?_
    rintro e _ ⟨rfl,hb⟩;refine⟨_,rfl,?_⟩;replace HB:=bW HB hb;(try clear hb);(try clear hb2);(try clear hk);(try clear hi);refine hK.out _ _ trivial (fun hHeld=>?_);clear hK K;refine vQ 12 ?_
    refine oA 7 (some 17) an (fun K hK=>?_);refine Kd.R_lit_step (Kd.int .u8) _ 5 ?hg (N:=17) ?hd (xs:=([(wrap64 (48+(Int.tmod a0 10)))%256]:List Int)) (inner:=[.int .u8 ((wrap64 (48+(Int.tmod a0 10)))%256)]) (ok:=fun _=>True) (okp:=fun _=>True) ?hr ?hp (fun _ hk=>hk) trivial (Below.refl _ _) (Nat.le_refl _) (by simp) ?_;(case hd=>rfl);(case hg=>rfl);(case hr=>first|(go_simp;done)|(go_simp;rfl));(case hp=>exact(Reps.one (show Kd.M (Kd.int .u8) _ _ _ ((wrap64 (48+(Int.tmod a0 10)))%256) [.int .u8 ((wrap64 (48+(Int.tmod a0 10)))%256)] from rfl) (Reps.none _ _)));intro aG _ aS hb bH az;clear bH az;(first|rw[←aK.out]at aS|(simp only[Int.reduceToNat]at aS;rw[←aK.out]at aS));have ab:=vm aS HB;replace HB:=bW HB hb;clear hb aS;refine hK.out _ _ trivial (fun hHeld=>?_);clear hK K;refine vQ 17 ?_
    refine oA 8 (some 18) an (fun K hK=>?_);have bo:=own_string (P:=Tryz.prog) Tryz.underlying22 Tryz.underlying5 Tryz.underlying9 (Kd.own_of_R ab.out);refine value_ (w1:=?_) (v:=?_) (by rfl) rfl ?_ ?_;rotate_left 2
    ·go_simp;constructor
     ·rfl
     ·rfl
    clear bo;refine hK.out _ _ trivial (fun hHeld=>?_);clear hK K;refine vQ 18 ?_
    exact norm_ (by simp only[putAll,Act.put,qA,qB,qC]) (nT (aG) _ ⟨(rS ab),(wZ HB)⟩)
   ·skip;refine Kd.R_lit_step (Kd.int .u8) _ 5 ?hg (N:=17) ?hd (xs:=([(wrap64 (48+(Int.tmod a0 10)))%256]:List Int)) (inner:=[.int .u8 ((wrap64 (48+(Int.tmod a0 10)))%256)]) (ok:=fun _=>True) (okp:=fun _=>True) ?hr ?hp (fun _ hk=>hk) trivial (Below.refl _ _) (Nat.le_refl _) (by simp) ?_;(case hd=>rfl);(case hg=>rfl);(case hr=>first|(go_simp;done)|(go_simp;rfl));(case hp=>exact(Reps.one (show Kd.M (Kd.int .u8) _ _ _ ((wrap64 (48+(Int.tmod a0 10)))%256) [.int .u8 ((wrap64 (48+(Int.tmod a0 10)))%256)] from rfl) (Reps.none _ _)));intro aG _ aT hb bH az;clear bH az;(first|rw[←aK.out]at aT|(simp only[Int.reduceToNat]at aT;rw[←aK.out]at aT));have ab:=vm aT HB;replace HB:=bW HB hb;clear hb aT;refine hK.out _ _ trivial (fun hHeld=>?_);clear hK K;refine vQ 17 ?_
    refine two_ (i:=2) (j:=8) (Ni:=some 12) (Nj:=some 18) BR #[true,true,false,true,true,true,true,true,true,false,false] rfl rfl rfl rfl (two_of an.out (by kernel_rfl)) (by decide) (by decide) (fun K hK=>?_) (fun K hK=>?_)
    ·skip;refine goes_ Tryz.func50 (by kernel_rfl) rfl #[.int .i64 (wrap64 (Int.tdiv a0 10))] (by rfl) rfl rfl (by(try simp only[List.map_toArray,List.map_cons,List.map_nil]);first|done|rfl|(simp only[List.length_drop,List.length_take];rfl)) ?_;with_reducible refine(ih k (by omega) (wrap64 (Int.tdiv a0 10)) ag _ A6.out).mono ?_
     rintro e _ ⟨rfl,hb⟩;refine⟨_,rfl,?_⟩;replace ab:=bR ab hb;replace HB:=bW HB hb;(try clear hb);(try clear hb2);(try clear hk);(try clear hi);refine hK.out _ _ trivial (fun hHeld=>?_);clear hK K;refine vQ 12 ?_
     refine oA 8 (some 18) an (fun K hK=>?_);have bo:=own_string (P:=Tryz.prog) Tryz.underlying22 Tryz.underlying5 Tryz.underlying9 (Kd.own_of_R ab.out);refine value_ (w1:=?_) (v:=?_) (by rfl) rfl ?_ ?_;rotate_left 2
     ·go_simp;constructor
      ·rfl
      ·rfl
     clear bo;refine hK.out _ _ trivial (fun hHeld=>?_);clear hK K;refine vQ 18 ?_
     exact norm_ (by simp only[putAll,Act.put,qA,qB,qC]) (nT (aG) _ ⟨(rS ab),(wZ HB)⟩)
    ·skip;have cr:=own_string (P:=Tryz.prog) Tryz.underlying22 Tryz.underlying5 Tryz.underlying9 (Kd.own_of_R ab.out);refine value_ (w1:=?_) (v:=?_) (by rfl) rfl ?_ ?_;rotate_left 2
     ·go_simp;constructor
      ·rfl
      ·rfl
     clear cr;refine hK.out _ _ trivial (fun hHeld=>?_);clear hK K;refine vQ 18 ?_
     refine oA 2 (some 12) an (fun K hK=>?_);refine goes_ Tryz.func50 (by kernel_rfl) rfl #[.int .i64 (wrap64 (Int.tdiv a0 10))] (by rfl) rfl rfl (by(try simp only[List.map_toArray,List.map_cons,List.map_nil]);first|done|rfl|(simp only[List.length_drop,List.length_take];rfl)) ?_;with_reducible refine(ih k (by omega) (wrap64 (Int.tdiv a0 10)) ag _ A6.out).mono ?_
     rintro e _ ⟨rfl,hb⟩;refine⟨_,rfl,?_⟩;replace ab:=bR ab hb;replace HB:=bW HB hb;(try clear hb);(try clear hb2);(try clear hk);(try clear hi);refine hK.out _ _ trivial (fun hHeld=>?_);clear hK K;refine vQ 12 ?_
     exact norm_ (by simp only[putAll,Act.put,qA,qB,qC]) (nT (aG) _ ⟨(rS ab),(wZ HB)⟩)
  rintro aG ct ⟨cE,cF⟩;have ab:gm (Kd.R (Kd.int .u8) 5 ct w.heap.size (fun _=>True) aG ai):=⟨cE⟩;replace HB:gm (Below w.heap.size w ct):=⟨cF⟩;clear cE cF;have hHeld:=trivial;refine norm_ (a':=?_) ?_ ?_;rotate_left
  ·simp only[putAll,Act.put,qA,qB,qC];rfl
  refine pA 9 19 an ?_ ?_ ?_ ?_ (pA 10 2 an ?_ ?_ ?_ ?_ ?_)
  all_goals first|(intro w';go_simp;with_reducible rfl)|(simp only[Act.put,qA,qB,qC,i64_w,i32_w];rfl)|skip
  refine done_ (done_of an.out (by kernel_rfl)) ?_;try go_wp2
  go_ret;exact vo HB
mutual
def gX.l0:Nat→Int→ByteArray→Int→Option (Int×Int×Bool)
 |0,_,_,_=>none
 |k+1,x0,x1,x6=>if(wrap64 (x6+1))<(x1.size:Int)then(if 0≤x6 then(if x6<(x1.size:Int)then(if(bt x1 x6)=45 then(if 0≤(wrap64 (x6+1))then(gX.j1 k x0 x1 x6 ((bt x1 (wrap64 (x6+1))) !=62))else(none))else(gX.j1 k x0 x1 x6 true))else(none))else(none))else(some (0,0,false))
def gX.j1:Nat→Int→ByteArray→Int→Bool→Option (Int×Int×Bool)
 |0,_,_,_,_=>none
 |k+1,x0,x1,x6,x28=>if x28=true then(gX.l0 k x0 x1 (wrap64 (x6+1)))else(if 0≤x6 then(if x6≤(x1.size:Int)then((iM.f k x0 (x1.extract 0 (x6:Int).toNat)).bind fun bp=>(if 0≤(wrap64 (x6+2))then(if(wrap64 (x6+2))≤(x1.size:Int)then((iM.f k x0 (x1.extract ((wrap64 (x6+2)):Int).toNat x1.size)).bind fun bJ=>(if bp.2=true then(if bJ.2=true then(if bp.1=0 then(gX.l0 k x0 x1 (wrap64 (x6+1)))else(some (bp.1,bJ.1,true)))else(gX.l0 k x0 x1 (wrap64 (x6+1))))else(gX.l0 k x0 x1 (wrap64 (x6+1)))))else(none))else(none)))else(none))else(none))
end
def gX.f (k:Nat) (a0:Int) (a1:ByteArray):Option (Int×Int×Bool):=gX.l0 k a0 a1 0
theorem gX.gF:∀k,(∀y0 y1 y2,ku (gX.l0 k y0 y1 y2) (gX.l0 (k+1) y0 y1 y2))∧(∀y0 y1 y2 y3,ku (gX.j1 k y0 y1 y2 y3) (gX.j1 (k+1) y0 y1 y2 y3))
 |0=>⟨fun _ _ _=> .z (by simp only[gX.l0]),fun _ _ _ _=> .z (by simp only[gX.j1])⟩
 |k+1=>by
  have⟨i0,i1⟩:=gX.gF k;exact⟨fun _ _ _=>by unfold gX.l0;infer_instance,fun _ _ _ _=>by unfold gX.j1;infer_instance⟩
instance gX.mo {k a0 a1}:ku (gX.f k a0 a1) (gX.f (k+1) a0 a1):=by have⟨i0,i1⟩:=gX.gF k;unfold gX.f;infer_instance
theorem gX.calls (k:Nat) (a0:Int) (a1:ByteArray) (r1:Int) (r2:Int) (r3:Bool) (w:World) (h:gX.f k a0 a1=some (r1,r2,r3)):
  Calls Tryz.prog 52 #[.int .i64 a0,.string a1] w fun e w'=>e= .returned (.tuple #[.agg #[.int .i64 r1,.int .i64 r2],.bool r3])∧Below w.heap.size w w':=by
 have dH:=Tryz.underlying76;have HB:=bm (Below.refl w.heap.size w);have H:=h;clear h;unfold gX.f at H;have H':=bm H;clear H;go_enter Tryz.func52,Tryz.ntmps52;go_wp2_with (first|(refine mK 4 #[.int .i64 0,.int .i64 0] 76 ?_;intro au hg _ b9 hb;have aa:=bm (b9);have dr:=bG HB hg;replace HB:=bW HB hb;clear hb b9 hg));go_loopg [6] k (fun kq v6 w'=>∃(o:Int) (I:Int) (J:Int),v6= .int .i64 o∧gm (gX.l0 kq a0 a1 o=some (r1,r2,r3))∧gm (kq≤k)∧gm (w'.heap[au]?=some (.cells #[.int .i64 I,.int .i64 J] 76 (0,0)))∧gm (Below w.heap.size w w'))
 case atStart=>exact⟨(0),(0),(0),(by first|rfl|(simp;done)|(simp[*];done)),H',⟨Nat.le_refl _⟩,⟨kS aa⟩,⟨wZ HB⟩⟩
 case round=>
  clear H';obtain⟨o,I,J,rfl,HA,ak,aa,HB⟩:=hrel;cases gk with
  |zero=>exact absurd HA.out (by simp[gX.l0])
  |succ k1=>
   have H:=HA.out;clear HA;simp only[gX.l0]at H;rcases vL H with⟨ca,H⟩|⟨ca,H⟩
   ·have cu:=bm H;clear H;go_upto_region 4 with(fail)
    go_cut [28] (fun v28 wc=>∃(kq:Nat) (aL:Bool),v28= .bool aL∧gm (gX.j1 kq a0 a1 o aL=some (r1,r2,r3))∧gm (kq≤k1)∧lE wc au #[.int .i64 I,.int .i64 J] 76∧gm (Below w.heap.size w wc))
    case first=>
     have H:=cu.out;clear cu;obtain⟨cb,H⟩:=vJ H;(first|rw[cb]|(simp only[i64_w,i32_w];rw[cb])|skip);obtain⟨bz,H⟩:=vJ H;rcases iT H with⟨c9,H⟩|⟨c9,H⟩
     ·obtain⟨cG,cH⟩:=vl c9;clear c9;obtain⟨aU,aA⟩:∃j_:Int,(wrap64 (o+1))=j_:=⟨_,rfl⟩;first|rw[aA]at H|simp only[aA]at H
      (try rw[aA]at ca);have cU:(IntKind.i64.wrap (o+1))=aU:=(i64_w _).trans aA;obtain⟨bO,H⟩:=vJ H;have H':=bm H;clear H;have p8:0≤(o:Int):=jK;have q8:o<(a1.size:Int):=jK;have dt:=bt_at a1 o;replace p8:=vI p8;replace q8:=vI q8;have cI:0≤((aU):Int):=jK;have cJ:(aU)<(a1.size:Int):=jK;have dI:=bt_at a1 (aU);replace cI:=vI cI;replace cJ:=vI cJ;go_wp2;go_meet
      case rel=>exact⟨_,(((bt a1 (aU)) !=62)),(by first|rfl|(simp;done)|(simp only[←aA]<;>(first|rfl|simp))|(simp[*];done)),H',⟨by have:=ak.out;first|omega|exact Nat.le_refl _⟩,⟨kS aa⟩,⟨wZ HB⟩⟩
     ·obtain⟨cG,cH⟩:=vk c9;have H':=bm H;clear H;have p8:0≤(o:Int):=jK;have q8:o<(a1.size:Int):=jK;have dt:=bt_at a1 o;replace p8:=vI p8;replace q8:=vI q8;go_wp2;go_meet
      case rel=>exact⟨_,(true),(by first|rfl|(simp;done)|(simp[*];done)),H',⟨by have:=ak.out;first|omega|exact Nat.le_refl _⟩,⟨kS aa⟩,⟨wZ HB⟩⟩
    case rest=>
     clear cu;obtain⟨kq,aL,rfl,HA,aW,aa,HB⟩:=hcut;cases kq with
     |zero=>exact absurd HA.out (by simp[gX.j1])
     |succ sl=>
      have H:=HA.out;clear HA;simp only[gX.j1]at H;by_cases aj:aL=true
      ·subst aj;rw[if_pos rfl]at H;have H':=bm H;clear H;go_wp2;go_roundg sl
       case measure=>have:=ak.out;have:=aW.out;omega
       case rel=>exact⟨(wrap64 (o+1)),(I),(J),(by first|rfl|(simp;done)|(simp[*];done)),H',⟨by have:=ak.out;have:=aW.out;omega⟩,⟨kS aa⟩,⟨wZ HB⟩⟩
      ·replace aj:=uZ aj;subst aj;rw[if_neg vR]at H;obtain⟨cv,du,H⟩:=vK H;obtain⟨dv,dw,H⟩:=vK H;obtain⟨⟨aq,cK⟩,bk,H⟩:=bE H;try dsimp only at H
       obtain⟨ar,ah⟩:∃j_:Int,(wrap64 (o+2))=j_:=⟨_,rfl⟩;first|rw[ah]at H|simp only[ah]at H
       (try rw[ah]at bk);have cV:(IntKind.i64.wrap (o+2))=ar:=(i64_w _).trans ah;obtain⟨cl,cm,H⟩:=vK H;obtain⟨cn,cp,H⟩:=vK H;obtain⟨⟨aY,cc⟩,b4,H⟩:=bE H;try dsimp only at H
       by_cases b5:cK=true
       ·subst b5;rw[if_pos rfl]at H;by_cases b6:cc=true
        ·subst b6;rw[if_pos rfl]at H;rcases iT H with⟨bw,H⟩|⟨bw,H⟩
         ·obtain⟨cx,cy⟩:=vl bw;clear bw;have H':=bm H;clear H;go_wp2_with (first|(refine gB (some 34) Tryz.func51 #[.int .i64 a0,.string (a1.extract 0 (o:Int).toNat)] rfl ?_;(with_reducible refine(iM.calls sl a0 (a1.extract 0 (o:Int).toNat) aq true _ bk.out).mono ?_);rintro e w' ⟨rfl,⟨nd,rfl⟩⟩;refine⟨_,rfl,?_⟩)|((with_reducible refine gate_callee (f:=51) rfl ?_);refine yI (some 43) rfl rfl Tryz.func51 (by kernel_rfl) rfl #[.int .i64 a0,.string (a1.extract ((ar):Int).toNat a1.size)] rfl (by(try simp only[List.map_toArray,List.map_cons,List.map_nil]);first|done|(simp only[ah];rfl)|rfl|(simp only[List.length_drop,List.length_take];rfl)) ?_;(with_reducible refine(iM.calls sl a0 (a1.extract ((ar):Int).toNat a1.size) aY true _ b4.out).mono ?_);rintro e w' ⟨rfl,⟨nd,rfl⟩⟩;refine⟨_,rfl,?_⟩));go_roundg sl
          case measure=>have:=ak.out;have:=aW.out;omega
          case rel=>exact⟨(wrap64 (o+1)),(I),(J),(by first|rfl|(simp;done)|(simp[*];done)),H',⟨by have:=ak.out;have:=aW.out;omega⟩,⟨kS aa⟩,⟨wZ HB⟩⟩
         ·obtain⟨cx,cy⟩:=vk bw;obtain⟨rfl,rfl,rfl⟩:=s3 H;go_wp2_with (first|(refine gB (some 34) Tryz.func51 #[.int .i64 a0,.string (a1.extract 0 (o:Int).toNat)] rfl ?_;(with_reducible refine(iM.calls sl a0 (a1.extract 0 (o:Int).toNat) aq true _ bk.out).mono ?_);rintro e w' ⟨rfl,⟨nd,rfl⟩⟩;refine⟨_,rfl,?_⟩;(try(rw[drewN_self wc];generalize nz:World.drewN wc _=wc;replace aa:lE wc au #[.int .i64 I,.int .i64 J] 76:=⟨by rw[←nz];exact(kS aa)⟩;replace HB:gm (Below w.heap.size w wc):=⟨by rw[←nz];exact(wZ HB)⟩;clear nz)))|((with_reducible refine gate_callee (f:=51) rfl ?_);refine yI (some 43) rfl rfl Tryz.func51 (by kernel_rfl) rfl #[.int .i64 a0,.string (a1.extract ((ar):Int).toNat a1.size)] rfl (by(try simp only[List.map_toArray,List.map_cons,List.map_nil]);first|done|(simp only[ah];rfl)|rfl|(simp only[List.length_drop,List.length_take];rfl)) ?_;(with_reducible refine(iM.calls sl a0 (a1.extract ((ar):Int).toNat a1.size) aY true _ b4.out).mono ?_);rintro e w' ⟨rfl,⟨nd,rfl⟩⟩;refine⟨_,rfl,?_⟩;(try(rw[drewN_self wc];generalize nz:World.drewN wc _=wc;replace aa:lE wc au #[.int .i64 I,.int .i64 J] 76:=⟨by rw[←nz];exact(kS aa)⟩;replace HB:gm (Below w.heap.size w wc):=⟨by rw[←nz];exact(wZ HB)⟩;clear nz));obtain⟨_,_,_,_⟩:=b2 aa));refine bodyPost_ret (results_ct rfl _ _ au 76 #[.int .i64 aq,.int .i64 aY] (0,0) _ rfl (kP aa) Tryz.underlying76 rfl (by kernel_rfl)) rfl ?_;exact⟨by first|rfl|(simp[fM,fN]<;>rfl)|(simp only[←ah];first|rfl|(simp[fM,fN]<;>rfl))|(simp[*,fM,fN]<;>rfl),wZ HB⟩
        ·replace b6:=uZ b6;subst b6;rw[if_neg vR]at H;have H':=bm H;clear H;go_wp2_with (first|(refine gB (some 34) Tryz.func51 #[.int .i64 a0,.string (a1.extract 0 (o:Int).toNat)] rfl ?_;(with_reducible refine(iM.calls sl a0 (a1.extract 0 (o:Int).toNat) aq true _ bk.out).mono ?_);rintro e w' ⟨rfl,⟨nd,rfl⟩⟩;refine⟨_,rfl,?_⟩)|((with_reducible refine gate_callee (f:=51) rfl ?_);refine yI (some 43) rfl rfl Tryz.func51 (by kernel_rfl) rfl #[.int .i64 a0,.string (a1.extract ((ar):Int).toNat a1.size)] rfl (by(try simp only[List.map_toArray,List.map_cons,List.map_nil]);first|done|(simp only[ah];rfl)|rfl|(simp only[List.length_drop,List.length_take];rfl)) ?_;(with_reducible refine(iM.calls sl a0 (a1.extract ((ar):Int).toNat a1.size) aY false _ b4.out).mono ?_);rintro e w' ⟨rfl,⟨nd,rfl⟩⟩;refine⟨_,rfl,?_⟩));go_roundg sl
         case measure=>have:=ak.out;have:=aW.out;omega
         case rel=>exact⟨(wrap64 (o+1)),(I),(J),(by first|rfl|(simp;done)|(simp[*];done)),H',⟨by have:=ak.out;have:=aW.out;omega⟩,⟨kS aa⟩,⟨wZ HB⟩⟩
       ·replace b5:=uZ b5;subst b5;rw[if_neg vR]at H;have H':=bm H;clear H;go_wp2_with (first|(refine gB (some 34) Tryz.func51 #[.int .i64 a0,.string (a1.extract 0 (o:Int).toNat)] rfl ?_;(with_reducible refine(iM.calls sl a0 (a1.extract 0 (o:Int).toNat) aq false _ bk.out).mono ?_);rintro e w' ⟨rfl,⟨nd,rfl⟩⟩;refine⟨_,rfl,?_⟩)|((with_reducible refine gate_callee (f:=51) rfl ?_);refine yI (some 43) rfl rfl Tryz.func51 (by kernel_rfl) rfl #[.int .i64 a0,.string (a1.extract ((ar):Int).toNat a1.size)] rfl (by(try simp only[List.map_toArray,List.map_cons,List.map_nil]);first|done|(simp only[ah];rfl)|rfl|(simp only[List.length_drop,List.length_take];rfl)) ?_;(with_reducible refine(iM.calls sl a0 (a1.extract ((ar):Int).toNat a1.size) aY cc _ b4.out).mono ?_);rintro e w' ⟨rfl,⟨nd,rfl⟩⟩;refine⟨_,rfl,?_⟩));go_roundg sl
        case measure=>have:=ak.out;have:=aW.out;omega
        case rel=>exact⟨(wrap64 (o+1)),(I),(J),(by first|rfl|(simp;done)|(simp[*];done)),H',⟨by have:=ak.out;have:=aW.out;omega⟩,⟨kS aa⟩,⟨wZ HB⟩⟩
   ·obtain⟨rfl,rfl,rfl⟩:=s3 H;obtain⟨_,_,_,_⟩:=b2 aa;go_wp2;refine bodyPost_ret (results_ct rfl _ _ au 76 #[.int .i64 0,.int .i64 0] (0,0) _ rfl (kP aa) Tryz.underlying76 rfl (by kernel_rfl)) rfl ?_;exact vo HB
def na.f (a0:Bool):Option (ByteArray):=if a0=true then(some (⟨#[121,101,115]⟩:ByteArray))else(some (⟨#[110,111]⟩:ByteArray))
theorem na.calls (a0:Bool) (r:ByteArray) (w:World) (h:na.f a0=some r):
  Calls Tryz.prog 53 #[.bool a0] w fun e w'=>e= .returned (.string r)∧Drawn0 w w':=by
 have H:=h;clear h;unfold na.f at H;by_cases c2:a0=true
 ·subst c2;rw[if_pos rfl]at H;obtain rfl:=vZ H;go_enter Tryz.func53,Tryz.ntmps53;go_wp2;go_ret;exact vn
 ·replace c2:=uZ c2;subst c2;rw[if_neg vR]at H;obtain rfl:=vZ H;go_enter Tryz.func53,Tryz.ntmps53;go_wp2;go_ret;exact vn
mutual
def iB.j0:Nat→List Int→Int→Bool→Option (Int)
 |0,_,_,_=>none
 |k+1,x1,x2,x18=>if x18=true then(some (-1))else(iB.l0 k x1 x2 10 0)
def iB.l0:Nat→List Int→Int→Int→Int→Option (Int)
 |0,_,_,_,_=>none
 |k+1,x1,x2,x7,x8=>if x8<(x1.length:Int)then((jM.f x2 x8).bind fun aw=>(if aw=1 then(if 0≤x8 then(iB.l0 k x1 x2 (mn x7 (rd x1 x8)) (wrap64 (x8+1)))else(none))else(iB.l0 k x1 x2 x7 (wrap64 (x8+1)))))else(some x7)
end
def iB.f (k:Nat) (a0:Int) (l1:List Int) (a2:Int):Option (Int):=(gY.f k a0 l1).bind fun aZ=>(if aZ=true then((js.f a0 a2).bind fun aH=>(iB.j0 k l1 a2 (!aH)))else(iB.j0 k l1 a2 true))
theorem iB.gF:∀k,(∀y0 y1 y2,ku (iB.j0 k y0 y1 y2) (iB.j0 (k+1) y0 y1 y2))∧(∀y0 y1 y2 y3,ku (iB.l0 k y0 y1 y2 y3) (iB.l0 (k+1) y0 y1 y2 y3))
 |0=>⟨fun _ _ _=> .z (by simp only[iB.j0]),fun _ _ _ _=> .z (by simp only[iB.l0])⟩
 |k+1=>by
  have⟨i0,i1⟩:=iB.gF k;exact⟨fun _ _ _=>by unfold iB.j0;infer_instance,fun _ _ _ _=>by unfold iB.l0;infer_instance⟩
instance iB.mo {k a0 a1 a2}:ku (iB.f k a0 a1 a2) (iB.f (k+1) a0 a1 a2):=by have⟨i0,i1⟩:=iB.gF k;unfold iB.f;infer_instance
theorem iB.calls (k:Nat) (a0:Int) (A1:Option Addr) (c1:Nat) (l1:List Int) (a2:Int) (r:Int) (w:World) (a6:Kd.C (Kd.int .i64) w A1 l1.length l1) (a7:l1.length≤c1) (h:iB.f k a0 l1 a2=some r):
  Calls Tryz.prog 110 #[.int .i64 a0,.slice A1 l1.length c1,.int .i64 a2] w fun e w'=>e= .returned (.int .i64 r)∧Below w.heap.size w w':=by
 have ay:=bm a6;have aB:=bm a7;clear a6 a7;have HB:=bm (Below.refl w.heap.size w);have H:=h;clear h;unfold iB.f at H;have aC:=bm H;clear H;go_enter Tryz.func110,Tryz.ntmps110;go_upto_region 1 with(fail)
 go_cut [18] (fun dx wc=>∃(kq:Nat) (aM:Bool),dx= .bool aM∧gm (iB.j0 kq l1 a2 aM=some r)∧gm (kq≤k)∧gm (Below w.heap.size w wc))
 case first=>
  have H:=aC.out;clear aC;obtain⟨aZ,A5,H⟩:=bE H;try dsimp only at H
  by_cases c6:aZ=true
  ·subst c6;rw[if_pos rfl]at H;obtain⟨aH,A7,H⟩:=bE H;try dsimp only at H
   have H':=bm H;clear H;go_wp2_with (first|(refine gB (some 11) Tryz.func103 #[.int .i64 a0,.slice A1 l1.length c1] rfl ?_;(with_reducible refine(gY.calls k a0 _ _ l1 true _ ?_ ?_ A5.out).mono ?_);exact cY ay HB;exact aB.out;rintro e _ ⟨rfl,hb⟩;refine⟨_,rfl,?_⟩;replace HB:=bW HB hb;clear hb)|(go_at_call 106;(with_reducible refine(js.calls a0 a2 aH _ A7.out).mono ?_);rintro e w' ⟨rfl,⟨nd,rfl⟩⟩));go_meet
   case rel=>exact⟨_,(!aH),(by first|rfl|(simp;done)|(simp[*];done)),H',⟨by first|omega|exact Nat.le_refl _⟩,⟨wZ HB⟩⟩
  ·replace c6:=uZ c6;subst c6;rw[if_neg vR]at H;have H':=bm H;clear H;go_wp2_with (first|(refine gB (some 11) Tryz.func103 #[.int .i64 a0,.slice A1 l1.length c1] rfl ?_;(with_reducible refine(gY.calls k a0 _ _ l1 false _ ?_ ?_ A5.out).mono ?_);exact cY ay HB;exact aB.out;rintro e _ ⟨rfl,hb⟩;refine⟨_,rfl,?_⟩;replace HB:=bW HB hb;clear hb));go_meet
   case rel=>exact⟨_,(true),(by first|rfl|(simp;done)|(simp[*];done)),H',⟨by first|omega|exact Nat.le_refl _⟩,⟨wZ HB⟩⟩
 case rest=>
  clear aC;obtain⟨kq,aM,rfl,HA,bx,HB⟩:=hcut;cases kq with
  |zero=>exact absurd HA.out (by simp[iB.j0])
  |succ oW=>
   have H:=HA.out;clear HA;simp only[iB.j0]at H;by_cases c10:aM=true
   ·subst c10;rw[if_pos rfl]at H;obtain rfl:=vZ H;go_wp2;go_ret;exact vo HB
   ·replace c10:=uZ c10;subst c10;rw[if_neg vR]at H;have H':=bm H;clear H;go_wp2;go_loopg [7,8] oW (fun kq v7 v8 w'=>∃(aD:Int) (ae:Int),v7= .int .i64 aD∧v8= .int .i64 ae∧gm (iB.l0 kq l1 a2 aD ae=some r)∧gm (kq≤oW)∧gm (Below w.heap.size w w'))
    case atStart=>exact⟨(10),(0),(by first|rfl|(simp;done)|(simp[*];done)),(by first|rfl|(simp;done)|(simp[*];done)),H',⟨Nat.le_refl _⟩,⟨wZ HB⟩⟩
    case round=>
     clear H';obtain⟨aD,ae,rfl,rfl,HA,b7,HB⟩:=hrel;cases gk with
     |zero=>exact absurd HA.out (by simp[iB.l0])
     |succ k2=>
      have H:=HA.out;clear HA;simp only[iB.l0]at H;rcases vL H with⟨bO,H⟩|⟨bO,H⟩
      ·obtain⟨aw,bq,H⟩:=bE H;try dsimp only at H
       rcases iT H with⟨aj,H⟩|⟨aj,H⟩
       ·obtain⟨bh,bj⟩:=vl aj;clear aj;obtain⟨cv,H⟩:=vJ H;obtain⟨cd,aE⟩:∃j_:Int,(mn aD (rd l1 ae))=j_:=⟨_,rfl⟩;first|rw[aE]at H|simp only[aE]at H
        (try rw[aE]at bq);have cW:(if(rd l1 ae)<aD then(rd l1 ae)else aD)=cd:=aE;have H':=bm H;clear H;go_wp2_with (first|(refine gB (some 27) Tryz.func107 #[.int .i64 a2,.int .i64 ae] rfl ?_;(with_reducible refine(jM.calls a2 ae aw _ bq.out).mono ?_);rintro e w' ⟨rfl,⟨nd,rfl⟩⟩;refine⟨_,rfl,?_⟩;have bT:0≤(ae:Int):=jK;have bV:ae<(l1.length:Int):=jK;obtain⟨dy,cT,aF⟩:=Kd.at_int ay.out ae bT bV;cases cT;replace aF:=vA HB aF;replace bT:=vI bT;replace bV:=vI bV));go_roundg k2
        case measure=>have:=bx.out;have:=b7.out;omega
        case rel=>exact⟨(cd),(wrap64 (ae+1)),(by first|rfl|(simp;done)|(simp only[←aE]<;>(first|rfl|simp))|(simp[*];done)),(by first|rfl|(simp;done)|(simp[*];done)),H',⟨by have:=bx.out;have:=b7.out;omega⟩,⟨wZ HB⟩⟩
       ·obtain⟨bh,bj⟩:=vk aj;have H':=bm H;clear H;go_wp2_with (first|(refine gB (some 27) Tryz.func107 #[.int .i64 a2,.int .i64 ae] rfl ?_;(with_reducible refine(jM.calls a2 ae aw _ bq.out).mono ?_);rintro e w' ⟨rfl,⟨nd,rfl⟩⟩;refine⟨_,rfl,?_⟩));go_roundg k2
        case measure=>have:=bx.out;have:=b7.out;omega
        case rel=>exact⟨(aD),(wrap64 (ae+1)),(by first|rfl|(simp;done)|(simp[*];done)),(by first|rfl|(simp;done)|(simp[*];done)),H',⟨by have:=bx.out;have:=b7.out;omega⟩,⟨wZ HB⟩⟩
      ·obtain rfl:=vZ H;go_wp2;go_ret;exact vo HB
def jo.j0:Nat→Int→List Int→Int→Bool→Option (Int)
 |0,_,_,_,_=>none
 |k+1,x0,x1,x2,x16=>if x16=true then(some (-1))else((kG.f x0).bind fun a8=>((iB.f k x0 x1 (wrap64 (a8 - x2))).bind fun bZ=>(some bZ)))
def jo.f (k:Nat) (a0:Int) (l1:List Int) (a2:Int):Option (Int):=(gY.f k a0 l1).bind fun ba=>(if ba=true then((js.f a0 a2).bind fun aI=>(jo.j0 k a0 l1 a2 (!aI)))else(jo.j0 k a0 l1 a2 true))
theorem jo.gF:∀k,(∀y0 y1 y2 y3,ku (jo.j0 k y0 y1 y2 y3) (jo.j0 (k+1) y0 y1 y2 y3))
 |0=>fun _ _ _ _=> .z (by simp only[jo.j0])
 |k+1=>by
  have i0:=jo.gF k;exact fun _ _ _ _=>by unfold jo.j0;infer_instance
instance jo.mo {k a0 a1 a2}:ku (jo.f k a0 a1 a2) (jo.f (k+1) a0 a1 a2):=by have i0:=jo.gF k;unfold jo.f;infer_instance
theorem jo.calls (k:Nat) (a0:Int) (A1:Option Addr) (c1:Nat) (l1:List Int) (a2:Int) (r:Int) (w:World) (a6:Kd.C (Kd.int .i64) w A1 l1.length l1) (a7:l1.length≤c1) (h:jo.f k a0 l1 a2=some r):
  Calls Tryz.prog 55 #[.int .i64 a0,.slice A1 l1.length c1,.int .i64 a2] w fun e w'=>e= .returned (.int .i64 r)∧Below w.heap.size w w':=by
 have ay:=bm a6;have aB:=bm a7;clear a6 a7;have HB:=bm (Below.refl w.heap.size w);have H:=h;clear h;unfold jo.f at H;have aC:=bm H;clear H;go_enter Tryz.func55,Tryz.ntmps55;go_upto_region 1 with(fail)
 go_cut [16] (fun dz wc=>∃(kq:Nat) (aN:Bool),dz= .bool aN∧gm (jo.j0 kq a0 l1 a2 aN=some r)∧gm (kq≤k)∧gm (Below w.heap.size w wc))
 case first=>
  have H:=aC.out;clear aC;obtain⟨ba,A5,H⟩:=bE H;try dsimp only at H
  by_cases c6:ba=true
  ·subst c6;rw[if_pos rfl]at H;obtain⟨aI,A7,H⟩:=bE H;try dsimp only at H
   have H':=bm H;clear H;go_wp2_with (first|(refine gB (some 9) Tryz.func103 #[.int .i64 a0,.slice A1 l1.length c1] rfl ?_;(with_reducible refine(gY.calls k a0 _ _ l1 true _ ?_ ?_ A5.out).mono ?_);exact cY ay HB;exact aB.out;rintro e _ ⟨rfl,hb⟩;refine⟨_,rfl,?_⟩;replace HB:=bW HB hb;clear hb)|(go_at_call 106;(with_reducible refine(js.calls a0 a2 aI _ A7.out).mono ?_);rintro e w' ⟨rfl,⟨nd,rfl⟩⟩));go_meet
   case rel=>exact⟨_,(!aI),(by first|rfl|(simp;done)|(simp[*];done)),H',⟨by first|omega|exact Nat.le_refl _⟩,⟨wZ HB⟩⟩
  ·replace c6:=uZ c6;subst c6;rw[if_neg vR]at H;have H':=bm H;clear H;go_wp2_with (first|(refine gB (some 9) Tryz.func103 #[.int .i64 a0,.slice A1 l1.length c1] rfl ?_;(with_reducible refine(gY.calls k a0 _ _ l1 false _ ?_ ?_ A5.out).mono ?_);exact cY ay HB;exact aB.out;rintro e _ ⟨rfl,hb⟩;refine⟨_,rfl,?_⟩;replace HB:=bW HB hb;clear hb));go_meet
   case rel=>exact⟨_,(true),(by first|rfl|(simp;done)|(simp[*];done)),H',⟨by first|omega|exact Nat.le_refl _⟩,⟨wZ HB⟩⟩
 case rest=>
  clear aC;obtain⟨kq,aN,rfl,HA,bx,HB⟩:=hcut;cases kq with
  |zero=>exact absurd HA.out (by simp[jo.j0])
  |succ oW=>
   have H:=HA.out;clear HA;simp only[jo.j0]at H;by_cases c10:aN=true
   ·subst c10;rw[if_pos rfl]at H;obtain rfl:=vZ H;go_wp2;go_ret;exact vo HB
   ·replace c10:=uZ c10;subst c10;rw[if_neg vR]at H;obtain⟨a8,bg,H⟩:=bE H;try dsimp only at H
    obtain⟨bZ,bq,H⟩:=bE H;try dsimp only at H
    obtain rfl:=vZ H;go_wp2_with (first|(refine gB (some 20) Tryz.func105 #[.int .i64 a0] rfl ?_;(with_reducible refine(kG.calls a0 a8 _ bg.out).mono ?_);rintro e w' ⟨rfl,⟨nd,rfl⟩⟩;refine⟨_,rfl,?_⟩)|(refine gB (some 23) Tryz.func110 #[.int .i64 a0,.slice A1 l1.length c1,.int .i64 (wrap64 (a8 - a2))] rfl ?_;(with_reducible refine(iB.calls oW a0 _ _ l1 (wrap64 (a8 - a2)) bZ _ ?_ ?_ bq.out).mono ?_);exact cZ (Kd.C_below ay.out (wZ HB));exact aB.out;rintro e _ ⟨rfl,hb⟩;refine⟨_,rfl,?_⟩;replace HB:=bW HB hb;clear hb));go_ret;exact vo HB
def jO.j0:Nat→Int→List Int→Int→Bool→Option (Int)
 |0,_,_,_,_=>none
 |k+1,x0,x1,x2,x17=>if x17=true then(some (-1))else((kG.f x0).bind fun ax=>((iy.f k x1 ax).bind fun bb=>((iy.f k x1 (wrap64 (ax - x2))).bind fun bc=>((kt.f k bb bc).bind fun b0=>(some b0)))))
def jO.f (k:Nat) (a0:Int) (l1:List Int) (a2:Int):Option (Int):=(gY.f k a0 l1).bind fun bd=>(if bd=true then((js.f a0 a2).bind fun aJ=>(jO.j0 k a0 l1 a2 (!aJ)))else(jO.j0 k a0 l1 a2 true))
theorem jO.gF:∀k,(∀y0 y1 y2 y3,ku (jO.j0 k y0 y1 y2 y3) (jO.j0 (k+1) y0 y1 y2 y3))
 |0=>fun _ _ _ _=> .z (by simp only[jO.j0])
 |k+1=>by
  have i0:=jO.gF k;exact fun _ _ _ _=>by unfold jO.j0;infer_instance
instance jO.mo {k a0 a1 a2}:ku (jO.f k a0 a1 a2) (jO.f (k+1) a0 a1 a2):=by have i0:=jO.gF k;unfold jO.f;infer_instance
theorem jO.calls (k:Nat) (a0:Int) (A1:Option Addr) (c1:Nat) (l1:List Int) (a2:Int) (r:Int) (w:World) (a6:Kd.C (Kd.int .i64) w A1 l1.length l1) (a7:l1.length≤c1) (h:jO.f k a0 l1 a2=some r):
  Calls Tryz.prog 56 #[.int .i64 a0,.slice A1 l1.length c1,.int .i64 a2] w fun e w'=>e= .returned (.int .i64 r)∧Below w.heap.size w w':=by
 have ay:=bm a6;have aB:=bm a7;clear a6 a7;have HB:=bm (Below.refl w.heap.size w);have H:=h;clear h;unfold jO.f at H;have aC:=bm H;clear H;go_enter Tryz.func56,Tryz.ntmps56;go_upto_region 1 with(fail)
 go_cut [17] (fun dA wc=>∃(kq:Nat) (aO:Bool),dA= .bool aO∧gm (jO.j0 kq a0 l1 a2 aO=some r)∧gm (kq≤k)∧gm (Below w.heap.size w wc))
 case first=>
  have H:=aC.out;clear aC;obtain⟨bd,A5,H⟩:=bE H;try dsimp only at H
  by_cases c6:bd=true
  ·subst c6;rw[if_pos rfl]at H;obtain⟨aJ,A7,H⟩:=bE H;try dsimp only at H
   have H':=bm H;clear H;go_wp2_with (first|(refine gB (some 10) Tryz.func103 #[.int .i64 a0,.slice A1 l1.length c1] rfl ?_;(with_reducible refine(gY.calls k a0 _ _ l1 true _ ?_ ?_ A5.out).mono ?_);exact cY ay HB;exact aB.out;rintro e _ ⟨rfl,hb⟩;refine⟨_,rfl,?_⟩;replace HB:=bW HB hb;clear hb)|(go_at_call 106;(with_reducible refine(js.calls a0 a2 aJ _ A7.out).mono ?_);rintro e w' ⟨rfl,⟨nd,rfl⟩⟩));go_meet
   case rel=>exact⟨_,(!aJ),(by first|rfl|(simp;done)|(simp[*];done)),H',⟨by first|omega|exact Nat.le_refl _⟩,⟨wZ HB⟩⟩
  ·replace c6:=uZ c6;subst c6;rw[if_neg vR]at H;have H':=bm H;clear H;go_wp2_with (first|(refine gB (some 10) Tryz.func103 #[.int .i64 a0,.slice A1 l1.length c1] rfl ?_;(with_reducible refine(gY.calls k a0 _ _ l1 false _ ?_ ?_ A5.out).mono ?_);exact cY ay HB;exact aB.out;rintro e _ ⟨rfl,hb⟩;refine⟨_,rfl,?_⟩;replace HB:=bW HB hb;clear hb));go_meet
   case rel=>exact⟨_,(true),(by first|rfl|(simp;done)|(simp[*];done)),H',⟨by first|omega|exact Nat.le_refl _⟩,⟨wZ HB⟩⟩
 case rest=>
  clear aC;obtain⟨kq,aO,rfl,HA,bx,HB⟩:=hcut;cases kq with
  |zero=>exact absurd HA.out (by simp[jO.j0])
  |succ oW=>
   have H:=HA.out;clear HA;simp only[jO.j0]at H;by_cases c10:aO=true
   ·subst c10;rw[if_pos rfl]at H;obtain rfl:=vZ H;go_wp2;go_ret;exact vo HB
   ·replace c10:=uZ c10;subst c10;rw[if_neg vR]at H;obtain⟨ax,bg,H⟩:=bE H;try dsimp only at H
    obtain⟨bb,bq,H⟩:=bE H;try dsimp only at H
    obtain⟨bc,dB,H⟩:=bE H;try dsimp only at H
    obtain⟨b0,cj,H⟩:=bE H;try dsimp only at H
    obtain rfl:=vZ H;go_wp2_with (first|(refine gB (some 19) Tryz.func105 #[.int .i64 a0] rfl ?_;(with_reducible refine(kG.calls a0 ax _ bg.out).mono ?_);rintro e w' ⟨rfl,⟨nd,rfl⟩⟩;refine⟨_,rfl,?_⟩)|(refine gB (some 22) Tryz.func104 #[.slice A1 l1.length c1,.int .i64 ax] rfl ?_;(with_reducible refine(iy.calls oW _ _ l1 ax bb _ ?_ ?_ bq.out).mono ?_);exact cZ (Kd.C_below ay.out (wZ HB));exact aB.out;rintro e _ ⟨rfl,hb⟩;refine⟨_,rfl,?_⟩;replace HB:=bW HB hb;clear hb)|(refine gB (some 27) Tryz.func104 #[.slice A1 l1.length c1,.int .i64 (wrap64 (ax - a2))] rfl ?_;(with_reducible refine(iy.calls oW _ _ l1 (wrap64 (ax - a2)) bc _ ?_ ?_ dB.out).mono ?_);exact cY ay HB;exact aB.out;rintro e _ ⟨rfl,hb⟩;refine⟨_,rfl,?_⟩;replace HB:=bW HB hb;clear hb)|(refine gB (some 28) Tryz.func111 #[.int .i64 bb,.int .i64 bc] rfl ?_;(with_reducible refine(kt.calls oW bb bc b0 _ cj.out).mono ?_);rintro e w' ⟨rfl,⟨nd,rfl⟩⟩;refine⟨_,rfl,?_⟩));go_ret;exact vo HB
end Go.Proofs.YtihgpkohglcijaaGreatDoor.P
