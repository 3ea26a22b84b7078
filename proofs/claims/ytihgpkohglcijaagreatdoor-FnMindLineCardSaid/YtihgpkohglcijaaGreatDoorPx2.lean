import Derived.Test.YtihgpkohglcijaaGreatDoorPx0
namespace Go.Proofs.YtihgpkohglcijaaGreatDoor.P
open Go.RowKit YtihgpkohglcijaaGreatDoorW PrintWords PrintLast PrintMore
attribute [local go_sem] max2_int min2_int max_two min_two max_three min_three max_four min_four
set_option linter.unusedVariables false
set_option linter.unusedSimpArgs false
set_option maxHeartbeats 8000000
set_option maxRecDepth 100000
def fp (w0 W:World) (g:Nat) (f0:List Int) (f1:Int):Prop:=∃A0 c0,W.heap[g]?=some (.cells #[.slice A0 f0.length c0,.int .i64 f1] 99 (0,0))∧w0.heap.size≤g∧Kd.C (Kd.int .u8) w0 A0 f0.length f0
theorem fp.grown {w0 W:World} {g:Nat} {f0:List Int} {f1:Int} {W1:World} {row:Option Nat} (h:fp w0 W g f0 f1) (hw:W.grownBy W1 row) (bO:some g≠row):fp w0 W1 g f0 f1:=by
 obtain⟨A0,c0,hb,hg,ah⟩:=h;exact⟨A0,c0,blk_grown hb hw bO,hg,ah⟩
theorem fp.Ad {w0 W:World} {g:Nat} {f0:List Int} {f1:Int} {α:Type} {d:Kd α} {e:Nat} {base:Nat} {ok:Nat→Prop} {v:Value} {xs:List α} (h:fp w0 W g f0 f1) (ho:Kd.N d e W base ok v xs) (ht:e≠99):some g≠v.ownBlock:=by
 obtain⟨A0,c0,hb,hg,ah⟩:=h;exact Kd.N_ne ho hb ht
theorem fp.fresh {w0 W:World} {g:Nat} {f0:List Int} {f1:Int} (h:fp w0 W g f0 f1):∀k,W.heap.size≤k→k≠g:=by
 obtain⟨A0,c0,hb,hg,ah⟩:=h;exact Kd.freshB hb
theorem fp.kept {w0 W:World} {g:Nat} {f0:List Int} {f1:Int} {W1:World} {S:Nat→Prop} (h:fp w0 W g f0 f1) (hk:Kept W W1 S) (bO:¬S g):fp w0 W1 g f0 f1:=by
 obtain⟨A0,c0,hb,hg,ah⟩:=h;exact⟨A0,c0,blk_kept hb hk bO,hg,ah⟩
theorem fp.below {w0 W:World} {g:Nat} {f0:List Int} {f1:Int} {W1:World} (h:fp w0 W g f0 f1) (hw:Below W.heap.size W W1):fp w0 W1 g f0 f1:=h.grown (grown_of_below hw none) (by simp)
theorem fp.bX {w0 W:World} {g:Nat} {f0:List Int} {f1:Int} {W1:World} [s:yJ W W1] (h:fp w0 W g f0 f1):fp w0 W1 g f0 f1:=h.below s.b
theorem fp.alloc {w0 W:World} {g:Nat} {f0:List Int} {f1:Int} (h:fp w0 W g f0 f1) (o:Obj):fp w0 (W.alloc o) g f0 f1:=h.below (xA (Below.refl _ _) o)
theorem fp.drewN {w0 W:World} {g:Nat} {f0:List Int} {f1:Int} (h:fp w0 W g f0 f1) (m:Nat):fp w0 (W.drewN m) g f0 f1:=h
theorem fp.drew {w0 W:World} {g:Nat} {f0:List Int} {f1:Int} (h:fp w0 W g f0 f1):fp w0 W.drew g f0 f1:=h
theorem fp.at_ {w0 W:World} {g:Nat} {f0:List Int} {f1:Int} {w':World} {m:Nat} (hq:W.drewN m=w') (h:fp w0 W g f0 f1):fp w0 w' g f0 f1:=by subst hq;exact fp.drewN h m
theorem fp.apart {w0 W:World} {g:Nat} {f0:List Int} {f1:Int} {α:Type} {d:Kd α} {e:Nat} {base:Nat} {ok:Nat→Prop} {v:Value} {xs:List α} (h:fp w0 W g f0 f1) (ho:d.R e W base ok v xs) (ht:∀q,q∈e::d.E→q≠99):d.R e W base (fun k=>ok k∧k≠g) v xs:=by
 obtain⟨A0,c0,hb,hg,ah⟩:=h;exact Kd.R_types ho hb ht
theorem fp.own_ne {w0 W:World} {g:Nat} {f0:List Int} {f1:Int} {α:Type} {d:Kd α} {e:Nat} {base:Nat} {ok:Nat→Prop} {v:Value} {xs:List α} (h:fp w0 W g f0 f1) (ho:d.R e W base ok v xs) (ht:e≠99):some g≠v.ownBlock:=by
 obtain⟨A0,c0,hb,hg,ah⟩:=h;exact Kd.R_ne ho hb ht
theorem fp.nI {w0 W:World} {g:Nat} {f0:List Int} {f1:Int} {α:Type} {d:Kd α} {e:Nat} {base:Nat} {ok:Nat→Prop} {v:Value} {xs:List α} (h:fp w0 W g f0 f1) (ho:d.Q e W base ok v xs) (ht:∀q,q∈e::d.E→q≠99):d.Q e W base (fun k=>ok k∧k≠g) v xs:=by
 obtain⟨A0,c0,hb,hg,ah⟩:=h;exact Kd.Q_types ho hb ht
theorem fp.xD {w0 W:World} {g:Nat} {f0:List Int} {f1:Int} {α:Type} {d:Kd α} {e:Nat} {base:Nat} {ok:Nat→Prop} {v:Value} {xs:List α} (h:fp w0 W g f0 f1) (ho:d.Q e W base ok v xs) (ht:e≠99):some g≠v.ownBlock:=by
 obtain⟨A0,c0,hb,hg,ah⟩:=h;exact Kd.Q_ne ho hb ht
theorem fp.yU {w0 W:World} {g:Nat} {f0:List Int} {f1:Int} {α:Type} {d:Kd α} {e:Nat} {base:Nat} {ok:Nat→Prop} {v:Value} {xs:List α} (h:fp w0 W g f0 f1) (ho:d.S e W base ok v xs) (ht:∀q,q∈e::d.E→q≠99):d.S e W base (fun k=>ok k∧k≠g) v xs:=by
 obtain⟨A0,c0,hb,hg,ah⟩:=h;exact Kd.S_types ho hb ht
theorem fp.Ae {w0 W:World} {g:Nat} {f0:List Int} {f1:Int} {α:Type} {d:Kd α} {e:Nat} {base:Nat} {ok:Nat→Prop} {v:Value} {xs:List α} (h:fp w0 W g f0 f1) (ho:d.S e W base ok v xs) (ht:e≠99):some g≠v.ownBlock:=by
 obtain⟨A0,c0,hb,hg,ah⟩:=h;exact Kd.S_ne ho hb ht
theorem fp.lt {w0 W:World} {g:Nat} {f0:List Int} {f1:Int} (h:fp w0 W g f0 f1):g<W.heap.size:=by
 obtain⟨A0,c0,hb,hg,ah⟩:=h;exact yN hb
theorem fp.ge {w0 W:World} {g:Nat} {f0:List Int} {f1:Int} (h:fp w0 W g f0 f1):w0.heap.size≤g:=by
 obtain⟨A0,c0,hb,hg,ah⟩:=h;exact hg
theorem fp.wO {w0 W:World} {g:Nat} {f0:List Int} {f1:Int} {a:Nat} {cs:Array Value} {t:TypeId} {fr:Nat×Nat} (h:fp w0 W g f0 f1) (bJ:W.heap[a]?=some (.cells cs t fr)) (ht:t≠99):g≠a:=by
 obtain⟨A0,c0,hb,hg,ah⟩:=h;rintro rfl;rw[hb]at bJ;injection bJ with bJ
 injection bJ with _ ht2
 exact ht ht2.symm
theorem fp.far {w0 W:World} {g:Nat} {f0:List Int} {f1:Int} {p:Addr} (h:fp w0 W g f0 f1) (bO:g≠p.block) (u:Value):fp w0 (W.setCell p u) g f0 f1:=by
 obtain⟨A0,c0,hb,hg,ah⟩:=h;exact⟨A0,c0,zY hb bO u,hg,ah⟩
theorem qi {W:World} {g:Nat} {A0:Option Addr} {c0:Nat} {f0:List Int} {f1:Int} (h:W.heap[g]?=some (.cells #[.slice A0 f0.length c0,.int .i64 f1] 99 (0,0))):W.cell? ⟨g,0,none⟩=some (.slice A0 f0.length c0):=(ja h 0).trans rfl
theorem qj {W:World} {g:Nat} {A0:Option Addr} {c0:Nat} {f0:List Int} {f1:Int} (h:W.heap[g]?=some (.cells #[.slice A0 f0.length c0,.int .i64 f1] 99 (0,0))):W.cell? ⟨g,1,none⟩=some (.int .i64 f1):=(ja h 1).trans rfl
theorem fp.oH {w0 W:World} {g:Nat} {f0:List Int} {f1:Int} (h:fp w0 W g f0 f1) (x:Int):fp w0 (W.setCell ⟨g,1,none⟩ (.int .i64 x)) g f0 x:=by
 obtain⟨A0,c0,hb,hg,ah⟩:=h;exact⟨A0,c0,by simpa using blk_set hb 1 (.int .i64 x),hg,ah⟩
theorem fp.new (w0 W:World) (A0:Option Addr) (c0:Nat) (f0:List Int) (f1:Int) (hB:Below w0.heap.size w0 W) (ah:Kd.C (Kd.int .u8) w0 A0 f0.length f0):fp w0 (W.alloc (.cells #[.slice A0 f0.length c0,.int .i64 f1] 99)) W.heap.size f0 f1:=⟨A0,c0,by simpa using heap_alloc_new W _,hB.size,ah⟩
theorem fp.z {w0 W W':World} {g:Nat} {f0 cS:List Int} {f1 cT:Int} (h:gm (fp w0 W g f0 f1)) (s:fp w0 W g f0 f1→fp w0 W' g cS cT:=by intro h;repeat(with_reducible first|exact h|apply fp.bX|apply fp.oH|refine fp.far ?_ aX _)):fp w0 W' g cS cT:=s h.out
theorem fp.y {w0 W W':World} {g:Nat} {f0:List Int} {f1:Int} (h:gm (fp w0 W g f0 f1)) (s:fp w0 W g f0 f1→fp w0 W' g f0 f1:=by intro h;repeat(with_reducible first|exact h|apply fp.bX|refine fp.far ?_ aX _)):fp w0 W' g f0 f1:=s h.out
abbrev Bc:Array Bool:= #[false,false,false,false,false,false,false,false,false]
def nc.f (l0:List Int):Option (List Int×Int):=if(l0.length:Int)>2000 then(if 2000≤(l0.length:Int)then(some (l0.take 2000,0))else(none))else(some (l0,0))
theorem nc.calls (A0:Option Addr) (c0:Nat) (l0:List Int) (r1:List Int) (r2:Int) (w0 w:World) (hB:Below w0.heap.size w0 w) (ah:Kd.C (Kd.int .u8) w0 A0 l0.length l0) (cU:l0.length≤c0) (h:nc.f l0=some (r1,r2)):
  Calls Tryz.prog 40 #[.slice A0 l0.length c0] w fun e w'=>∃g_:Nat,e= .returned (.pointer (some ⟨g_,0,none⟩))∧fp w0 w' g_ r1 r2∧Below w0.heap.size w0 w'∧Below w.heap.size w w':=by
 have en:=Tryz.underlying99;have cV:=bm ah;have ec:=bm cU;clear ah cU;have ba:=bm (Below.refl w.heap.size w);have cW:=bm hB.size;have HB:=bm hB;clear hB;have H:=h;clear h;unfold nc.f at H;rcases iT H with⟨c2,H⟩|⟨c2,H⟩
 ·have cX:=vG c2;have da:decide (2000<l0.length)=true:=vG (by omega);clear c2;obtain⟨bB,eo,H⟩:=vK H;obtain⟨rfl,rfl⟩:=s2 H;obtain⟨eB,cu,_,cv,_⟩:=info_parts info5;obtain⟨ed,db,dc⟩:=print_take_of (P:=Tryz.prog) (Value.int .u8) 0 22 5 .i64 Tryz.underlying22 cu cv A0 c0 l0 2000 (by omega) (jK) ec.out;have cy:=bm (Kd.C_of_reads (h1:=fun _=>rfl) (db _ (Kd.reads_of_C cV.out)));have ee:=bm dc;clear db dc cu cv;go_enter Tryz.func40,Tryz.ntmps40;go_wp2_with (first|(refine mK 10 #[.slice A0 (l0.take 2000).length c0,.int .i64 0] 99 ?_;intro br hg _ aD hb;replace HB:=bW HB hb;have cz:=bm (aD);have cA:=bG ba hg;have cB:=bm ((Nat.le_trans cW.out (by rw[hg];exact(below_size (wZ ba)):w.heap.size≤br):w0.heap.size≤br));replace ba:=bm (yO ba.out hb);clear hb aD hg));go_ret;exact⟨_,rfl,(show fp w0 _ br (l0.take 2000) 0 from⟨_,_,kS cz,cB.out,cy.out⟩),wZ HB,by repeat(with_reducible first|exact ba.out|apply mU|refine la ?_ cA.out)⟩
 ·have cX:=vB c2;have da:decide (2000<l0.length)=false:=vB (by omega);clear c2;obtain⟨rfl,rfl⟩:=s2 H;go_enter Tryz.func40,Tryz.ntmps40;go_wp2_with (first|(refine mK 10 #[.slice A0 l0.length c0,.int .i64 0] 99 ?_;intro bs hg _ aD hb;replace HB:=bW HB hb;have cC:=bm (aD);have cD:=bG ba hg;have cE:=bm ((Nat.le_trans cW.out (by rw[hg];exact(below_size (wZ ba)):w.heap.size≤bs):w0.heap.size≤bs));replace ba:=bm (yO ba.out hb);clear hb aD hg));go_ret;exact⟨_,rfl,(show fp w0 _ bs l0 0 from⟨_,_,kS cC,cE.out,cV.out⟩),wZ HB,by repeat(with_reducible first|exact ba.out|apply mU|refine la ?_ cD.out)⟩
def kj.f (a0:Int) (a1:Int) (a2:Int):Option (Bool):=if a0≥a1 then(some (decide (a0≤a2)))else(some false)
theorem kj.calls (a0:Int) (a1:Int) (a2:Int) (r:Bool) (w:World) (h:kj.f a0 a1 a2=some r):
  Calls Tryz.prog 100 #[.int .i64 a0,.int .i64 a1,.int .i64 a2] w fun e w'=>e= .returned (.bool r)∧Drawn0 w w':=by
 have H:=h;clear h;unfold kj.f at H;rcases vL H with⟨bT,H⟩|⟨bT,H⟩
 ·obtain rfl:=vZ H;go_enter Tryz.func100,Tryz.ntmps100;go_wp2;go_ret;exact vn
 ·obtain rfl:=vZ H;go_enter Tryz.func100,Tryz.ntmps100;go_wp2;go_ret;exact vn
def gY.l0:Nat→Int→List Int→Int→Int→Option (Bool)
 |0,_,_,_,_=>none
 |k+1,x0,x1,x5,x6=>if x6<(x1.length:Int)then(if 0≤x6 then((kj.f (rd x1 x6) 0 9).bind fun t105=>(if t105=true then(gY.l0 k x0 x1 (mn x5 (rd x1 x6)) (wrap64 (x6+1)))else(some false)))else(none))else((kj.f x0 1 3).bind fun t107=>(if t107=true then(if 0≤x0 then(if(x1.length:Int)=(shl .i64 1 x0)then(some (x5==0))else(some false))else(none))else(some false)))
def gY.f (k:Nat) (a0:Int) (l1:List Int):Option (Bool):=gY.l0 k a0 l1 9 0
theorem gY.gF:∀k,(∀y0 y1 y2 y3,ku (gY.l0 k y0 y1 y2 y3) (gY.l0 (k+1) y0 y1 y2 y3))
 |0=>fun _ _ _ _=> .z (by simp only[gY.l0])
 |k+1=>by
  have i0:=gY.gF k;exact fun _ _ _ _=>by unfold gY.l0;infer_instance
instance gY.mo {k a0 a1}:ku (gY.f k a0 a1) (gY.f (k+1) a0 a1):=by have i0:=gY.gF k;unfold gY.f;infer_instance
theorem gY.calls (k:Nat) (a0:Int) (A1:Option Addr) (c1:Nat) (l1:List Int) (r:Bool) (w:World) (bj:Kd.C (Kd.int .i64) w A1 l1.length l1) (bk:l1.length≤c1) (h:gY.f k a0 l1=some r):
  Calls Tryz.prog 103 #[.int .i64 a0,.slice A1 l1.length c1] w fun e w'=>e= .returned (.bool r)∧Below w.heap.size w w':=by
 have ao:=bm bj;have aH:=bm bk;clear bj bk;have HB:=bm (Below.refl w.heap.size w);have H:=h;clear h;unfold gY.f at H;have H':=bm H;clear H;go_enter Tryz.func103,Tryz.ntmps103;go_wp2;go_loopg [5,6] k (fun kq v5 v6 w'=>∃(ad:Int) (j:Int),v5= .int .i64 ad∧v6= .int .i64 j∧gm (gY.l0 kq a0 l1 ad j=some r)∧gm (kq≤k)∧gm (Below w.heap.size w w'))
 case atStart=>exact⟨(9),(0),(by first|rfl|(simp;done)|(simp[*];done)),(by first|rfl|(simp;done)|(simp[*];done)),H',⟨Nat.le_refl _⟩,⟨wZ HB⟩⟩
 case round=>
  clear H';obtain⟨ad,j,rfl,rfl,HA,al,HB⟩:=hrel;cases gk with
  |zero=>exact absurd HA.out (by simp[gY.l0])
  |succ k1=>
   have H:=HA.out;clear HA;simp only[gY.l0]at H;rcases vL H with⟨bB,H⟩|⟨bB,H⟩
   ·obtain⟨bT,H⟩:=vJ H;obtain⟨t105,A5,H⟩:=bE H;try dsimp only at H
    by_cases c6:t105=true
    ·subst c6;rw[if_pos rfl]at H;obtain⟨dd,bl⟩:∃j_:Int,(mn ad (rd l1 j))=j_:=⟨_,rfl⟩;first|rw[bl]at H|simp only[bl]at H
     (try rw[bl]at A5);have ef:(if(rd l1 j)<ad then(rd l1 j)else ad)=dd:=bl;have H':=bm H;clear H;have aJ:0≤(j:Int):=jK;have aK:j<(l1.length:Int):=jK;obtain⟨bV,bZ,ai⟩:=Kd.at_int ao.out j aJ aK;cases bZ;replace ai:=vA HB ai;replace aJ:=vI aJ;replace aK:=vI aK;go_wp2_with (first|(refine gB (some 17) Tryz.func100 #[.int .i64 (rd l1 j),.int .i64 0,.int .i64 9] rfl ?_;(with_reducible refine(kj.calls (rd l1 j) 0 9 true _ A5.out).mono ?_);rintro e w' ⟨rfl,⟨nd,rfl⟩⟩;refine⟨_,rfl,?_⟩;have b0:0≤(j:Int):=jK;have b1:j<(l1.length:Int):=jK;obtain⟨cF,de,aM⟩:=Kd.at_int ao.out j b0 b1;obtain rfl:bV=cF:=(by injection de);replace aM:=vA HB aM;replace b0:=vI b0;replace b1:=vI b1));go_roundg k1
     case measure=>have:=al.out;omega
     case rel=>exact⟨(dd),(wrap64 (j+1)),(by first|rfl|(simp;done)|(simp only[←bl]<;>(first|rfl|simp))|(simp[*];done)),(by first|rfl|(simp;done)|(simp[*];done)),H',⟨by have:=al.out;omega⟩,⟨wZ HB⟩⟩
    ·replace c6:=uZ c6;subst c6;rw[if_neg vR]at H;obtain rfl:=vZ H;have aJ:0≤(j:Int):=jK;have aK:j<(l1.length:Int):=jK;obtain⟨bV,bZ,ai⟩:=Kd.at_int ao.out j aJ aK;cases bZ;replace ai:=vA HB ai;replace aJ:=vI aJ;replace aK:=vI aK;go_wp2_with (first|(refine gB (some 17) Tryz.func100 #[.int .i64 (rd l1 j),.int .i64 0,.int .i64 9] rfl ?_;(with_reducible refine(kj.calls (rd l1 j) 0 9 false _ A5.out).mono ?_);rintro e w' ⟨rfl,⟨nd,rfl⟩⟩;refine⟨_,rfl,?_⟩));go_ret;exact vo HB
   ·obtain⟨t107,A8,H⟩:=bE H;try dsimp only at H
    by_cases c9:t107=true
    ·subst c9;rw[if_pos rfl]at H;obtain⟨b4,eg,H⟩:=vK H;obtain⟨aw,ax⟩:∃j_:Int,(shl .i64 1 a0)=j_:=⟨_,rfl⟩;first|rw[ax]at H|simp only[ax]at H
     (try rw[ax]at A8);have bD:(IntKind.i64.wrap (1*2^min a0.toNat 64))=aw:=ax;have bF:a0≤64→(IntKind.i64.wrap (1*2^a0.toNat))=aw:=shl_small ax;have dS:(IntKind.i64.wrap (2^min a0.toNat 64))=aw:=by have h_:=bD;rw[Int.one_mul]at h_;exact h_
     have dT:a0≤64→(IntKind.i64.wrap (2^a0.toNat))=aw:=fun df=>by have h_:=bF df;rw[Int.one_mul]at h_;exact h_
     have dU:(wrap64 (1*2^min a0.toNat 64))=aw:=(i64_w _).symm.trans bD;have dV:a0≤64→(wrap64 (1*2^a0.toNat))=aw:=fun h_=>(i64_w _).symm.trans (bF h_)
     rcases iT H with⟨aI,H⟩|⟨aI,H⟩
     ·obtain⟨bu,cG⟩:=vl aI;clear aI;obtain rfl:=vZ H;go_wp2_with (first|(refine gB (some 26) Tryz.func100 #[.int .i64 a0,.int .i64 1,.int .i64 3] rfl ?_;(with_reducible refine(kj.calls a0 1 3 true _ A8.out).mono ?_);rintro e w' ⟨rfl,⟨nd,rfl⟩⟩;refine⟨_,rfl,?_⟩));go_ret;exact⟨by first|rfl|(simp[fM,fN]<;>rfl)|(simp only[←ax];first|rfl|(simp[fM,fN]<;>rfl))|(simp[*,fM,fN]<;>rfl),wZ HB⟩
     ·obtain⟨bu,cG⟩:=vk aI;obtain rfl:=vZ H;go_wp2_with (first|(refine gB (some 26) Tryz.func100 #[.int .i64 a0,.int .i64 1,.int .i64 3] rfl ?_;(with_reducible refine(kj.calls a0 1 3 true _ A8.out).mono ?_);rintro e w' ⟨rfl,⟨nd,rfl⟩⟩;refine⟨_,rfl,?_⟩));go_ret;exact⟨by first|rfl|(simp[fM,fN]<;>rfl)|(simp only[←ax];first|rfl|(simp[fM,fN]<;>rfl))|(simp[*,fM,fN]<;>rfl),wZ HB⟩
    ·replace c9:=uZ c9;subst c9;rw[if_neg vR]at H;obtain rfl:=vZ H;go_wp2_with (first|(refine gB (some 26) Tryz.func100 #[.int .i64 a0,.int .i64 1,.int .i64 3] rfl ?_;(with_reducible refine(kj.calls a0 1 3 false _ A8.out).mono ?_);rintro e w' ⟨rfl,⟨nd,rfl⟩⟩;refine⟨_,rfl,?_⟩));go_ret;exact vo HB
mutual
def gi.l0:Nat→Int→List Int→List Int→Int→Option (List Int)
 |0,_,_,_,_=>none
 |k+1,x0,x1,x5,x6=>if x6<(x1.length:Int)then((gY.f k x0 x1).bind fun t111=>(gi.j1 k x0 x1 x5 x6 t111))else(gi.j1 k x0 x1 x5 x6 false)
def gi.j1:Nat→Int→List Int→List Int→Int→Bool→Option (List Int)
 |0,_,_,_,_,_=>none
 |k+1,x0,x1,x5,x6,x20=>if x20=true then(gi.l1 k x0 x1 x5 x6 0 0)else(some x5)
def gi.l1:Nat→Int→List Int→List Int→Int→Int→Int→Option (List Int)
 |0,_,_,_,_,_,_=>none
 |k+1,x0,x1,x5,x6,x7,x8=>if 0≤x6 then(if x6<(x1.length:Int)then(if x8<(rd x1 x6)then(gi.l2 k x0 x1 x5 x6 x7 x8 false 0)else(if x5.length<17592186044416 then(gi.l0 k x0 x1 (x5++ [x7]) (wrap64 (x6+1)))else(none)))else(none))else(none)
def gi.l2:Nat→Int→List Int→List Int→Int→Int→Int→Bool→Int→Option (List Int)
 |0,_,_,_,_,_,_,_,_=>none
 |k+1,x0,x1,x5,x6,x7,x8,x9,x10=>if x10<(x1.length:Int)then(if x9=true then(gi.l2 k x0 x1 x5 x6 x7 x8 true (wrap64 (x10+1)))else(if 0≤x10 then(gi.l2 k x0 x1 x5 x6 x7 x8 ((rd x1 x10)==x8) (wrap64 (x10+1)))else(none)))else(if x9=true then(gi.l1 k x0 x1 x5 x6 (wrap64 (x7+1)) (wrap64 (x8+1)))else(gi.l1 k x0 x1 x5 x6 x7 (wrap64 (x8+1))))
end
def gi.f (k:Nat) (a0:Int) (l1:List Int):Option (List Int):=gi.l0 k a0 l1 (([]:List Int)) 0
theorem gi.gF:∀k,(∀y0 y1 y2 y3,ku (gi.l0 k y0 y1 y2 y3) (gi.l0 (k+1) y0 y1 y2 y3))∧(∀y0 y1 y2 y3 y4,ku (gi.j1 k y0 y1 y2 y3 y4) (gi.j1 (k+1) y0 y1 y2 y3 y4))∧(∀y0 y1 y2 y3 y4 y5,ku (gi.l1 k y0 y1 y2 y3 y4 y5) (gi.l1 (k+1) y0 y1 y2 y3 y4 y5))∧(∀y0 y1 y2 y3 y4 y5 y6 y7,ku (gi.l2 k y0 y1 y2 y3 y4 y5 y6 y7) (gi.l2 (k+1) y0 y1 y2 y3 y4 y5 y6 y7))
 |0=>⟨fun _ _ _ _=> .z (by simp only[gi.l0]),fun _ _ _ _ _=> .z (by simp only[gi.j1]),fun _ _ _ _ _ _=> .z (by simp only[gi.l1]),fun _ _ _ _ _ _ _ _=> .z (by simp only[gi.l2])⟩
 |k+1=>by
  have⟨i0,i1,i2,i3⟩:=gi.gF k;exact⟨fun _ _ _ _=>by unfold gi.l0;infer_instance,fun _ _ _ _ _=>by unfold gi.j1;infer_instance,fun _ _ _ _ _ _=>by unfold gi.l1;infer_instance,fun _ _ _ _ _ _ _ _=>by unfold gi.l2;infer_instance⟩
instance gi.mo {k a0 a1}:ku (gi.f k a0 a1) (gi.f (k+1) a0 a1):=by have⟨i0,i1,i2,i3⟩:=gi.gF k;unfold gi.f;infer_instance
theorem gi.calls (k:Nat) (a0:Int) (A1:Option Addr) (c1:Nat) (l1:List Int) (r:List Int) (w:World) (bj:Kd.C (Kd.int .i64) w A1 l1.length l1) (bk:l1.length≤c1) (h:gi.f k a0 l1=some r):
  Calls Tryz.prog 114 #[.int .i64 a0,.slice A1 l1.length c1] w fun e w'=>∃dh:Value,e= .returned (dh)∧Kd.R (Kd.int .i64) 3 w' w.heap.size (fun _=>True) dh r∧Below w.heap.size w w':=by
 have ao:=bm bj;have aH:=bm bk;clear bj bk;have HB:=bm (Below.refl w.heap.size w);have H:=h;clear h;unfold gi.f at H;obtain⟨cw,bw⟩:∃y_:List Int,y_=(([]:List Int)):=⟨_,rfl⟩;replace H:(gi.l0 k a0 l1 cw 0)=some r:=by first|(rw[bw];exact H)|exact H
 have b5:=bm bw;clear bw;have H':=bm H;clear H;go_enter Tryz.func114,Tryz.ntmps114;go_wp2_with (first|((with_reducible refine gate_dst (N:=11) rfl ?_);refine Kd.R_lit (Kd.int .i64) _ 3 ?hg (N:=11) ?hd (xs:=([]:List Int)) (inner:=[]) (ok:=fun _=>True) (okp:=fun _=>True) ?hr ?hp (fun _ hk=>hk) trivial (Below.refl _ _) (Nat.le_refl _) (by simp) ?_;(case hd=>rfl);(case hg=>rfl);(case hr=>first|(go_simp;done)|(go_simp;rfl));(case hp=>exact(Reps.none _ _));intro _ _ b6 hb eh cH;clear eh cH;(first|rw[←b5.out]at b6|(simp only[Int.reduceToNat]at b6;rw[←b5.out]at b6));have cI:=vm b6 HB;replace HB:=bW HB hb;clear hb b6));go_loopg [5,6] k (fun kq v5 v6 w'=>∃(ad:List Int) (j:Int),v6= .int .i64 j∧gm (gi.l0 kq a0 l1 ad j=some r)∧gm (kq≤k)∧gm (Kd.R (Kd.int .i64) 3 w' w.heap.size (fun _=>True) v5 ad)∧gm (Below w.heap.size w w'))
 case atStart=>exact⟨(cw),(0),(by first|rfl|(simp;done)|(simp[*];done)),H',⟨Nat.le_refl _⟩,⟨by(repeat apply Kd.RS);exact cI.out⟩,⟨wZ HB⟩⟩
 case round=>
  clear H';obtain⟨ad,j,rfl,HA,al,lp,HB⟩:=hrel;cases gk with
  |zero=>exact absurd HA.out (by simp[gi.l0])
  |succ k1=>
   have H:=HA.out;clear HA;simp only[gi.l0]at H;have cJ:=bm H;clear H;go_upto_region 3 with(fail)
   go_cut [20] (fun v20 wc=>∃(kq:Nat) (bf:Bool),v20= .bool bf∧gm (gi.j1 kq a0 l1 ad j bf=some r)∧gm (kq≤k1)∧gm (Kd.R (Kd.int .i64) 3 wc w.heap.size (fun _=>True) u5 ad)∧gm (Below w.heap.size w wc))
   case first=>
    have H:=cJ.out;clear cJ;rcases vL H with⟨bn,H⟩|⟨bn,H⟩
    ·(first|rw[bn]|(simp only[i64_w,i32_w];rw[bn])|skip);obtain⟨t111,A7,H⟩:=bE H;try dsimp only at H
     have H':=bm H;clear H;go_wp2_with (first|(go_at_call 103;(with_reducible refine(gY.calls k1 a0 _ _ l1 t111 _ ?_ ?_ A7.out).mono ?_);exact cY ao HB;exact aH.out;rintro e _ ⟨rfl,hb⟩;replace lp:=bR lp hb;replace HB:=bW HB hb;clear hb));go_meet
     case rel=>exact⟨_,(t111),(by first|rfl|(simp;done)|(simp[*];done)),H',⟨by have:=al.out;first|omega|exact Nat.le_refl _⟩,⟨by(repeat apply Kd.RS);exact lp.out⟩,⟨wZ HB⟩⟩
    ·(first|rw[bn]|(simp only[i64_w,i32_w];rw[bn])|skip);have H':=bm H;clear H;go_wp2;go_meet
     case rel=>exact⟨_,(false),(by first|rfl|(simp;done)|(simp[*];done)),H',⟨by have:=al.out;first|omega|exact Nat.le_refl _⟩,⟨by(repeat apply Kd.RS);exact lp.out⟩,⟨wZ HB⟩⟩
   case rest=>
    clear cJ;obtain⟨kq,bf,rfl,HA,bb,lp,HB⟩:=hcut;cases kq with
    |zero=>exact absurd HA.out (by simp[gi.j1])
    |succ sl=>
     have H:=HA.out;clear HA;simp only[gi.j1]at H;by_cases c9:bf=true
     ·subst c9;rw[if_pos rfl]at H;have H':=bm H;clear H;go_wp2;go_loopg [7,8] sl (fun kq v7 v8 w'=>∃(az:Int) (aN:Int),v7= .int .i64 az∧v8= .int .i64 aN∧gm (gi.l1 kq a0 l1 ad j az aN=some r)∧gm (kq≤sl)∧gm (Kd.R (Kd.int .i64) 3 w' w.heap.size (fun _=>True) u5 ad)∧gm (Below w.heap.size w w'))
      case atStart=>exact⟨(0),(0),(by first|rfl|(simp;done)|(simp[*];done)),(by first|rfl|(simp;done)|(simp[*];done)),H',⟨Nat.le_refl _⟩,⟨by(repeat apply Kd.RS);exact lp.out⟩,⟨wZ HB⟩⟩
      case round=>
       clear H';obtain⟨az,aN,rfl,rfl,HA,bc,lp,HB⟩:=hrel;cases gk with
       |zero=>exact absurd HA.out (by simp[gi.l1])
       |succ k3=>
        have H:=HA.out;clear HA;simp only[gi.l1]at H;obtain⟨b4,H⟩:=vJ H;obtain⟨b7,H⟩:=vJ H;rcases vL H with⟨bu,H⟩|⟨bu,H⟩
        ·have H':=bm H;clear H;have aQ:0≤(j:Int):=jK;have aR:j<(l1.length:Int):=jK;obtain⟨b8,b9,aj⟩:=Kd.at_int ao.out j aQ aR;cases b9;replace aj:=vA HB aj;replace aQ:=vI aQ;replace aR:=vI aR;go_wp2;go_loopg [9,10] k3 (fun kq v9 v10 w'=>∃(bo:Bool) (aq:Int),v9= .bool bo∧v10= .int .i64 aq∧gm (gi.l2 kq a0 l1 ad j az aN bo aq=some r)∧gm (kq≤k3)∧gm (Kd.R (Kd.int .i64) 3 w' w.heap.size (fun _=>True) u5 ad)∧gm (Below w.heap.size w w'))
         case atStart=>exact⟨(false),(0),(by first|rfl|(simp;done)|(simp[*];done)),(by first|rfl|(simp;done)|(simp[*];done)),H',⟨Nat.le_refl _⟩,⟨by(repeat apply Kd.RS);exact lp.out⟩,⟨wZ HB⟩⟩
         case round=>
          clear H';obtain⟨bo,aq,rfl,rfl,HA,bp,lp,HB⟩:=hrel;cases gk with
          |zero=>exact absurd HA.out (by simp[gi.l2])
          |succ k4=>
           have H:=HA.out;clear HA;simp only[gi.l2]at H;rcases vL H with⟨cK,H⟩|⟨cK,H⟩
           ·by_cases bh:bo=true
            ·subst bh;rw[if_pos rfl]at H;have H':=bm H;clear H;go_wp2;go_roundg k4
             case measure=>have:=al.out;have:=bb.out;have:=bc.out;have:=bp.out;omega
             case rel=>exact⟨(true),(wrap64 (aq+1)),(by first|rfl|(simp;done)|(simp[*];done)),(by first|rfl|(simp;done)|(simp[*];done)),H',⟨by have:=al.out;have:=bb.out;have:=bc.out;have:=bp.out;omega⟩,⟨by(repeat apply Kd.RS);exact lp.out⟩,⟨wZ HB⟩⟩
            ·replace bh:=uZ bh;subst bh;rw[if_neg vR]at H;obtain⟨ei,H⟩:=vJ H;have H':=bm H;clear H;have cb:0≤(aq:Int):=jK;have cc:aq<(l1.length:Int):=jK;obtain⟨cL,dj,aT⟩:=Kd.at_int ao.out aq cb cc;obtain rfl:b8=cL:=(by injection dj);replace aT:=vA HB aT;replace cb:=vI cb;replace cc:=vI cc;go_wp2;go_roundg k4
             case measure=>have:=al.out;have:=bb.out;have:=bc.out;have:=bp.out;omega
             case rel=>exact⟨(((rd l1 aq)==aN)),(wrap64 (aq+1)),(by first|rfl|(simp;done)|(simp[*];done)),(by first|rfl|(simp;done)|(simp[*];done)),H',⟨by have:=al.out;have:=bb.out;have:=bc.out;have:=bp.out;omega⟩,⟨by(repeat apply Kd.RS);exact lp.out⟩,⟨wZ HB⟩⟩
           ·by_cases ct:bo=true
            ·subst ct;rw[if_pos rfl]at H;have H':=bm H;clear H;go_wp2;go_roundg k4
             case measure=>have:=al.out;have:=bb.out;have:=bc.out;have:=bp.out;omega
             case rel=>exact⟨(wrap64 (az+1)),(wrap64 (aN+1)),(by first|rfl|(simp;done)|(simp[*];done)),(by first|rfl|(simp;done)|(simp[*];done)),H',⟨by have:=al.out;have:=bb.out;have:=bc.out;have:=bp.out;omega⟩,⟨by(repeat apply Kd.RS);exact lp.out⟩,⟨wZ HB⟩⟩
            ·replace ct:=uZ ct;subst ct;rw[if_neg vR]at H;have H':=bm H;clear H;go_wp2;go_roundg k4
             case measure=>have:=al.out;have:=bb.out;have:=bc.out;have:=bp.out;omega
             case rel=>exact⟨(az),(wrap64 (aN+1)),(by first|rfl|(simp;done)|(simp[*];done)),(by first|rfl|(simp;done)|(simp[*];done)),H',⟨by have:=al.out;have:=bb.out;have:=bc.out;have:=bp.out;omega⟩,⟨by(repeat apply Kd.RS);exact lp.out⟩,⟨wZ HB⟩⟩
        ·obtain⟨dk,H⟩:=iN H;have cM:=bm dk;clear dk;obtain⟨cx,bx⟩:∃y_:List Int,y_=(ad++ [az]):=⟨_,rfl⟩;rw[←bx]at H
         have cN:=bm bx;clear bx;have H':=bm H;clear H;have aQ:0≤(j:Int):=jK;have aR:j<(l1.length:Int):=jK;obtain⟨b8,b9,aj⟩:=Kd.at_int ao.out j aQ aR;cases b9;replace aj:=vA HB aj;replace aQ:=vI aQ;replace aR:=vI aR;go_wp2_with (first|((with_reducible refine gate_builtin (b:=.append) (xs:= #[.tmp 49,.tmp 51]) rfl ?_);at_builtin;refine Kd.R_append (Kd.int .i64) (w0:=w) w.heap.size rfl (.tmp 49) (.tmp 51) 23 3 (.int .i64 0) 8 rfl Tryz.underlying23 info3 rfl (by decide) (by omega) u5 ad az [.int .i64 az] (fun _=>True) (fun _=>False) rfl rfl ?aP (fun _ hk=>hk.elim) ?aF ?aO ?aB ?aS ?aL ?_;(case aP=>exact rfl);(case aB=>exact(wZ HB));(case aF=>exact(fun _ _=>trivial));(case aO=>exact(rS lp));(case aS=>exact(below_size (wZ HB)));(case aL=>have:=cM.out;omega);intro _ _ ho hb hg ej;rw[←cN.out]at ho;replace HB:=bm (hb);have cO:=bm (ho);clear lp;clear ho hb hg ej));go_roundg k3
         case measure=>have:=al.out;have:=bb.out;have:=bc.out;omega
         case rel=>exact⟨(cx),(wrap64 (j+1)),(by first|rfl|(simp;done)|(simp[*];done)),H',⟨by have:=al.out;have:=bb.out;have:=bc.out;omega⟩,⟨by(repeat apply Kd.RS);exact cO.out⟩,⟨wZ HB⟩⟩
     ·replace c9:=uZ c9;subst c9;rw[if_neg vR]at H;obtain rfl:=vZ H;go_wp2;go_ret;exact⟨_,by first|rfl|(simp[*,fM,fN]<;>rfl),by(repeat apply Kd.RS);exact lp.out,wZ HB⟩
def jy.l0:Nat→List Int→List Int→Int→Option (Bool)
 |0,_,_,_=>none
 |k+1,x1,x5,x6=>if x6<(x5.length:Int)then(if 0≤x6 then(if x6<(x1.length:Int)then(if(rd x5 x6)=(rd x1 x6)then(jy.l0 k x1 x5 (wrap64 (x6+1)))else(some false))else(none))else(none))else(some true)
def jy.f (k:Nat) (a0:Int) (l1:List Int):Option (Bool):=(gY.f k a0 l1).bind fun t117=>(if t117=true then((gi.f k a0 l1).bind fun t118=>(jy.l0 k l1 t118 0))else(some false))
theorem jy.gF:∀k,(∀y0 y1 y2,ku (jy.l0 k y0 y1 y2) (jy.l0 (k+1) y0 y1 y2))
 |0=>fun _ _ _=> .z (by simp only[jy.l0])
 |k+1=>by
  have i0:=jy.gF k;exact fun _ _ _=>by unfold jy.l0;infer_instance
instance jy.mo {k a0 a1}:ku (jy.f k a0 a1) (jy.f (k+1) a0 a1):=by have i0:=jy.gF k;unfold jy.f;infer_instance
theorem jy.calls (k:Nat) (a0:Int) (A1:Option Addr) (c1:Nat) (l1:List Int) (r:Bool) (w:World) (bj:Kd.C (Kd.int .i64) w A1 l1.length l1) (bk:l1.length≤c1) (h:jy.f k a0 l1=some r):
  Calls Tryz.prog 62 #[.int .i64 a0,.slice A1 l1.length c1] w fun e w'=>e= .returned (.bool r)∧Below w.heap.size w w':=by
 have ao:=bm bj;have aH:=bm bk;clear bj bk;have HB:=bm (Below.refl w.heap.size w);have H:=h;clear h;unfold jy.f at H;obtain⟨t117,A3,H⟩:=bE H;try dsimp only at H
 by_cases c4:t117=true
 ·subst c4;rw[if_pos rfl]at H;obtain⟨t118,A5,H⟩:=bE H;try dsimp only at H
  have H':=bm H;clear H;go_enter Tryz.func62,Tryz.ntmps62;go_wp2_with (first|(go_at_call 103;(with_reducible refine(gY.calls k a0 _ _ l1 true _ ?_ ?_ A3.out).mono ?_);exact cZ ao.out;exact aH.out;rintro e _ ⟨rfl,hb⟩;replace HB:=bW HB hb;clear hb)|(go_at_call 114;(with_reducible refine(gi.calls k a0 _ _ l1 t118 _ ?_ ?_ A5.out).mono ?_);exact cY ao HB;exact aH.out;rintro e _ ⟨cd,rfl,bq,hb⟩;have bz:=vm bq HB;replace HB:=bW HB hb;clear hb;(try clear bq)));repeat(go_quiet (first|(go_at_call 103;(with_reducible refine(gY.calls k a0 _ _ l1 true _ ?_ ?_ A3.out).mono ?_);exact cZ ao.out;exact aH.out;rintro e _ ⟨rfl,hb⟩;replace HB:=bW HB hb;clear hb)|(go_at_call 114;(with_reducible refine(gi.calls k a0 _ _ l1 t118 _ ?_ ?_ A5.out).mono ?_);exact cY ao HB;exact aH.out;rintro e _ ⟨cd,rfl,bq,hb⟩;have bz:=vm bq HB;replace HB:=bW HB hb;clear hb;(try clear bq)));try go_wp2_with (first|(go_at_call 103;(with_reducible refine(gY.calls k a0 _ _ l1 true _ ?_ ?_ A3.out).mono ?_);exact cZ ao.out;exact aH.out;rintro e _ ⟨rfl,hb⟩;replace HB:=bW HB hb;clear hb)|(go_at_call 114;(with_reducible refine(gi.calls k a0 _ _ l1 t118 _ ?_ ?_ A5.out).mono ?_);exact cY ao HB;exact aH.out;rintro e _ ⟨cd,rfl,bq,hb⟩;have bz:=vm bq HB;replace HB:=bW HB hb;clear hb;(try clear bq))))
  go_loopg [6] k (fun kq v6 w'=>∃(j:Int),v6= .int .i64 j∧gm (jy.l0 kq l1 t118 j=some r)∧gm (kq≤k)∧gm (Kd.R (Kd.int .i64) 3 w' w.heap.size (fun _=>True) cd t118)∧gm (Below w.heap.size w w'))
  case atStart=>exact⟨(0),(by first|rfl|(simp;done)|(simp[*];done)),H',⟨Nat.le_refl _⟩,⟨by(repeat apply Kd.RS);exact bz.out⟩,⟨wZ HB⟩⟩
  case round=>
   clear H';obtain⟨j,rfl,HA,al,lp,HB⟩:=hrel;cases gk with
   |zero=>exact absurd HA.out (by simp[jy.l0])
   |succ k1=>
    have H:=HA.out;clear HA;simp only[jy.l0]at H;rcases vL H with⟨dm,H⟩|⟨dm,H⟩
    ·obtain⟨er,H⟩:=vJ H;obtain⟨b4,H⟩:=vJ H;rcases iT H with⟨bg,H⟩|⟨bg,H⟩
     ·obtain⟨b7,cP⟩:=vl bg;clear bg;have H':=bm H;clear H;obtain⟨et,eu,dn⟩:=Kd.R_slice lp.out;subst dn;have aU:0≤(j:Int):=jK;have aV:j<(t118.length:Int):=jK;obtain⟨cQ,cf,cg⟩:=Kd.at_int (Kd.R_reads' lp.out).2.2 j aU aV;cases cf;replace aU:=vI aU;replace aV:=vI aV;have aW:0≤(j:Int):=jK;have aY:j<(l1.length:Int):=jK;obtain⟨cR,ch,ak⟩:=Kd.at_int ao.out j aW aY;cases ch;replace ak:=vA HB ak;replace aW:=vI aW;replace aY:=vI aY;go_wp2;repeat(go_quiet (fail);try go_wp2)
      go_roundg k1
      case measure=>have:=al.out;omega
      case rel=>exact⟨(wrap64 (j+1)),(by first|rfl|(simp;done)|(simp[*];done)),H',⟨by have:=al.out;omega⟩,⟨by(repeat apply Kd.RS);exact lp.out⟩,⟨wZ HB⟩⟩
     ·obtain⟨b7,cP⟩:=vk bg;obtain rfl:=vZ H;obtain⟨ev,ew,dp⟩:=Kd.R_slice lp.out;subst dp;have aU:0≤(j:Int):=jK;have aV:j<(t118.length:Int):=jK;obtain⟨cQ,cf,cg⟩:=Kd.at_int (Kd.R_reads' lp.out).2.2 j aU aV;cases cf;replace aU:=vI aU;replace aV:=vI aV;have aW:0≤(j:Int):=jK;have aY:j<(l1.length:Int):=jK;obtain⟨cR,ch,ak⟩:=Kd.at_int ao.out j aW aY;cases ch;replace ak:=vA HB ak;replace aW:=vI aW;replace aY:=vI aY;go_wp2;repeat(go_quiet (fail);try go_wp2)
      go_ret;exact vo HB
    ·obtain rfl:=vZ H;obtain⟨ey,ez,dq⟩:=Kd.R_slice lp.out;subst dq;go_wp2;repeat(go_quiet (fail);try go_wp2)
     go_ret;exact vo HB
 ·replace c4:=uZ c4;subst c4;rw[if_neg vR]at H;obtain rfl:=vZ H;go_enter Tryz.func62,Tryz.ntmps62;go_wp2_with (first|(go_at_call 103;(with_reducible refine(gY.calls k a0 _ _ l1 false _ ?_ ?_ A3.out).mono ?_);exact cZ ao.out;exact aH.out;rintro e _ ⟨rfl,hb⟩;replace HB:=bW HB hb;clear hb));repeat(go_quiet (first|(go_at_call 103;(with_reducible refine(gY.calls k a0 _ _ l1 false _ ?_ ?_ A3.out).mono ?_);exact cZ ao.out;exact aH.out;rintro e _ ⟨rfl,hb⟩;replace HB:=bW HB hb;clear hb));try go_wp2_with (first|(go_at_call 103;(with_reducible refine(gY.calls k a0 _ _ l1 false _ ?_ ?_ A3.out).mono ?_);exact cZ ao.out;exact aH.out;rintro e _ ⟨rfl,hb⟩;replace HB:=bW HB hb;clear hb)))
  go_ret;exact vo HB
def hX.l0:Nat→Int→Int→List Int→List (List Int)→Option (Bool)
 |0,_,_,_,_=>none
 |k+1,x3,uD,xE,sn=>if x3<(sn.length:Int)then(if 0≤x3 then((jy.f k uD (kT sn x3)).bind fun t125=>(if t125=true then(hX.l0 k (wrap64 (x3+1)) uD xE sn)else(some false)))else(none))else((jy.f k uD xE).bind fun t126=>(if t126=true then(some (decide ((sn.length:Int)≤10)))else(some false)))
def hX.f (k:Nat) (ae:Int) (ag:List Int) (aa:List (List Int)):Option (Bool):=hX.l0 k 0 ae ag aa
theorem hX.gF:∀k,(∀y0 y1 y2 y3,ku (hX.l0 k y0 y1 y2 y3) (hX.l0 (k+1) y0 y1 y2 y3))
 |0=>fun _ _ _ _=> .z (by simp only[hX.l0])
 |k+1=>by
  have i0:=hX.gF k;exact fun _ _ _ _=>by unfold hX.l0;infer_instance
instance hX.mo {k a0 a1 a2}:ku (hX.f k a0 a1 a2) (hX.f (k+1) a0 a1 a2):=by have i0:=hX.gF k;unfold hX.f;infer_instance
def hX.T4:Bool×List (List Nat×List Nat):=(true,[([],[]),([0],[0]),([],[]),([2],[2]),([],[]),([3,4],[3,4]),([5],[5]),([1,6],[1,6]),([7],[7])])
def hX.B4:List Nat:=[0,1,0,4,0,28,60,127,255]
theorem hX.CT:rtab .any (opsOf Tryz.f12 4)=hX.T4:=by kernel_rfl
theorem hX.Bd:waitsOk hX.T4.2 hX.B4=true:=by kernel_rfl
theorem hX.calls (k:Nat) (ae:Int) (aE:Option Addr) (aG:Nat) (ag:List Int) (bH:Option Addr) (bd:Nat) (aa:List (List Int)) (r:Bool) (w:World) (cj:Kd.C (Kd.int .i64) w aE ag.length ag) (ck:ag.length≤aG) (cl:Kd.C (Kd.slice 3 (Kd.int .i64)) w bH aa.length aa) (cm:aa.length≤bd) (h:hX.f k ae ag aa=some r):
  Calls Tryz.prog 12 #[.agg #[.int .i64 ae,.slice aE ag.length aG,.slice bH aa.length bd]] w fun e w'=>e= .returned (.bool r)∧Below w.heap.size w w':=by
 have eA:=Tryz.underlying26;have cn:=bm cj;have cp:=bm ck;clear cj ck;have cq:=bm cl;have ek:=bm cm;clear cl cm;have HB:=bm (Below.refl w.heap.size w);have H:=h;clear h;unfold hX.f at H;have H':=bm H;clear H;go_enter Tryz.func12,Tryz.ntmps12;go_wp2_with (first|((with_reducible refine gate_dst (N:=1) rfl ?_);(try(refine gate_guard (by rfl) ?_;dsimp only));refine mK 1 #[.int .i64 ae,.slice aE ag.length aG,.slice bH aa.length bd] 26 ?_;intro ay hg _ aD hb;have I:=bm (aD);have el:=bG HB hg;replace HB:=bW HB hb;clear hb aD hg));go_loopg [3] k (fun kq v3 w'=>∃(af:Int),v3= .int .i64 af∧gm (hX.l0 kq af ae ag aa=some r)∧gm (kq≤k)∧gm (w'.heap[ay]?=some (.cells #[.int .i64 ae,(.slice aE ag.length aG),(.slice bH aa.length bd)] 26 (0,0)))∧gm (Below w.heap.size w w'))
 case atStart=>exact⟨(0),(by first|rfl|(simp;done)|(simp[*];done)),H',⟨Nat.le_refl _⟩,⟨kS I⟩,⟨wZ HB⟩⟩
 case round=>
  clear H';obtain⟨af,rfl,HA,al,I,HB⟩:=hrel;cases gk with
  |zero=>exact absurd HA.out (by simp[hX.l0])
  |succ k1=>
   have H:=HA.out;clear HA;simp only[hX.l0]at H;rcases vL H with⟨bB,H⟩|⟨bB,H⟩
   ·obtain⟨bT,H⟩:=vJ H;obtain⟨t125,A5,H⟩:=bE H;try dsimp only at H
    by_cases c6:t125=true
    ·subst c6;rw[if_pos rfl]at H;have H':=bm H;clear H;obtain⟨_,_,_,_,_,_⟩:=b3 I;try go_wp2
     replace I:=vC I;replace HB:=vH HB;have aZ:0≤(af:Int):=jK;have a6:af<(aa.length:Int):=jK;obtain⟨a7,aA,aC,cr,J,ar,au⟩:=rp cq.out af aZ a6;have ab:=J;cases cr;replace J:=vA HB J;have av:=bm au;have a8:=bm ar;clear au ar;replace aZ:=vI aZ;replace a6:=vI a6;refine start_ (n:=9) (S:=fun w'=>w'.cell? ⟨ay,0,none⟩=some (.int .i64 ae)∧w'.cell? ⟨ay,1,none⟩=some (.slice aE ag.length aG)∧w'.cell? ⟨ay,2,none⟩=some (.slice (some a7) aa.length bd)∧w'.cell? (a7.add (af).toNat)=some (.slice aA (kT aa af).length aC)) (ds:=[]) Bc (by kernel_rfl) rfl rfl ⟨(ja I.out 0).trans rfl,(ja I.out 1).trans rfl,(ja I.out 2).trans rfl,((HB.out.cell (World.block_lt_of_cell? w _ ab)).trans ab)⟩ (fun hHeld=>?_);refine with_tabW hX.CT hX.Bd (fun an bA=>?_);generalize wr.drew=w8 at I HB av J hHeld⊢;refine pA 0 11 an ?_ ?_ ?_ ?_ (pA 2 13 an ?_ ?_ ?_ ?_ (pA 4 15 an ?_ ?_ ?_ ?_ (tA 1 12 an bA hHeld ?_ ?_ ?_ ?_ (tA 3 14 an bA hHeld ?_ ?_ ?_ ?_ (pA 5 16 an ?_ ?_ ?_ ?_ (tA 6 17 an bA hHeld ?_ ?_ ?_ ?_ ?_))))))
     all_goals first|(rintro w' ⟨_,_,_,_⟩;go_simp;with_reducible rfl)|(intro w';go_simp;with_reducible rfl)|(simp only[Act.put,qA,qB,qC,i64_w,i32_w];rfl)|skip
     refine oA 7 (some 18) an (fun K hK=>?_);refine goes_ Tryz.func62 (by kernel_rfl) rfl #[.int .i64 ae,.slice aA (kT aa af).length aC] (by rfl) rfl rfl (by(try simp only[List.map_toArray,List.map_cons,List.map_nil]);first|done|rfl|(simp only[List.length_drop,List.length_take];rfl)) ?_;with_reducible refine(jy.calls k1 ae _ _ (kT aa af) true _ ?ig ?ij A5.out).mono ?_
     (case ig=>exact cY av HB);(case ij=>exact a8.out);rintro e _ ⟨rfl,hb⟩;refine⟨_,rfl,?_⟩;replace I:=bU I hb;replace HB:=bW HB hb;(try clear hb);(try clear bJ);(try clear hk);(try clear hi);refine hK.out _ _ ⟨(ja I.out 0).trans rfl,(ja I.out 1).trans rfl,(ja I.out 2).trans rfl,((HB.out.cell (World.block_lt_of_cell? w _ ab)).trans ab)⟩ (fun hHeld=>?_);clear hK K;refine vQ 18 ?_
     refine pA 8 19 an ?_ ?_ ?_ ?_ ?_
     all_goals first|(intro w';go_simp;with_reducible rfl)|(simp only[Act.put,qA,qB,qC,i64_w,i32_w];rfl)|skip
     refine done_ (done_of an.out (by kernel_rfl)) ?_;try go_wp2
     go_roundg k1
     case measure=>have:=al.out;omega
     case rel=>exact⟨(wrap64 (af+1)),(by first|rfl|(simp;done)|(simp[*];done)),H',⟨by have:=al.out;omega⟩,⟨kS I⟩,⟨wZ HB⟩⟩
    ·replace c6:=uZ c6;subst c6;rw[if_neg vR]at H;obtain rfl:=vZ H;obtain⟨_,_,_,_,_,_⟩:=b3 I;try go_wp2
     replace I:=vC I;replace HB:=vH HB;have aZ:0≤(af:Int):=jK;have a6:af<(aa.length:Int):=jK;obtain⟨a7,aA,aC,cr,J,ar,au⟩:=rp cq.out af aZ a6;have ab:=J;cases cr;replace J:=vA HB J;have av:=bm au;have a8:=bm ar;clear au ar;replace aZ:=vI aZ;replace a6:=vI a6;refine start_ (n:=9) (S:=fun w'=>w'.cell? ⟨ay,0,none⟩=some (.int .i64 ae)∧w'.cell? ⟨ay,1,none⟩=some (.slice aE ag.length aG)∧w'.cell? ⟨ay,2,none⟩=some (.slice (some a7) aa.length bd)∧w'.cell? (a7.add (af).toNat)=some (.slice aA (kT aa af).length aC)) (ds:=[]) Bc (by kernel_rfl) rfl rfl ⟨(ja I.out 0).trans rfl,(ja I.out 1).trans rfl,(ja I.out 2).trans rfl,((HB.out.cell (World.block_lt_of_cell? w _ ab)).trans ab)⟩ (fun hHeld=>?_);refine with_tabW hX.CT hX.Bd (fun an bA=>?_);generalize wr.drew=eD at I HB av J hHeld⊢;refine pA 0 11 an ?_ ?_ ?_ ?_ (pA 2 13 an ?_ ?_ ?_ ?_ (pA 4 15 an ?_ ?_ ?_ ?_ (tA 1 12 an bA hHeld ?_ ?_ ?_ ?_ (tA 3 14 an bA hHeld ?_ ?_ ?_ ?_ (pA 5 16 an ?_ ?_ ?_ ?_ (tA 6 17 an bA hHeld ?_ ?_ ?_ ?_ ?_))))))
     all_goals first|(rintro w' ⟨_,_,_,_⟩;go_simp;with_reducible rfl)|(intro w';go_simp;with_reducible rfl)|(simp only[Act.put,qA,qB,qC,i64_w,i32_w];rfl)|skip
     refine oA 7 (some 18) an (fun K hK=>?_);refine goes_ Tryz.func62 (by kernel_rfl) rfl #[.int .i64 ae,.slice aA (kT aa af).length aC] (by rfl) rfl rfl (by(try simp only[List.map_toArray,List.map_cons,List.map_nil]);first|done|rfl|(simp only[List.length_drop,List.length_take];rfl)) ?_;with_reducible refine(jy.calls k1 ae _ _ (kT aa af) false _ ?ig ?ij A5.out).mono ?_
     (case ig=>exact cY av HB);(case ij=>exact a8.out);rintro e _ ⟨rfl,hb⟩;refine⟨_,rfl,?_⟩;replace I:=bU I hb;replace HB:=bW HB hb;(try clear hb);(try clear bJ);(try clear hk);(try clear hi);refine hK.out _ _ ⟨(ja I.out 0).trans rfl,(ja I.out 1).trans rfl,(ja I.out 2).trans rfl,((HB.out.cell (World.block_lt_of_cell? w _ ab)).trans ab)⟩ (fun hHeld=>?_);clear hK K;refine vQ 18 ?_
     refine pA 8 19 an ?_ ?_ ?_ ?_ ?_
     all_goals first|(intro w';go_simp;with_reducible rfl)|(simp only[Act.put,qA,qB,qC,i64_w,i32_w];rfl)|skip
     refine done_ (done_of an.out (by kernel_rfl)) ?_;try go_wp2
     go_ret;exact vo HB
   ·obtain⟨t126,dz,H⟩:=bE H;try dsimp only at H
    by_cases bh:t126=true
    ·subst bh;rw[if_pos rfl]at H;obtain rfl:=vZ H;obtain⟨_,_,_,_,_,_⟩:=b3 I;go_wp2_with (first|(refine gB (some 24) Tryz.func62 #[.int .i64 ae,.slice aE ag.length aG] rfl ?_;(with_reducible refine(jy.calls k1 ae _ _ ag true _ ?_ ?_ dz.out).mono ?_);exact cY cn HB;exact cp.out;rintro e _ ⟨rfl,hb⟩;refine⟨_,rfl,?_⟩;replace I:=bU I hb;replace HB:=bW HB hb;clear hb;obtain⟨_,_,_,_,_,_⟩:=b3 I));go_ret;exact vo HB
    ·replace bh:=uZ bh;subst bh;rw[if_neg vR]at H;obtain rfl:=vZ H;obtain⟨_,_,_,_,_,_⟩:=b3 I;go_wp2_with (first|(refine gB (some 24) Tryz.func62 #[.int .i64 ae,.slice aE ag.length aG] rfl ?_;(with_reducible refine(jy.calls k1 ae _ _ ag false _ ?_ ?_ dz.out).mono ?_);exact cY cn HB;exact cp.out;rintro e _ ⟨rfl,hb⟩;refine⟨_,rfl,?_⟩;replace I:=bU I hb;replace HB:=bW HB hb;clear hb));go_ret;exact vo HB
end Go.Proofs.YtihgpkohglcijaaGreatDoor.P
