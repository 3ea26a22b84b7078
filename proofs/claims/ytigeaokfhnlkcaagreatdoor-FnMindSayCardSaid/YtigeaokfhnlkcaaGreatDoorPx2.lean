import Derived.Test.YtigeaokfhnlkcaaGreatDoorPx0
namespace Go.Proofs.YtigeaokfhnlkcaaGreatDoor.P
open Go.RowKit YtigeaokfhnlkcaaGreatDoorW PrintWords PrintLast PrintMore
attribute [local go_sem] max2_int min2_int max_two min_two max_three min_three max_four min_four
set_option linter.unusedVariables false
set_option linter.unusedSimpArgs false
set_option maxHeartbeats 8000000
set_option maxRecDepth 100000
def fl (w0 W:World) (g:Nat) (f0:LI) (f1:Int):Prop:=∃A0 c0,W.heap[g]?=some (.cells #[.slice A0 f0.length c0,.int .i64 f1] 72 (0,0))∧w0.heap.size≤g∧Kd.C (Kd.int .u8) w0 A0 f0.length f0
theorem fl.grown {w0 W:World} {g:Nat} {f0:List Int} {f1:Int} {W1:World} {row:Option Nat} (h:fl w0 W g f0 f1) (hw:W.grownBy W1 row) (b0:some g≠row):fl w0 W1 g f0 f1:=by
 obtain⟨A0,c0,hb,hg,ad⟩:=h;exact⟨A0,c0,blk_grown hb hw b0,hg,ad⟩
theorem fl.Cl {w0 W:World} {g:Nat} {f0:List Int} {f1:Int} {α:Type} {d:Kd α} {e:Nat} {base:Nat} {ok:Nat→Prop} {v:Value} {xs:List α} (h:fl w0 W g f0 f1) (ho:Kd.N d e W base ok v xs) (ht:e≠72):some g≠v.ownBlock:=by
 obtain⟨A0,c0,hb,hg,ad⟩:=h;exact Kd.N_ne ho hb ht
theorem fl.fresh {w0 W:World} {g:Nat} {f0:List Int} {f1:Int} (h:fl w0 W g f0 f1):∀k,W.heap.size≤k→k≠g:=by
 obtain⟨A0,c0,hb,hg,ad⟩:=h;exact Kd.freshB hb
theorem fl.kept {w0 W:World} {g:Nat} {f0:List Int} {f1:Int} {W1:World} {S:Nat→Prop} (h:fl w0 W g f0 f1) (hk:Kept W W1 S) (b0:¬S g):fl w0 W1 g f0 f1:=by
 obtain⟨A0,c0,hb,hg,ad⟩:=h;exact⟨A0,c0,blk_kept hb hk b0,hg,ad⟩
theorem fl.below {w0 W:World} {g:Nat} {f0:List Int} {f1:Int} {W1:World} (h:fl w0 W g f0 f1) (hw:Below W.heap.size W W1):fl w0 W1 g f0 f1:=h.grown (grown_of_below hw none) (by simp)
theorem fl.bX {w0 W:World} {g:Nat} {f0:List Int} {f1:Int} {W1:World} [s:zL W W1] (h:fl w0 W g f0 f1):fl w0 W1 g f0 f1:=h.below s.b
theorem fl.alloc {w0 W:World} {g:Nat} {f0:List Int} {f1:Int} (h:fl w0 W g f0 f1) (o:Obj):fl w0 (W.alloc o) g f0 f1:=h.below (zK (Below.refl _ _) o)
theorem fl.drewN {w0 W:World} {g:Nat} {f0:List Int} {f1:Int} (h:fl w0 W g f0 f1) (m:Nat):fl w0 (W.drewN m) g f0 f1:=h
theorem fl.drew {w0 W:World} {g:Nat} {f0:List Int} {f1:Int} (h:fl w0 W g f0 f1):fl w0 W.drew g f0 f1:=h
theorem fl.at_ {w0 W:World} {g:Nat} {f0:List Int} {f1:Int} {w':World} {m:Nat} (hq:W.drewN m=w') (h:fl w0 W g f0 f1):fl w0 w' g f0 f1:=by subst hq;exact fl.drewN h m
theorem fl.apart {w0 W:World} {g:Nat} {f0:List Int} {f1:Int} {α:Type} {d:Kd α} {e:Nat} {base:Nat} {ok:Nat→Prop} {v:Value} {xs:List α} (h:fl w0 W g f0 f1) (ho:d.R e W base ok v xs) (ht:∀q,q∈e::d.E→q≠72):d.R e W base (fun k=>ok k∧k≠g) v xs:=by
 obtain⟨A0,c0,hb,hg,ad⟩:=h;exact Kd.R_types ho hb ht
theorem fl.own_ne {w0 W:World} {g:Nat} {f0:List Int} {f1:Int} {α:Type} {d:Kd α} {e:Nat} {base:Nat} {ok:Nat→Prop} {v:Value} {xs:List α} (h:fl w0 W g f0 f1) (ho:d.R e W base ok v xs) (ht:e≠72):some g≠v.ownBlock:=by
 obtain⟨A0,c0,hb,hg,ad⟩:=h;exact Kd.R_ne ho hb ht
theorem fl.rf {w0 W:World} {g:Nat} {f0:List Int} {f1:Int} {α:Type} {d:Kd α} {e:Nat} {base:Nat} {ok:Nat→Prop} {v:Value} {xs:List α} (h:fl w0 W g f0 f1) (ho:d.Q e W base ok v xs) (ht:∀q,q∈e::d.E→q≠72):d.Q e W base (fun k=>ok k∧k≠g) v xs:=by
 obtain⟨A0,c0,hb,hg,ad⟩:=h;exact Kd.Q_types ho hb ht
theorem fl.yS {w0 W:World} {g:Nat} {f0:List Int} {f1:Int} {α:Type} {d:Kd α} {e:Nat} {base:Nat} {ok:Nat→Prop} {v:Value} {xs:List α} (h:fl w0 W g f0 f1) (ho:d.Q e W base ok v xs) (ht:e≠72):some g≠v.ownBlock:=by
 obtain⟨A0,c0,hb,hg,ad⟩:=h;exact Kd.Q_ne ho hb ht
theorem fl.Av {w0 W:World} {g:Nat} {f0:List Int} {f1:Int} {α:Type} {d:Kd α} {e:Nat} {base:Nat} {ok:Nat→Prop} {v:Value} {xs:List α} (h:fl w0 W g f0 f1) (ho:d.S e W base ok v xs) (ht:∀q,q∈e::d.E→q≠72):d.S e W base (fun k=>ok k∧k≠g) v xs:=by
 obtain⟨A0,c0,hb,hg,ad⟩:=h;exact Kd.S_types ho hb ht
theorem fl.Cm {w0 W:World} {g:Nat} {f0:List Int} {f1:Int} {α:Type} {d:Kd α} {e:Nat} {base:Nat} {ok:Nat→Prop} {v:Value} {xs:List α} (h:fl w0 W g f0 f1) (ho:d.S e W base ok v xs) (ht:e≠72):some g≠v.ownBlock:=by
 obtain⟨A0,c0,hb,hg,ad⟩:=h;exact Kd.S_ne ho hb ht
theorem fl.lt {w0 W:World} {g:Nat} {f0:List Int} {f1:Int} (h:fl w0 W g f0 f1):g<W.heap.size:=by
 obtain⟨A0,c0,hb,hg,ad⟩:=h;exact Ao hb
theorem fl.ge {w0 W:World} {g:Nat} {f0:List Int} {f1:Int} (h:fl w0 W g f0 f1):w0.heap.size≤g:=by
 obtain⟨A0,c0,hb,hg,ad⟩:=h;exact hg
theorem fl.yf {w0 W:World} {g:Nat} {f0:List Int} {f1:Int} {a:Nat} {cs:Array Value} {t:TypeId} {fr:Nat×Nat} (h:fl w0 W g f0 f1) (cG:W.heap[a]?=some (.cells cs t fr)) (ht:t≠72):g≠a:=by
 obtain⟨A0,c0,hb,hg,ad⟩:=h;rintro rfl;rw[hb]at cG;injection cG with cG
 injection cG with _ ht2
 exact ht ht2.symm
theorem fl.far {w0 W:World} {g:Nat} {f0:List Int} {f1:Int} {p:Addr} (h:fl w0 W g f0 f1) (b0:g≠p.block) (u:Value):fl w0 (W.setCell p u) g f0 f1:=by
 obtain⟨A0,c0,hb,hg,ad⟩:=h;exact⟨A0,c0,Ch hb b0 u,hg,ad⟩
theorem tt {W:World} {g:Nat} {A0:Option Addr} {c0:Nat} {f0:List Int} {f1:Int} (h:W.heap[g]?=some (.cells #[.slice A0 f0.length c0,.int .i64 f1] 72 (0,0))):W.cell? ⟨g,0,none⟩=some (.slice A0 f0.length c0):=(yc h 0).trans rfl
theorem tu {W:World} {g:Nat} {A0:Option Addr} {c0:Nat} {f0:List Int} {f1:Int} (h:W.heap[g]?=some (.cells #[.slice A0 f0.length c0,.int .i64 f1] 72 (0,0))):W.cell? ⟨g,1,none⟩=some (.int .i64 f1):=(yc h 1).trans rfl
theorem fl.qw {w0 W:World} {g:Nat} {f0:List Int} {f1:Int} (h:fl w0 W g f0 f1) (x:Int):fl w0 (W.setCell ⟨g,1,none⟩ (.int .i64 x)) g f0 x:=by
 obtain⟨A0,c0,hb,hg,ad⟩:=h;exact⟨A0,c0,by simpa using blk_set hb 1 (.int .i64 x),hg,ad⟩
theorem fl.new (w0 W:World) (A0:Option Addr) (c0:Nat) (f0:LI) (f1:Int) (hB:Below w0.heap.size w0 W) (ad:Kd.C (Kd.int .u8) w0 A0 f0.length f0):fl w0 (W.alloc (.cells #[.slice A0 f0.length c0,.int .i64 f1] 72)) W.heap.size f0 f1:=⟨A0,c0,by simpa using heap_alloc_new W _,hB.size,ad⟩
theorem fl.z {w0 W W':World} {g:Nat} {f0 dp:List Int} {f1 dq:Int} (h:hJ (fl w0 W g f0 f1)) (s:fl w0 W g f0 f1→fl w0 W' g dp dq:=by intro h;repeat(with_reducible first|exact h|apply fl.bX|apply fl.qw|refine fl.far ?_ aX _)):fl w0 W' g dp dq:=s h.out
theorem fl.y {w0 W W':World} {g:Nat} {f0:List Int} {f1:Int} (h:hJ (fl w0 W g f0 f1)) (s:fl w0 W g f0 f1→fl w0 W' g f0 f1:=by intro h;repeat(with_reducible first|exact h|apply fl.bX|refine fl.far ?_ aX _)):fl w0 W' g f0 f1:=s h.out
def qY.f (l0:LI):Option (List Int×Int):=if(l0.length:Int)>2000 then(if 2000≤(l0.length:Int)then(some (l0.take 2000,0))else(none))else(some (l0,0))
theorem qY.calls (A0:Option Addr) (c0:Nat) (l0:LI) (r1:LI) (r2:Int) (w0 w:World) (hB:Below w0.heap.size w0 w) (ad:Kd.C (Kd.int .u8) w0 A0 l0.length l0) (dr:l0.length≤c0) (h:qY.f l0=some (r1,r2)):
  Calls Tryz.prog 22 #[.slice A0 l0.length c0] w fun e w'=>∃g_:Nat,e= .returned (.pointer (some ⟨g_,0,none⟩))∧fl w0 w' g_ r1 r2∧Below w0.heap.size w0 w'∧Below w.heap.size w w':=by
 have fb:=Tryz.underlying72;have ds:=bm ad;have eJ:=bm dr;clear ad dr;have aJ:=bm (Below.refl w.heap.size w);have b1:=bm hB.size;have HB:=bm hB;clear hB;have H:=h;clear h;unfold qY.f at H;rcases iT H with⟨c2,H⟩|⟨c2,H⟩
 ·have dt:=pK c2;have du:decide (2000<l0.length)=true:=pK (by omega);clear c2;obtain⟨bD,fc,H⟩:=pO H;obtain⟨rfl,rfl⟩:=s2 H;obtain⟨fq,cI,_,cJ,_⟩:=info_parts info5;obtain⟨eK,dv,dw⟩:=print_take_of (P:=Tryz.prog) (Value.int .u8) 0 22 5 .i64 Tryz.underlying22 cI cJ A0 c0 l0 2000 (by omega) (ko) eJ.out;have cN:=bm (Kd.C_of_reads (h1:=fun _=>rfl) (dv _ (Kd.reads_of_C ds.out)));have eL:=bm dw;clear dv dw cI cJ;go_enter Tryz.func22,Tryz.ntmps22;go_wp2_with (first|(refine re 10 #[.slice A0 (l0.take 2000).length c0,.int .i64 0] 72 ?_;intro bo hg _ ak hb;replace HB:=bW HB hb;have cO:=bm (ak);have cP:=bG aJ hg;have cQ:=bm ((Nat.le_trans b1.out (by rw[hg];exact(below_size (wZ aJ)):w.heap.size≤bo):w0.heap.size≤bo));replace aJ:=bm (Ah aJ.out hb);clear hb ak hg));go_ret;exact⟨_,rfl,(show fl w0 _ bo (l0.take 2000) 0 from⟨_,_,kS cO,cQ.out,cN.out⟩),wZ HB,by repeat(with_reducible first|exact aJ.out|apply qP|refine mj ?_ cP.out)⟩
 ·have dt:=pF c2;have du:decide (2000<l0.length)=false:=pF (by omega);clear c2;obtain⟨rfl,rfl⟩:=s2 H;go_enter Tryz.func22,Tryz.ntmps22;go_wp2_with (first|(refine re 10 #[.slice A0 l0.length c0,.int .i64 0] 72 ?_;intro bp hg _ ak hb;replace HB:=bW HB hb;have cR:=bm (ak);have cS:=bG aJ hg;have cT:=bm ((Nat.le_trans b1.out (by rw[hg];exact(below_size (wZ aJ)):w.heap.size≤bp):w0.heap.size≤bp));replace aJ:=bm (Ah aJ.out hb);clear hb ak hg));go_ret;exact⟨_,rfl,(show fl w0 _ bp l0 0 from⟨_,_,kS cR,cT.out,ds.out⟩),wZ HB,by repeat(with_reducible first|exact aJ.out|apply qP|refine mj ?_ cS.out)⟩
def gp.j0:Nat→Int→Bool→LI→Int→Option (Int×Int)
 |0,_,_,_,_=>none
 |k+1,x1,x24,x1000,qm=>if x24=true then(some (0,qm))else(if(wrap64 (qm - 1))<(x1000.length:Int)then(if 0≤(wrap64 (qm - 1))then(if x1=0 then(none)else(some (Int.tmod (wrap64 (rd x1000 (wrap64 (qm - 1)))) x1,qm)))else(none))else(if(x1000.length:Int)=0 then(none)else(if 0≤(Int.tmod (wrap64 (qm - 1)) (x1000.length:Int))then(if(Int.tmod (wrap64 (qm - 1)) (x1000.length:Int))<(x1000.length:Int)then(if 0≤(Int.tmod (wrap64 ((wrap64 ((wrap64 (qm - 1))*7))+3)) (x1000.length:Int))then(if(Int.tmod (wrap64 ((wrap64 ((wrap64 (qm - 1))*7))+3)) (x1000.length:Int))<(x1000.length:Int)then(if x1=0 then(none)else(some (Int.tmod (Go.bits .xor .i64 (wrap64 ((wrap64 ((wrap64 ((wrap64 ((wrap64 (rd x1000 (Int.tmod (wrap64 (qm - 1)) (x1000.length:Int))))*131))+(wrap64 ((wrap64 (rd x1000 (Int.tmod (wrap64 ((wrap64 ((wrap64 (qm - 1))*7))+3)) (x1000.length:Int))))*1117))))+(wrap64 ((wrap64 (qm - 1))*29))))+(wrap64 ((wrap64 (Int.tdiv (wrap64 (qm - 1)) (x1000.length:Int)))*53)))) (wrap64 (Int.tdiv (wrap64 ((wrap64 ((wrap64 ((wrap64 ((wrap64 (rd x1000 (Int.tmod (wrap64 (qm - 1)) (x1000.length:Int))))*131))+(wrap64 ((wrap64 (rd x1000 (Int.tmod (wrap64 ((wrap64 ((wrap64 (qm - 1))*7))+3)) (x1000.length:Int))))*1117))))+(wrap64 ((wrap64 (qm - 1))*29))))+(wrap64 ((wrap64 (Int.tdiv (wrap64 (qm - 1)) (x1000.length:Int)))*53)))) 64))) x1,qm)))else(none))else(none))else(none))else(none))))
def gp.f (k:Nat) (j:LI) (aa:Int) (a1:Int):Option (Int×Int):=if a1<1 then(gp.j0 k a1 true j (wrap64 (aa+1)))else(gp.j0 k a1 ((j.length:Int)==0) j (wrap64 (aa+1)))
theorem gp.hZ:∀k,(∀y0 y1 y2 y3,lS (gp.j0 k y0 y1 y2 y3) (gp.j0 (k+1) y0 y1 y2 y3))
 |0=>fun _ _ _ _=> .z (by simp only[gp.j0])
 |k+1=>by
  have i0:=gp.hZ k;exact fun _ _ _ _=>by unfold gp.j0;infer_instance
instance gp.mo {k a0 a1 a2}:lS (gp.f k a0 a1 a2) (gp.f (k+1) a0 a1 a2):=by have i0:=gp.hZ k;unfold gp.f;infer_instance
theorem gp.calls (k:Nat) (g:Nat) (j:LI) (aa:Int) (a1:Int) (r1:Int) (r2:Int) (w0 w:World) (hI:fl w0 w g j aa) (hB:Below w0.heap.size w0 w) (h:gp.f k j aa a1=some (r1,r2)):
  Calls Tryz.prog 24 #[.pointer (some ⟨g,0,none⟩),.int .i64 a1] w fun e w'=>e= .returned (.int .i64 r1)∧fl w0 w' g j r2∧Below w0.heap.size w0 w'∧kN w w' g none:=by
 have J:=bm hI;have HK:=bm (kN.refl w g none);have HL:=bm hB.size;clear hI;have b1:=bm hB.size;have HB:=bm hB;clear hB;have H:=h;clear h;unfold gp.f at H;have cU:=bm H;clear H;obtain⟨eo,ep,bF,dx,er⟩:=J.out;have et:=tt bF;have eu:=tu bF;have ev:=qZ bF 1;clear bF dx;go_enter Tryz.func24,Tryz.ntmps24;go_upto_region 2 with(fail)
 repeat(go_quiet (fail);go_upto_region 2 with(fail))
 go_cut [24] (fun v24 wc=>∃(kq:Nat) (aT:Bool),v24= .bool aT∧hJ (gp.j0 kq a1 aT j (wrap64 (aa+1))=some (r1,r2))∧hJ (kq≤k)∧hJ (fl w0 wc g j (wrap64 (aa+1)))∧hJ (kN w wc g none)∧hJ (Below w0.heap.size w0 wc))
 case first=>
  have H:=cU.out;clear cU;rcases pP H with⟨a6,H⟩|⟨a6,H⟩
  ·(first|rw[a6]|(simp only[i64_w,i32_w];rw[a6])|skip);have H':=bm H;clear H;go_wp2;repeat(go_quiet (fail);try go_wp2)
   go_meet
   case rel=>exact⟨_,(true),eA,H',⟨by first|omega|exact Nat.le_refl _⟩,⟨fl.z J⟩,⟨kZ HK⟩,⟨wI HB (fl.ge J.out)⟩⟩
  ·(first|rw[a6]|(simp only[i64_w,i32_w];rw[a6])|skip);have H':=bm H;clear H;obtain⟨ew,ey,bH,dy,ez⟩:=J.out;have eB:=tt bH;have eC:=tu bH;have eD:=qZ bH 1;clear bH dy;go_wp2;repeat(go_quiet (fail);try go_wp2)
   go_meet
   case rel=>exact⟨_,(((j.length:Int)==0)),eA,H',⟨by first|omega|exact Nat.le_refl _⟩,⟨fl.z J⟩,⟨kZ HK⟩,⟨wI HB (fl.ge J.out)⟩⟩
 case rest=>
  clear cU;obtain⟨kq,aT,rfl,HA,fs,J,HK,HB⟩:=hcut;cases kq with
  |zero=>exact absurd HA.out (by simp[gp.j0])
  |succ wU=>
   have H:=HA.out;clear HA;simp only[gp.j0]at H;by_cases c7:aT=true
   ·subst c7;rw[if_pos rfl]at H;obtain⟨rfl,rfl⟩:=s2 H;go_wp2;repeat(go_quiet (fail);try go_wp2)
    go_ret;exact⟨eF,fl.z J,wI HB (fl.ge J.out),kZ HK⟩
   ·replace c7:=pD c7;subst c7;rw[if_neg pV]at H;rcases pP H with⟨cK,H⟩|⟨cK,H⟩
    ·obtain⟨cH,a7⟩:∃j_:Int,(wrap64 ((wrap64 (aa+1)) - 1))=j_:=⟨_,rfl⟩;first|rw[a7]at H|simp only[a7]at H
     (try rw[a7]at cK);have eM:(IntKind.i64.wrap ((wrap64 (aa+1)) - 1))=cH:=(i64_w _).trans a7;obtain⟨b4,H⟩:=pN H;rcases iT H with⟨bT,H⟩|⟨bT,H⟩
     ·exact absurd H (by simp)
     ·obtain⟨cV,eN⟩:=pe bT;obtain⟨rfl,rfl⟩:=s2 H;obtain⟨dz,dA,aU,cW,b5⟩:=J.out;have dB:=tt aU;have dC:=tu aU;have dD:=qZ aU 1;clear aU cW;have b6:0≤((cH):Int):=ko;have b7:(cH)<(j.length:Int):=ko;obtain⟨eO,dE,a8⟩:=Kd.at_int b5 (cH) b6 b7;cases dE;replace a8:=pw_cell_below HB.out a8;replace b6:=pM b6;replace b7:=pM b7;go_wp2;repeat(go_quiet (fail);try go_wp2)
      go_ret;exact⟨by first|rfl|(simp[iJ,iK]<;>rfl)|(simp only[←a7];first|rfl|(simp[iJ,iK]<;>rfl))|(simp[*,iJ,iK]<;>rfl),fl.z J,wI HB (fl.ge J.out),kZ HK⟩
    ·rcases iT H with⟨aK,H⟩|⟨aK,H⟩
     ·exact absurd H (by simp)
     ·obtain⟨b8,eP⟩:=pe aK;have eQ:¬(j= []):=fun h_=>aK (by rw[h_];rfl)
      obtain⟨b9,bq⟩:∃j_:Int,(Int.tmod (wrap64 ((wrap64 (aa+1)) - 1)) (j.length:Int))=j_:=⟨_,rfl⟩;first|rw[bq]at H|simp only[bq]at H
      obtain⟨ca,H⟩:=pN H;obtain⟨eR,H⟩:=pN H;obtain⟨cb,bs⟩:∃j_:Int,(Int.tmod (wrap64 ((wrap64 ((wrap64 ((wrap64 (aa+1)) - 1))*7))+3)) (j.length:Int))=j_:=⟨_,rfl⟩;first|rw[bs]at H|simp only[bs]at H
      obtain⟨eS,H⟩:=pN H;obtain⟨eT,H⟩:=pN H;rcases iT H with⟨cX,H⟩|⟨cX,H⟩
      ·exact absurd H (by simp)
      ·obtain⟨eU,eV⟩:=pe cX;obtain⟨rfl,rfl⟩:=s2 H;obtain⟨dH,dI,aV,da,bb⟩:=J.out;have dJ:=tt aV;have dK:=tu aV;have dL:=qZ aV 1;clear aV da;have cc:0≤((b9):Int):=ko;have cd:(b9)<(j.length:Int):=ko;obtain⟨db,dM,bc⟩:=Kd.at_int bb (b9) cc cd;cases dM;replace bc:=pw_cell_below HB.out bc;replace cc:=pM cc;replace cd:=pM cd;have cf:0≤((cb):Int):=ko;have cg:(cb)<(j.length:Int):=ko;obtain⟨dc,dN,bd⟩:=Kd.at_int bb (cb) cf cg;obtain rfl:db=dc:=(by injection dN);replace bd:=pw_cell_below HB.out bd;replace cf:=pM cf;replace cg:=pM cg;go_wp2;repeat(go_quiet (fail);try go_wp2)
       go_ret;exact⟨by first|rfl|(simp[iJ,iK]<;>rfl)|(simp only[←bq,←bs];first|rfl|(simp[iJ,iK]<;>rfl))|(simp[*,iJ,iK]<;>rfl),fl.z J,wI HB (fl.ge J.out),kZ HK⟩
def jl.f (k:Nat) (j:LI) (aa:Int) (a1:Int):Option (Bool×Int):=if a1>0 then((gp.f k j aa a1).bind fun aw=>(some ((aw.1==(wrap64 (a1 - 1))),aw.2)))else(some (false,aa))
instance jl.mo {k a0 a1 a2}:lS (jl.f k a0 a1 a2) (jl.f (k+1) a0 a1 a2):=by unfold jl.f;infer_instance
theorem jl.calls (k:Nat) (g:Nat) (j:LI) (aa:Int) (a1:Int) (r1:Bool) (r2:Int) (w0 w:World) (hI:fl w0 w g j aa) (hB:Below w0.heap.size w0 w) (h:jl.f k j aa a1=some (r1,r2)):
  Calls Tryz.prog 26 #[.pointer (some ⟨g,0,none⟩),.int .i64 a1] w fun e w'=>e= .returned (.bool r1)∧fl w0 w' g j r2∧Below w0.heap.size w0 w'∧kN w w' g none:=by
 have J:=bm hI;have HK:=bm (kN.refl w g none);have HL:=bm hB.size;clear hI;have b1:=bm hB.size;have HB:=bm hB;clear hB;have H:=h;clear h;unfold jl.f at H;rcases pP H with⟨bD,H⟩|⟨bD,H⟩
 ·obtain⟨⟨t107,t108⟩,A4,H⟩:=bE H;try dsimp only at H
  obtain⟨rfl,rfl⟩:=s2 H;go_enter Tryz.func26,Tryz.ntmps26;go_wp2_with (first|(go_at_call 24;(with_reducible refine(gp.calls k g j aa a1 t107 t108 w0 _ ?ix ?gH A4.out).mono ?_);(case ix=>exact fl.z J);(case gH=>repeat(with_reducible first|exact HB.out|apply qP|refine mj ?_ (fl.ge J.out)));rintro e _ ⟨rfl,hi,hb,hk⟩;replace HK:=bm (kN.trans (kZ HK) hk (.inl rfl));replace HB:=bm (hb);replace J:=bm (hi);clear hb hk hi));go_ret;exact⟨eF,fl.z J,wI HB (fl.ge J.out),kZ HK⟩
 ·obtain⟨rfl,rfl⟩:=s2 H;go_enter Tryz.func26,Tryz.ntmps26;go_wp2;go_ret;exact⟨eF,fl.z J,wI HB (fl.ge J.out),kZ HK⟩
def nD.f (k:Nat) (j:LI) (aa:Int) (a1:Int):Option (Int×Int):=(jl.f k j aa a1).bind fun an=>(if an.1=true then((some (([0,4,(-1)]:LI):LI)).bind fun ax=>((gp.f k j an.2 3).bind fun ah=>(if 0≤ah.1 then(if ah.1<(ax.length:Int)then(some (rd ax ah.1,ah.2))else(none))else(none))))else((some (([1,2,2,3,3]:LI):LI)).bind fun ay=>((gp.f k j an.2 5).bind fun ai=>(if 0≤ai.1 then(if ai.1<(ay.length:Int)then(some (rd ay ai.1,ai.2))else(none))else(none)))))
instance nD.mo {k a0 a1 a2}:lS (nD.f k a0 a1 a2) (nD.f (k+1) a0 a1 a2):=by unfold nD.f;infer_instance
theorem nD.calls (k:Nat) (g:Nat) (j:LI) (aa:Int) (a1:Int) (r1:Int) (r2:Int) (w0 w:World) (hI:fl w0 w g j aa) (hB:Below w0.heap.size w0 w) (h:nD.f k j aa a1=some (r1,r2)):
  Calls Tryz.prog 45 #[.pointer (some ⟨g,0,none⟩),.int .i64 a1] w fun e w'=>e= .returned (.int .i64 r1)∧fl w0 w' g j r2∧Below w0.heap.size w0 w'∧kN w w' g none:=by
 have J:=bm hI;have HK:=bm (kN.refl w g none);have HL:=bm hB.size;clear hI;have b1:=bm hB.size;have HB:=bm hB;clear hB;have H:=h;clear h;unfold nD.f at H;obtain⟨⟨t109,t110⟩,A3,H⟩:=bE H;try dsimp only at H
 by_cases c4:t109=true
 ·subst c4;rw[if_pos rfl]at H;obtain⟨ax,ch,H⟩:=bY H;obtain⟨⟨t114,t115⟩,A5,H⟩:=bE H;try dsimp only at H
  obtain⟨aQ,H⟩:=pN H;obtain⟨fe,H⟩:=pN H;obtain⟨rfl,rfl⟩:=s2 H;go_enter Tryz.func45,Tryz.ntmps45;go_wp2_with (first|(refine gB (some 7) Tryz.func26 #[.pointer (some ⟨g,0,none⟩),.int .i64 a1] rfl ?_;(refine(jl.calls k g j aa a1 true t110 w0 _ ?ix ?gH A3.out).mono ?_);(case ix=>exact fl.z J);(case gH=>repeat(with_reducible first|exact HB.out|apply qP|refine mj ?_ (fl.ge J.out)));rintro e _ ⟨rfl,hi,hb,hk⟩;refine⟨_,rfl,?_⟩;replace HK:=bm (kN.trans (kZ HK) hk (.inl rfl));replace HB:=bm (hb);replace J:=bm (hi);clear hb hk hi)|((with_reducible refine gate_dst (N:=8) rfl ?_);refine Kd.R_lit KI _ 3 ?hg (N:=8) ?hd (xs:=([0,4,(-1)]:LI)) (inner:=[.int .i64 0,.int .i64 4,.int .i64 (-1)]) (ok:=fun _=>True) (okp:=fun _=>True) ?hr ?hp (fun _ hk=>hk) trivial (Below.refl _ _) (Nat.le_refl _) (by simp) ?_;(case hd=>rfl);(case hg=>rfl);(case hr=>first|(go_simp;done)|(go_simp;rfl));(case hp=>exact(Reps.one (show Kd.M KI _ _ _ 0 [.int .i64 0] from rfl) (Reps.one (show Kd.M KI _ _ _ 4 [.int .i64 4] from rfl) (Reps.one (show Kd.M KI _ _ _ (-1) [.int .i64 (-1)] from rfl) (Reps.none _ _)))));intro _ _ bf hb cj az;clear cj az;(first|rw[←ch.out]at bf|(simp only[Int.reduceToNat]at bf;rw[←ch.out]at bf));have aW:=bm (Kd.R_lower bf (rI (w:=w) (g:=g) (row:=none) (kZ HK)));replace HK:=bK HK hb;replace HB:=td HB (fl.ge J.out) hb;replace J:=bm (fl.below (fl.z J) hb);clear hb bf)|(refine gB (some 10) Tryz.func24 #[.pointer (some ⟨g,0,none⟩),.int .i64 3] rfl ?_;(refine(gp.calls k g j t110 3 t114 t115 w0 _ ?ix ?gH A5.out).mono ?_);(case ix=>exact fl.z J);(case gH=>repeat(with_reducible first|exact HB.out|apply qP|refine mj ?_ (fl.ge J.out)));rintro e _ ⟨rfl,hi,hb,hk⟩;refine⟨_,rfl,?_⟩;replace aW:=bm (Kd.R_mono (Kd.R_keep (fl.apart (show fl w0 _ g j t110 from fl.z J) (rS aW) (by decide)) hk (fun _ h=>h.2)) (fun _ h=>h.1));replace HK:=bm (kN.trans (kZ HK) hk (.inl rfl));replace HB:=bm (hb);replace J:=bm (hi);clear hb hk hi;obtain⟨fg,fh,dO⟩:=Kd.R_slice aW.out;subst dO;have ck:0≤(t114:Int):=ko;have cl:t114<(ax.length:Int):=ko;obtain⟨eX,dP,dQ⟩:=Kd.at_int (Kd.R_reads' aW.out).2.2 t114 ck cl;cases dP;replace ck:=pM ck;replace cl:=pM cl));go_ret;exact⟨eF,fl.z J,wI HB (fl.ge J.out),kZ HK⟩
 ·replace c4:=pD c4;subst c4;rw[if_neg pV]at H;obtain⟨ay,cm,H⟩:=bY H;obtain⟨⟨t120,t121⟩,eY,H⟩:=bE H;try dsimp only at H
  obtain⟨eZ,H⟩:=pN H;obtain⟨ca,H⟩:=pN H;obtain⟨rfl,rfl⟩:=s2 H;go_enter Tryz.func45,Tryz.ntmps45;go_wp2_with (first|(refine gB (some 7) Tryz.func26 #[.pointer (some ⟨g,0,none⟩),.int .i64 a1] rfl ?_;(refine(jl.calls k g j aa a1 false t110 w0 _ ?ix ?gH A3.out).mono ?_);(case ix=>exact fl.z J);(case gH=>repeat(with_reducible first|exact HB.out|apply qP|refine mj ?_ (fl.ge J.out)));rintro e _ ⟨rfl,hi,hb,hk⟩;refine⟨_,rfl,?_⟩;replace HK:=bm (kN.trans (kZ HK) hk (.inl rfl));replace HB:=bm (hb);replace J:=bm (hi);clear hb hk hi)|((with_reducible refine gate_dst (N:=13) rfl ?_);refine Kd.R_lit KI _ 3 ?hg (N:=13) ?hd (xs:=([1,2,2,3,3]:LI)) (inner:=[.int .i64 1,.int .i64 2,.int .i64 2,.int .i64 3,.int .i64 3]) (ok:=fun _=>True) (okp:=fun _=>True) ?hr ?hp (fun _ hk=>hk) trivial (Below.refl _ _) (Nat.le_refl _) (by simp) ?_;(case hd=>rfl);(case hg=>rfl);(case hr=>first|(go_simp;done)|(go_simp;rfl));(case hp=>exact(Reps.one (show Kd.M KI _ _ _ 1 [.int .i64 1] from rfl) (Reps.one (show Kd.M KI _ _ _ 2 [.int .i64 2] from rfl) (Reps.one (show Kd.M KI _ _ _ 2 [.int .i64 2] from rfl) (Reps.one (show Kd.M KI _ _ _ 3 [.int .i64 3] from rfl) (Reps.one (show Kd.M KI _ _ _ 3 [.int .i64 3] from rfl) (Reps.none _ _)))))));intro _ _ bg hb cj az;clear cj az;(first|rw[←cm.out]at bg|(simp only[Int.reduceToNat]at bg;rw[←cm.out]at bg));have aY:=bm (Kd.R_lower bg (rI (w:=w) (g:=g) (row:=none) (kZ HK)));replace HK:=bK HK hb;replace HB:=td HB (fl.ge J.out) hb;replace J:=bm (fl.below (fl.z J) hb);clear hb bg)|(refine gB (some 15) Tryz.func24 #[.pointer (some ⟨g,0,none⟩),.int .i64 5] rfl ?_;(refine(gp.calls k g j t110 5 t120 t121 w0 _ ?ix ?gH eY.out).mono ?_);(case ix=>exact fl.z J);(case gH=>repeat(with_reducible first|exact HB.out|apply qP|refine mj ?_ (fl.ge J.out)));rintro e _ ⟨rfl,hi,hb,hk⟩;refine⟨_,rfl,?_⟩;replace aY:=bm (Kd.R_mono (Kd.R_keep (fl.apart (show fl w0 _ g j t110 from fl.z J) (rS aY) (by decide)) hk (fun _ h=>h.2)) (fun _ h=>h.1));replace HK:=bm (kN.trans (kZ HK) hk (.inl rfl));replace HB:=bm (hb);replace J:=bm (hi);clear hb hk hi;obtain⟨fj,fk,dR⟩:=Kd.R_slice aY.out;subst dR;have cn:0≤(t120:Int):=ko;have cp:t120<(ay.length:Int):=ko;obtain⟨e0,dS,dT⟩:=Kd.at_int (Kd.R_reads' aY.out).2.2 t120 cn cp;cases dS;replace cn:=pM cn;replace cp:=pM cp));go_ret;exact⟨eF,fl.z J,wI HB (fl.ge J.out),kZ HK⟩
def lR.f (a0:Int) (a1:Int) (a2:Int):Option (Bool):=if a0≥a1 then(some (decide (a0≤a2)))else(some false)
theorem lR.calls (a0:Int) (a1:Int) (a2:Int) (r:Bool) (w:World) (h:lR.f a0 a1 a2=some r):
  Calls Tryz.prog 77 #[.int .i64 a0,.int .i64 a1,.int .i64 a2] w fun e w'=>e= .returned (.bool r)∧Drawn0 w w':=by
 have H:=h;clear h;unfold lR.f at H;rcases pP H with⟨cq,H⟩|⟨cq,H⟩
 ·obtain rfl:=pd H;go_enter Tryz.func77,Tryz.ntmps77;go_wp2;go_ret;exact rq
 ·obtain rfl:=pd H;go_enter Tryz.func77,Tryz.ntmps77;go_wp2;go_ret;exact rq
def iv.l0:Nat→Int→LI→Int→Int→Option (Bool)
 |0,_,_,_,_=>none
 |k+1,x0,x1,x5,x6=>if x6<(x1.length:Int)then(if 0≤x6 then((lR.f (rd x1 x6) 0 9).bind fun t124=>(if t124=true then(iv.l0 k x0 x1 (mn x5 (rd x1 x6)) (wrap64 (x6+1)))else(some false)))else(none))else((lR.f x0 1 3).bind fun t126=>(if t126=true then(if 0≤x0 then(if(x1.length:Int)=(shl .i64 1 x0)then(some (x5==0))else(some false))else(none))else(some false)))
def iv.f (k:Nat) (a0:Int) (l1:LI):Option (Bool):=iv.l0 k a0 l1 9 0
theorem iv.hZ:∀k,(∀y0 y1 y2 y3,lS (iv.l0 k y0 y1 y2 y3) (iv.l0 (k+1) y0 y1 y2 y3))
 |0=>fun _ _ _ _=> .z (by simp only[iv.l0])
 |k+1=>by
  have i0:=iv.hZ k;exact fun _ _ _ _=>by unfold iv.l0;infer_instance
instance iv.mo {k a0 a1}:lS (iv.f k a0 a1) (iv.f (k+1) a0 a1):=by have i0:=iv.hZ k;unfold iv.f;infer_instance
theorem iv.calls (k:Nat) (a0:Int) (A1:Option Addr) (c1:Nat) (l1:LI) (r:Bool) (w:World) (bh:Kd.C KI w A1 l1.length l1) (bj:l1.length≤c1) (h:iv.f k a0 l1=some r):
  Calls Tryz.prog 68 #[.int .i64 a0,.slice A1 l1.length c1] w fun e w'=>e= .returned (.bool r)∧Below w.heap.size w w':=by
 have au:=bm bh;have bV:=bm bj;clear bh bj;have HB:=bm (Below.refl w.heap.size w);have H:=h;clear h;unfold iv.f at H;have H':=bm H;clear H;go_enter Tryz.func68,Tryz.ntmps68;go_wp2;go_loopg [5,6] k (fun kq v5 v6 w'=>∃(ab:Int) (I:Int),v5= .int .i64 ab∧v6= .int .i64 I∧hJ (iv.l0 kq a0 l1 ab I=some r)∧hJ (kq≤k)∧hJ (Below w.heap.size w w'))
 case atStart=>exact⟨(9),(0),eA,eA,H',⟨Nat.le_refl _⟩,⟨wZ HB⟩⟩
 case round=>
  clear H';obtain⟨ab,I,rfl,rfl,HA,ao,HB⟩:=hrel;cases gk with
  |zero=>exact absurd HA.out (by simp[iv.l0])
  |succ k1=>
   have H:=HA.out;clear HA;simp only[iv.l0]at H;rcases pP H with⟨bD,H⟩|⟨bD,H⟩
   ·obtain⟨cq,H⟩:=pN H;obtain⟨t124,A5,H⟩:=bE H;try dsimp only at H
    by_cases c6:t124=true
    ·subst c6;rw[if_pos rfl]at H;obtain⟨dU,bk⟩:∃j_:Int,(mn ab (rd l1 I))=j_:=⟨_,rfl⟩;first|rw[bk]at H|simp only[bk]at H
     (try rw[bk]at A5);have e1:(if(rd l1 I)<ab then(rd l1 I)else ab)=dU:=bk;have H':=bm H;clear H;have aA:0≤(I:Int):=ko;have aC:I<(l1.length:Int):=ko;obtain⟨cr,ct,ae⟩:=Kd.at_int au.out I aA aC;cases ct;replace ae:=pE HB ae;replace aA:=pM aA;replace aC:=pM aC;go_wp2_with (first|(refine gB (some 17) Tryz.func77 #[.int .i64 (rd l1 I),.int .i64 0,.int .i64 9] rfl ?_;(refine(lR.calls (rd l1 I) 0 9 true _ A5.out).mono ?_);rintro e w' ⟨rfl,⟨nd,rfl⟩⟩;refine⟨_,rfl,?_⟩;have cu:0≤(I:Int):=ko;have cv:I<(l1.length:Int):=ko;obtain⟨dd,dV,aD⟩:=Kd.at_int au.out I cu cv;obtain rfl:cr=dd:=(by injection dV);replace aD:=pE HB aD;replace cu:=pM cu;replace cv:=pM cv));go_roundg k1
     case measure=>have:=ao.out;omega
     case rel=>exact⟨(dU),(wrap64 (I+1)),(by first|rfl|(simp;done)|(simp only[←bk]<;>(first|rfl|simp))|(simp[*];done)),eA,H',⟨by have:=ao.out;omega⟩,⟨wZ HB⟩⟩
    ·replace c6:=pD c6;subst c6;rw[if_neg pV]at H;obtain rfl:=pd H;have aA:0≤(I:Int):=ko;have aC:I<(l1.length:Int):=ko;obtain⟨cr,ct,ae⟩:=Kd.at_int au.out I aA aC;cases ct;replace ae:=pE HB ae;replace aA:=pM aA;replace aC:=pM aC;go_wp2_with (first|(refine gB (some 17) Tryz.func77 #[.int .i64 (rd l1 I),.int .i64 0,.int .i64 9] rfl ?_;(refine(lR.calls (rd l1 I) 0 9 false _ A5.out).mono ?_);rintro e w' ⟨rfl,⟨nd,rfl⟩⟩;refine⟨_,rfl,?_⟩));go_ret;exact⟨eF,wZ HB⟩
   ·obtain⟨t126,A8,H⟩:=bE H;try dsimp only at H
    by_cases c9:t126=true
    ·subst c9;rw[if_pos rfl]at H;obtain⟨b4,e2,H⟩:=pO H;obtain⟨al,aq⟩:∃j_:Int,(shl .i64 1 a0)=j_:=⟨_,rfl⟩;first|rw[aq]at H|simp only[aq]at H
     (try rw[aq]at A8);have bJ:(IntKind.i64.wrap (1*2^min a0.toNat 64))=al:=aq;have bO:a0≤64→(IntKind.i64.wrap (1*2^a0.toNat))=al:=shl_small aq;have eE:(IntKind.i64.wrap (2^min a0.toNat 64))=al:=by have h_:=bJ;rw[Int.one_mul]at h_;exact h_
     have eG:a0≤64→(IntKind.i64.wrap (2^a0.toNat))=al:=fun cw=>by have h_:=bO cw;rw[Int.one_mul]at h_;exact h_
     have eH:(wrap64 (1*2^min a0.toNat 64))=al:=(i64_w _).symm.trans bJ;have eI:a0≤64→(wrap64 (1*2^a0.toNat))=al:=fun h_=>(i64_w _).symm.trans (bO h_)
     rcases iT H with⟨av,H⟩|⟨av,H⟩
     ·obtain⟨bw,de⟩:=pf av;clear av;obtain rfl:=pd H;go_wp2_with (first|(refine gB (some 26) Tryz.func77 #[.int .i64 a0,.int .i64 1,.int .i64 3] rfl ?_;(refine(lR.calls a0 1 3 true _ A8.out).mono ?_);rintro e w' ⟨rfl,⟨nd,rfl⟩⟩;refine⟨_,rfl,?_⟩));go_ret;exact⟨by first|rfl|(simp[iJ,iK]<;>rfl)|(simp only[←aq];first|rfl|(simp[iJ,iK]<;>rfl))|(simp[*,iJ,iK]<;>rfl),wZ HB⟩
     ·obtain⟨bw,de⟩:=pe av;obtain rfl:=pd H;go_wp2_with (first|(refine gB (some 26) Tryz.func77 #[.int .i64 a0,.int .i64 1,.int .i64 3] rfl ?_;(refine(lR.calls a0 1 3 true _ A8.out).mono ?_);rintro e w' ⟨rfl,⟨nd,rfl⟩⟩;refine⟨_,rfl,?_⟩));go_ret;exact⟨by first|rfl|(simp[iJ,iK]<;>rfl)|(simp only[←aq];first|rfl|(simp[iJ,iK]<;>rfl))|(simp[*,iJ,iK]<;>rfl),wZ HB⟩
    ·replace c9:=pD c9;subst c9;rw[if_neg pV]at H;obtain rfl:=pd H;go_wp2_with (first|(refine gB (some 26) Tryz.func77 #[.int .i64 a0,.int .i64 1,.int .i64 3] rfl ?_;(refine(lR.calls a0 1 3 false _ A8.out).mono ?_);rintro e w' ⟨rfl,⟨nd,rfl⟩⟩;refine⟨_,rfl,?_⟩));go_ret;exact⟨eF,wZ HB⟩
mutual
def gA.l0:Nat→Int→LI→LI→Int→Option LI
 |0,_,_,_,_=>none
 |k+1,x0,x1,x5,x6=>if x6<(x1.length:Int)then((iv.f k x0 x1).bind fun t130=>(gA.j1 k x0 x1 x5 x6 t130))else(gA.j1 k x0 x1 x5 x6 false)
def gA.j1:Nat→Int→LI→LI→Int→Bool→Option LI
 |0,_,_,_,_,_=>none
 |k+1,x0,x1,x5,x6,x20=>if x20=true then(gA.l1 k x0 x1 x5 x6 0 0)else(some x5)
def gA.l1:Nat→Int→LI→LI→Int→Int→Int→Option LI
 |0,_,_,_,_,_,_=>none
 |k+1,x0,x1,x5,x6,x7,x8=>if 0≤x6 then(if x6<(x1.length:Int)then(if x8<(rd x1 x6)then(gA.l2 k x0 x1 x5 x6 x7 x8 false 0)else(if x5.length<17592186044416 then(gA.l0 k x0 x1 (x5++ [x7]) (wrap64 (x6+1)))else(none)))else(none))else(none)
def gA.l2:Nat→Int→LI→LI→Int→Int→Int→Bool→Int→Option LI
 |0,_,_,_,_,_,_,_,_=>none
 |k+1,x0,x1,x5,x6,x7,x8,x9,x10=>if x10<(x1.length:Int)then(if x9=true then(gA.l2 k x0 x1 x5 x6 x7 x8 true (wrap64 (x10+1)))else(if 0≤x10 then(gA.l2 k x0 x1 x5 x6 x7 x8 ((rd x1 x10)==x8) (wrap64 (x10+1)))else(none)))else(if x9=true then(gA.l1 k x0 x1 x5 x6 (wrap64 (x7+1)) (wrap64 (x8+1)))else(gA.l1 k x0 x1 x5 x6 x7 (wrap64 (x8+1))))
end
def gA.f (k:Nat) (a0:Int) (l1:LI):Option LI:=gA.l0 k a0 l1 (([]:LI)) 0
theorem gA.hZ:∀k,(∀y0 y1 y2 y3,lS (gA.l0 k y0 y1 y2 y3) (gA.l0 (k+1) y0 y1 y2 y3))∧(∀y0 y1 y2 y3 y4,lS (gA.j1 k y0 y1 y2 y3 y4) (gA.j1 (k+1) y0 y1 y2 y3 y4))∧(∀y0 y1 y2 y3 y4 y5,lS (gA.l1 k y0 y1 y2 y3 y4 y5) (gA.l1 (k+1) y0 y1 y2 y3 y4 y5))∧(∀y0 y1 y2 y3 y4 y5 y6 y7,lS (gA.l2 k y0 y1 y2 y3 y4 y5 y6 y7) (gA.l2 (k+1) y0 y1 y2 y3 y4 y5 y6 y7))
 |0=>⟨fun _ _ _ _=> .z (by simp only[gA.l0]),fun _ _ _ _ _=> .z (by simp only[gA.j1]),fun _ _ _ _ _ _=> .z (by simp only[gA.l1]),fun _ _ _ _ _ _ _ _=> .z (by simp only[gA.l2])⟩
 |k+1=>by
  have⟨i0,i1,i2,i3⟩:=gA.hZ k;exact⟨fun _ _ _ _=>by unfold gA.l0;infer_instance,fun _ _ _ _ _=>by unfold gA.j1;infer_instance,fun _ _ _ _ _ _=>by unfold gA.l1;infer_instance,fun _ _ _ _ _ _ _ _=>by unfold gA.l2;infer_instance⟩
instance gA.mo {k a0 a1}:lS (gA.f k a0 a1) (gA.f (k+1) a0 a1):=by have⟨i0,i1,i2,i3⟩:=gA.hZ k;unfold gA.f;infer_instance
theorem gA.calls (k:Nat) (a0:Int) (A1:Option Addr) (c1:Nat) (l1:LI) (r:LI) (w:World) (bh:Kd.C KI w A1 l1.length l1) (bj:l1.length≤c1) (h:gA.f k a0 l1=some r):
  Calls Tryz.prog 69 #[.int .i64 a0,.slice A1 l1.length c1] w fun e w'=>∃dW:Value,e= .returned (dW)∧Kd.R KI 3 w' w.heap.size (fun _=>True) dW r∧Below w.heap.size w w':=by
 have au:=bm bh;have bV:=bm bj;clear bh bj;have HB:=bm (Below.refl w.heap.size w);have H:=h;clear h;unfold gA.f at H;obtain⟨cL,bx⟩:∃y_:LI,y_=(([]:LI)):=⟨_,rfl⟩;replace H:(gA.l0 k a0 l1 cL 0)=some r:=by first|(rw[bx];exact H)|exact H
 have cx:=bm bx;clear bx;have H':=bm H;clear H;go_enter Tryz.func69,Tryz.ntmps69;go_wp2_with (first|((with_reducible refine gate_dst (N:=11) rfl ?_);refine Kd.R_lit KI _ 3 ?hg (N:=11) ?hd (xs:=([]:LI)) (inner:=[]) (ok:=fun _=>True) (okp:=fun _=>True) ?hr ?hp (fun _ hk=>hk) trivial (Below.refl _ _) (Nat.le_refl _) (by simp) ?_;(case hd=>rfl);(case hg=>rfl);(case hr=>first|(go_simp;done)|(go_simp;rfl));(case hp=>exact(Reps.none _ _));intro _ _ cy hb cj az;clear cj az;(first|rw[←cx.out]at cy|(simp only[Int.reduceToNat]at cy;rw[←cx.out]at cy));have df:=rL cy HB;replace HB:=bW HB hb;clear hb cy));go_loopg [5,6] k (fun kq v5 v6 w'=>∃(ab:LI) (I:Int),v6= .int .i64 I∧hJ (gA.l0 kq a0 l1 ab I=some r)∧hJ (kq≤k)∧hJ (Kd.R KI 3 w' w.heap.size (fun _=>True) v5 ab)∧hJ (Below w.heap.size w w'))
 case atStart=>exact⟨(cL),(0),eA,H',⟨Nat.le_refl _⟩,⟨rS df⟩,⟨wZ HB⟩⟩
 case round=>
  clear H';obtain⟨ab,I,rfl,HA,ao,oT,HB⟩:=hrel;cases gk with
  |zero=>exact absurd HA.out (by simp[gA.l0])
  |succ k1=>
   have H:=HA.out;clear HA;simp only[gA.l0]at H;have dg:=bm H;clear H;go_upto_region 3 with(fail)
   go_cut [20] (fun v20 wc=>∃(kq:Nat) (aZ:Bool),v20= .bool aZ∧hJ (gA.j1 kq a0 l1 ab I aZ=some r)∧hJ (kq≤k1)∧hJ (Kd.R KI 3 wc w.heap.size (fun _=>True) u5 ab)∧hJ (Below w.heap.size w wc))
   case first=>
    have H:=dg.out;clear dg;rcases pP H with⟨aQ,H⟩|⟨aQ,H⟩
    ·(first|rw[aQ]|(simp only[i64_w,i32_w];rw[aQ])|skip);obtain⟨t130,A7,H⟩:=bE H;try dsimp only at H
     have H':=bm H;clear H;go_wp2_with (first|(go_at_call 68;(with_reducible refine(iv.calls k1 a0 _ _ l1 t130 _ ?_ ?_ A7.out).mono ?_);exact cY au HB;exact bV.out;rintro e _ ⟨rfl,hb⟩;replace oT:=bR oT hb;replace HB:=bW HB hb;clear hb));go_meet
     case rel=>exact⟨_,(t130),eA,H',⟨by have:=ao.out;first|omega|exact Nat.le_refl _⟩,⟨rS oT⟩,⟨wZ HB⟩⟩
    ·(first|rw[aQ]|(simp only[i64_w,i32_w];rw[aQ])|skip);have H':=bm H;clear H;go_wp2;go_meet
     case rel=>exact⟨_,(false),eA,H',⟨by have:=ao.out;first|omega|exact Nat.le_refl _⟩,⟨rS oT⟩,⟨wZ HB⟩⟩
   case rest=>
    clear dg;obtain⟨kq,aZ,rfl,HA,aM,oT,HB⟩:=hcut;cases kq with
    |zero=>exact absurd HA.out (by simp[gA.j1])
    |succ uR=>
     have H:=HA.out;clear HA;simp only[gA.j1]at H;by_cases c9:aZ=true
     ·subst c9;rw[if_pos rfl]at H;have H':=bm H;clear H;go_wp2;go_loopg [7,8] uR (fun kq v7 v8 w'=>∃(ar:Int) (aE:Int),v7= .int .i64 ar∧v8= .int .i64 aE∧hJ (gA.l1 kq a0 l1 ab I ar aE=some r)∧hJ (kq≤uR)∧hJ (Kd.R KI 3 w' w.heap.size (fun _=>True) u5 ab)∧hJ (Below w.heap.size w w'))
      case atStart=>exact⟨(0),(0),eA,eA,H',⟨Nat.le_refl _⟩,⟨rS oT⟩,⟨wZ HB⟩⟩
      case round=>
       clear H';obtain⟨ar,aE,rfl,rfl,HA,aN,oT,HB⟩:=hrel;cases gk with
       |zero=>exact absurd HA.out (by simp[gA.l1])
       |succ k3=>
        have H:=HA.out;clear HA;simp only[gA.l1]at H;obtain⟨b4,H⟩:=pN H;obtain⟨cV,H⟩:=pN H;rcases pP H with⟨bw,H⟩|⟨bw,H⟩
        ·have H':=bm H;clear H;have aG:0≤(I:Int):=ko;have aH:I<(l1.length:Int):=ko;obtain⟨cz,cA,af⟩:=Kd.at_int au.out I aG aH;cases cA;replace af:=pE HB af;replace aG:=pM aG;replace aH:=pM aH;go_wp2;go_loopg [9,10] k3 (fun kq v9 v10 w'=>∃(bl:Bool) (aj:Int),v9= .bool bl∧v10= .int .i64 aj∧hJ (gA.l2 kq a0 l1 ab I ar aE bl aj=some r)∧hJ (kq≤k3)∧hJ (Kd.R KI 3 w' w.heap.size (fun _=>True) u5 ab)∧hJ (Below w.heap.size w w'))
         case atStart=>exact⟨(false),(0),eA,eA,H',⟨Nat.le_refl _⟩,⟨rS oT⟩,⟨wZ HB⟩⟩
         case round=>
          clear H';obtain⟨bl,aj,rfl,rfl,HA,bn,oT,HB⟩:=hrel;cases gk with
          |zero=>exact absurd HA.out (by simp[gA.l2])
          |succ k4=>
           have H:=HA.out;clear HA;simp only[gA.l2]at H;rcases pP H with⟨b8,H⟩|⟨b8,H⟩
           ·by_cases bu:bl=true
            ·subst bu;rw[if_pos rfl]at H;have H':=bm H;clear H;go_wp2;go_roundg k4
             case measure=>have:=ao.out;have:=aM.out;have:=aN.out;have:=bn.out;omega
             case rel=>exact⟨(true),(wrap64 (aj+1)),eA,eA,H',⟨by have:=ao.out;have:=aM.out;have:=aN.out;have:=bn.out;omega⟩,⟨rS oT⟩,⟨wZ HB⟩⟩
            ·replace bu:=pD bu;subst bu;rw[if_neg pV]at H;obtain⟨ca,H⟩:=pN H;have H':=bm H;clear H;have cB:0≤(aj:Int):=ko;have cC:aj<(l1.length:Int):=ko;obtain⟨dh,dX,aI⟩:=Kd.at_int au.out aj cB cC;obtain rfl:cz=dh:=(by injection dX);replace aI:=pE HB aI;replace cB:=pM cB;replace cC:=pM cC;go_wp2;go_roundg k4
             case measure=>have:=ao.out;have:=aM.out;have:=aN.out;have:=bn.out;omega
             case rel=>exact⟨(((rd l1 aj)==aE)),(wrap64 (aj+1)),eA,eA,H',⟨by have:=ao.out;have:=aM.out;have:=aN.out;have:=bn.out;omega⟩,⟨rS oT⟩,⟨wZ HB⟩⟩
           ·by_cases br:bl=true
            ·subst br;rw[if_pos rfl]at H;have H':=bm H;clear H;go_wp2;go_roundg k4
             case measure=>have:=ao.out;have:=aM.out;have:=aN.out;have:=bn.out;omega
             case rel=>exact⟨(wrap64 (ar+1)),(wrap64 (aE+1)),eA,eA,H',⟨by have:=ao.out;have:=aM.out;have:=aN.out;have:=bn.out;omega⟩,⟨rS oT⟩,⟨wZ HB⟩⟩
            ·replace br:=pD br;subst br;rw[if_neg pV]at H;have H':=bm H;clear H;go_wp2;go_roundg k4
             case measure=>have:=ao.out;have:=aM.out;have:=aN.out;have:=bn.out;omega
             case rel=>exact⟨(ar),(wrap64 (aE+1)),eA,eA,H',⟨by have:=ao.out;have:=aM.out;have:=aN.out;have:=bn.out;omega⟩,⟨rS oT⟩,⟨wZ HB⟩⟩
        ·obtain⟨dY,H⟩:=iN H;have di:=bm dY;clear dY;obtain⟨cM,bA⟩:∃y_:LI,y_=(ab++ [ar]):=⟨_,rfl⟩;rw[←bA]at H
         have dj:=bm bA;clear bA;have H':=bm H;clear H;have aG:0≤(I:Int):=ko;have aH:I<(l1.length:Int):=ko;obtain⟨cz,cA,af⟩:=Kd.at_int au.out I aG aH;cases cA;replace af:=pE HB af;replace aG:=pM aG;replace aH:=pM aH;go_wp2_with (first|((with_reducible refine gate_builtin (b:=.append) (xs:= #[.tmp 49,.tmp 51]) rfl ?_);at_builtin;refine Kd.R_append KI (w0:=w) w.heap.size rfl (.tmp 49) (.tmp 51) 23 3 (.int .i64 0) 8 rfl Tryz.underlying23 info3 rfl (by decide) (by omega) u5 ab ar [.int .i64 ar] (fun _=>True) (fun _=>False) rfl rfl ?aP (fun _ hk=>hk.elim) ?aF ?aO ?aB ?aS ?aL ?_;(case aP=>exact rfl);(case aB=>exact(wZ HB));(case aF=>exact(fun _ _=>trivial));(case aO=>exact(rS oT));(case aS=>exact(below_size (wZ HB)));(case aL=>have:=di.out;omega);intro _ _ ho hb hg e3;rw[←dj.out]at ho;replace HB:=bm (hb);have dk:=bm (ho);clear oT;clear ho hb hg e3));go_roundg k3
         case measure=>have:=ao.out;have:=aM.out;have:=aN.out;omega
         case rel=>exact⟨(cM),(wrap64 (I+1)),eA,H',⟨by have:=ao.out;have:=aM.out;have:=aN.out;omega⟩,⟨rS dk⟩,⟨wZ HB⟩⟩
     ·replace c9:=pD c9;subst c9;rw[if_neg pV]at H;obtain rfl:=pd H;go_wp2;go_ret;exact⟨_,eF,by(repeat apply Kd.RS);exact oT.out,wZ HB⟩
def pb.f (k:Nat) (a0:Int) (l1:LI):Option (Int×LI×LL):=(iv.f k a0 l1).bind fun t137=>(if t137=true then((gA.f k a0 l1).bind fun t138=>(some (a0,t138,([]:LL))))else(some (0,([]:LI),([]:LL))))
instance pb.mo {k a0 a1}:lS (pb.f k a0 a1) (pb.f (k+1) a0 a1):=by unfold pb.f;infer_instance
theorem pb.calls (k:Nat) (a0:Int) (A1:Option Addr) (c1:Nat) (l1:LI) (r1:Int) (r2:LI) (r3:LL) (w:World) (bh:Kd.C KI w A1 l1.length l1) (bj:l1.length≤c1) (h:pb.f k a0 l1=some (r1,r2,r3)):
  Calls Tryz.prog 46 #[.int .i64 a0,.slice A1 l1.length c1] w fun e w'=>∃dm dZ:Value,e= .returned (.agg #[.int .i64 r1,dm,dZ])∧Kd.R KI 3 w' w.heap.size (fun _=>True) dm r2∧Kd.S KS 23 w' w.heap.size (fun k_=>some k_≠(dm:Value).ownBlock) dZ r3∧Below w.heap.size w w':=by
 have fo:=Tryz.underlying26;have au:=bm bh;have bV:=bm bj;clear bh bj;have HB:=bm (Below.refl w.heap.size w);have H:=h;clear h;unfold pb.f at H;obtain⟨t137,A3,H⟩:=bE H;try dsimp only at H
 by_cases c4:t137=true
 subst c4;rw[if_pos rfl]at H;obtain⟨t138,A5,H⟩:=bE H;try dsimp only at H
 obtain⟨rfl,rfl,rfl⟩:=s3 H
 rotate_left
 replace c4:=pD c4;subst c4;rw[if_neg pV]at H;obtain⟨rfl,rfl,rfl⟩:=s3 H
 rotate_left
 all_goals(go_enter Tryz.func46,Tryz.ntmps46;go_wp2_with (first|(refine re 4 #[.int .i64 0,.slice none 0 0,.slice none 0 0] 26 ?_;intro bB hg _ ak hb;have ag:=bm (ak);have dn:=bG HB hg;replace HB:=bW HB hb;clear hb ak hg)|(refine gB (some 7) Tryz.func68 #[.int .i64 a0,.slice A1 l1.length c1] rfl ?_;(refine(iv.calls k a0 _ _ l1 true _ ?_ ?_ A3.out).mono ?_);exact cY au HB;exact bV.out;rintro e _ ⟨rfl,hb⟩;refine⟨_,rfl,?_⟩;replace ag:=bU ag hb;replace HB:=bW HB hb;clear hb)|(refine gB (some 13) Tryz.func69 #[.int .i64 a0,.slice A1 l1.length c1] rfl ?_;(refine(gA.calls k a0 _ _ l1 t138 _ ?_ ?_ A5.out).mono ?_);exact cY au HB;exact bV.out;rintro e _ ⟨_,rfl,ea,hb⟩;refine⟨_,rfl,?_⟩;have cD:=rL ea HB;replace ag:=bU ag hb;replace HB:=bW HB hb;clear hb;(try clear ea);obtain⟨e4,e5,e6⟩:=Kd.R_slice cD.out;subst e6;obtain⟨_,_,_,_,_,_⟩:=b3 ag)|(refine gB (some 7) Tryz.func68 #[.int .i64 a0,.slice A1 l1.length c1] rfl ?_;(refine(iv.calls k a0 _ _ l1 false _ ?_ ?_ A3.out).mono ?_);exact cY au HB;exact bV.out;rintro e _ ⟨rfl,hb⟩;refine⟨_,rfl,?_⟩;replace ag:=bU ag hb;replace HB:=bW HB hb;clear hb;obtain⟨_,_,_,_,_,_⟩:=b3 ag)))
 ·refine bodyPost_ret (results_cell_row rfl _ _ bB 26 #[.int .i64 a0,.slice e4 t138.length e5,.slice none 0 0] (0,0) _ rfl (kP ag) Tryz.underlying26 rfl (by kernel_rfl)) rfl ?_;exact⟨_,_,eF,rT cD,by first|exact Kd.S_nil _ _ _ _ _|exact Kd.N_nil _ _ _ _ _|exact Kd.V_nil _ _ _ _ _|exact Kd.Q_nil _ _ _ _ _|exact Kd.R_nil _ _ _ _ _,wZ HB⟩
 ·refine bodyPost_ret (results_cell_row rfl _ _ bB 26 #[.int .i64 0,.slice none 0 0,.slice none 0 0] (0,0) _ rfl (kP ag) Tryz.underlying26 rfl (by kernel_rfl)) rfl ?_;exact⟨_,_,eF,by first|exact Kd.R_nil _ _ _ _ _|exact Kd.N_nil _ _ _ _ _|exact Kd.V_nil _ _ _ _ _|exact Kd.Q_nil _ _ _ _ _|exact Kd.S_nil _ _ _ _ _,by first|exact Kd.S_nil _ _ _ _ _|exact Kd.N_nil _ _ _ _ _|exact Kd.V_nil _ _ _ _ _|exact Kd.Q_nil _ _ _ _ _|exact Kd.R_nil _ _ _ _ _,wZ HB⟩
def qx.f (a0:Int):Option (Int):=(lR.f a0 1 3).bind fun t141=>(if t141=true then(if 0≤a0 then(some (shl .i64 1 a0))else(none))else(some (-1)))
theorem qx.calls (a0:Int) (r:Int) (w:World) (h:qx.f a0=some r):
  Calls Tryz.prog 76 #[.int .i64 a0] w fun e w'=>e= .returned (.int .i64 r)∧Drawn0 w w':=by
 have H:=h;clear h;unfold qx.f at H;obtain⟨t141,A2,H⟩:=bE H;try dsimp only at H
 by_cases c3:t141=true
 ·subst c3;rw[if_pos rfl]at H;obtain⟨cq,fp,H⟩:=pO H;obtain⟨bZ,aR⟩:∃j_:Int,(shl .i64 1 a0)=j_:=⟨_,rfl⟩;first|rw[aR]at H|simp only[aR]at H
  (try rw[aR]at A2);have cE:(IntKind.i64.wrap (1*2^min a0.toNat 64))=bZ:=aR;have cF:a0≤64→(IntKind.i64.wrap (1*2^a0.toNat))=bZ:=shl_small aR;have e7:(IntKind.i64.wrap (2^min a0.toNat 64))=bZ:=by have h_:=cE;rw[Int.one_mul]at h_;exact h_
  have e8:a0≤64→(IntKind.i64.wrap (2^a0.toNat))=bZ:=fun cw=>by have h_:=cF cw;rw[Int.one_mul]at h_;exact h_
  have e9:(wrap64 (1*2^min a0.toNat 64))=bZ:=(i64_w _).symm.trans cE;have fa:a0≤64→(wrap64 (1*2^a0.toNat))=bZ:=fun h_=>(i64_w _).symm.trans (cF h_)
  obtain rfl:=pd H;go_enter Tryz.func76,Tryz.ntmps76;go_wp2_with (first|(refine gB (some 4) Tryz.func77 #[.int .i64 a0,.int .i64 1,.int .i64 3] rfl ?_;(refine(lR.calls a0 1 3 true _ A2.out).mono ?_);rintro e w' ⟨rfl,⟨nd,rfl⟩⟩;refine⟨_,rfl,?_⟩));go_ret;exact⟨by first|rfl|(simp;done)|(simp only[←aR]<;>(first|rfl|simp))|(simp[*];done),by repeat(first|exact Drawn0.refl _|apply Drawn0.step)⟩
 ·replace c3:=pD c3;subst c3;rw[if_neg pV]at H;obtain rfl:=pd H;go_enter Tryz.func76,Tryz.ntmps76;go_wp2_with (first|(refine gB (some 4) Tryz.func77 #[.int .i64 a0,.int .i64 1,.int .i64 3] rfl ?_;(refine(lR.calls a0 1 3 false _ A2.out).mono ?_);rintro e w' ⟨rfl,⟨nd,rfl⟩⟩;refine⟨_,rfl,?_⟩));go_ret;exact rq
end Go.Proofs.YtigeaokfhnlkcaaGreatDoor.P
