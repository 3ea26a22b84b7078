import Derived.Test.YtihgpkohglcijaaGreatDoorPx0
import Derived.Test.YtihgpkohglcijaaGreatDoorPx2
namespace Go.Proofs.YtihgpkohglcijaaGreatDoor.P
open Go.RowKit YtihgpkohglcijaaGreatDoorW PrintWords PrintLast PrintMore
attribute [local go_sem] max2_int min2_int max_two min_two max_three min_three max_four min_four
set_option linter.unusedVariables false
set_option linter.unusedSimpArgs false
set_option maxHeartbeats 8000000
set_option maxRecDepth 100000
def fA.j0:Nat→Int→Bool→List Int→Int→Option (Int×Int)
 |0,_,_,_,_=>none
 |k+1,x1,x24,x1000,mC=>if x24=true then(some (0,mC))else(if(wrap64 (mC - 1))<(x1000.length:Int)then(if 0≤(wrap64 (mC - 1))then(if x1=0 then(none)else(some (Int.tmod (wrap64 (rd x1000 (wrap64 (mC - 1)))) x1,mC)))else(none))else(if(x1000.length:Int)=0 then(none)else(if 0≤(Int.tmod (wrap64 (mC - 1)) (x1000.length:Int))then(if(Int.tmod (wrap64 (mC - 1)) (x1000.length:Int))<(x1000.length:Int)then(if 0≤(Int.tmod (wrap64 ((wrap64 ((wrap64 (mC - 1))*7))+3)) (x1000.length:Int))then(if(Int.tmod (wrap64 ((wrap64 ((wrap64 (mC - 1))*7))+3)) (x1000.length:Int))<(x1000.length:Int)then(if x1=0 then(none)else(some (Int.tmod (Go.bits .xor .i64 (wrap64 ((wrap64 ((wrap64 ((wrap64 ((wrap64 (rd x1000 (Int.tmod (wrap64 (mC - 1)) (x1000.length:Int))))*131))+(wrap64 ((wrap64 (rd x1000 (Int.tmod (wrap64 ((wrap64 ((wrap64 (mC - 1))*7))+3)) (x1000.length:Int))))*1117))))+(wrap64 ((wrap64 (mC - 1))*29))))+(wrap64 ((wrap64 (Int.tdiv (wrap64 (mC - 1)) (x1000.length:Int)))*53)))) (wrap64 (Int.tdiv (wrap64 ((wrap64 ((wrap64 ((wrap64 ((wrap64 (rd x1000 (Int.tmod (wrap64 (mC - 1)) (x1000.length:Int))))*131))+(wrap64 ((wrap64 (rd x1000 (Int.tmod (wrap64 ((wrap64 ((wrap64 (mC - 1))*7))+3)) (x1000.length:Int))))*1117))))+(wrap64 ((wrap64 (mC - 1))*29))))+(wrap64 ((wrap64 (Int.tdiv (wrap64 (mC - 1)) (x1000.length:Int)))*53)))) 64))) x1,mC)))else(none))else(none))else(none))else(none))))
def fA.f (k:Nat) (j:List Int) (I:Int) (a1:Int):Option (Int×Int):=if a1<1 then(fA.j0 k a1 true j (wrap64 (I+1)))else(fA.j0 k a1 ((j.length:Int)==0) j (wrap64 (I+1)))
theorem fA.gF:∀k,(∀y0 y1 y2 y3,ku (fA.j0 k y0 y1 y2 y3) (fA.j0 (k+1) y0 y1 y2 y3))
 |0=>fun _ _ _ _=> .z (by simp only[fA.j0])
 |k+1=>by
  have i0:=fA.gF k;exact fun _ _ _ _=>by unfold fA.j0;infer_instance
instance fA.mo {k a0 a1 a2}:ku (fA.f k a0 a1 a2) (fA.f (k+1) a0 a1 a2):=by have i0:=fA.gF k;unfold fA.f;infer_instance
theorem fA.calls (k:Nat) (g:Nat) (j:List Int) (I:Int) (a1:Int) (r1:Int) (r2:Int) (w0 w:World) (hI:fp w0 w g j I) (hB:Below w0.heap.size w0 w) (h:fA.f k j I a1=some (r1,r2)):
  Calls Tryz.prog 68 #[.pointer (some ⟨g,0,none⟩),.int .i64 a1] w fun e w'=>e= .returned (.int .i64 r1)∧fp w0 w' g j r2∧Below w0.heap.size w0 w'∧jZ w w' g none:=by
 have o:=bm hI;have HK:=bm (jZ.refl w g none);have HL:=bm hB.size;clear hI;have bA:=bm hB.size;have HB:=bm hB;clear hB;have H:=h;clear h;unfold fA.f at H;have bj:=bm H;clear H;obtain⟨cG,cH,aI,bB,cI⟩:=o.out;have cJ:=qi aI;have cK:=qj aI;have cL:=nA aI 1;clear aI bB;go_enter Tryz.func68,Tryz.ntmps68;go_upto_region 2 with(fail)
 repeat(go_quiet (fail);go_upto_region 2 with(fail))
 go_cut [24] (fun v24 wc=>∃(kq:Nat) (ak:Bool),v24= .bool ak∧gm (fA.j0 kq a1 ak j (wrap64 (I+1))=some (r1,r2))∧gm (kq≤k)∧gm (fp w0 wc g j (wrap64 (I+1)))∧gm (jZ w wc g none)∧gm (Below w0.heap.size w0 wc))
 case first=>
  have H:=bj.out;clear bj;rcases vL H with⟨ar,H⟩|⟨ar,H⟩
  ·(first|rw[ar]|(simp only[i64_w,i32_w];rw[ar])|skip);have H':=bm H;clear H;go_wp2;repeat(go_quiet (fail);try go_wp2)
   go_meet
   case rel=>exact⟨_,(true),(by first|rfl|(simp;done)|(simp[*];done)),H',⟨by first|omega|exact Nat.le_refl _⟩,⟨fp.z o⟩,⟨kZ HK⟩,⟨wI HB (fp.ge o.out)⟩⟩
  ·(first|rw[ar]|(simp only[i64_w,i32_w];rw[ar])|skip);have H':=bm H;clear H;obtain⟨cM,cN,aJ,bD,cO⟩:=o.out;have cP:=qi aJ;have cQ:=qj aJ;have cR:=nA aJ 1;clear aJ bD;go_wp2;repeat(go_quiet (fail);try go_wp2)
   go_meet
   case rel=>exact⟨_,(((j.length:Int)==0)),(by first|rfl|(simp;done)|(simp[*];done)),H',⟨by first|omega|exact Nat.le_refl _⟩,⟨fp.z o⟩,⟨kZ HK⟩,⟨wI HB (fp.ge o.out)⟩⟩
 case rest=>
  clear bj;obtain⟨kq,ak,rfl,HA,dH,o,HK,HB⟩:=hcut;cases kq with
  |zero=>exact absurd HA.out (by simp[fA.j0])
  |succ Aa=>
   have H:=HA.out;clear HA;simp only[fA.j0]at H;by_cases c7:ak=true
   ·subst c7;rw[if_pos rfl]at H;obtain⟨rfl,rfl⟩:=s2 H;go_wp2;repeat(go_quiet (fail);try go_wp2)
    go_ret;exact⟨by first|rfl|(simp[*,fM,fN]<;>rfl),fp.z o,wI HB (fp.ge o.out),kZ HK⟩
   ·replace c7:=uZ c7;subst c7;rw[if_neg vR]at H;rcases vL H with⟨bh,H⟩|⟨bh,H⟩
    ·obtain⟨bf,au⟩:∃j_:Int,(wrap64 ((wrap64 (I+1)) - 1))=j_:=⟨_,rfl⟩;first|rw[au]at H|simp only[au]at H
     (try rw[au]at bh);have cS:(IntKind.i64.wrap ((wrap64 (I+1)) - 1))=bf:=(i64_w _).trans au;obtain⟨cT,H⟩:=vJ H;rcases iT H with⟨bk,H⟩|⟨bk,H⟩
     ·exact absurd H (by simp)
     ·obtain⟨cU,cV⟩:=vk bk;obtain⟨rfl,rfl⟩:=s2 H;obtain⟨bF,bH,al,bl,aN⟩:=o.out;have bJ:=qi al;have bO:=qj al;have bT:=nA al 1;clear al bl;have aO:0≤((bf):Int):=jK;have aP:(bf)<(j.length:Int):=jK;obtain⟨cW,bV,av⟩:=Kd.at_int aN (bf) aO aP;cases bV;replace av:=pw_cell_below HB.out av;replace aO:=vI aO;replace aP:=vI aP;go_wp2;repeat(go_quiet (fail);try go_wp2)
      go_ret;exact⟨by first|rfl|(simp[fM,fN]<;>rfl)|(simp only[←au];first|rfl|(simp[fM,fN]<;>rfl))|(simp[*,fM,fN]<;>rfl),fp.z o,wI HB (fp.ge o.out),kZ HK⟩
    ·rcases iT H with⟨bg,H⟩|⟨bg,H⟩
     ·exact absurd H (by simp)
     ·obtain⟨cX,c0⟩:=vk bg;have da:¬(j= []):=fun h_=>bg (by rw[h_];rfl)
      obtain⟨aQ,aE⟩:∃j_:Int,(Int.tmod (wrap64 ((wrap64 (I+1)) - 1)) (j.length:Int))=j_:=⟨_,rfl⟩;first|rw[aE]at H|simp only[aE]at H
      obtain⟨bn,H⟩:=vJ H;obtain⟨db,H⟩:=vJ H;obtain⟨aS,aF⟩:∃j_:Int,(Int.tmod (wrap64 ((wrap64 ((wrap64 ((wrap64 (I+1)) - 1))*7))+3)) (j.length:Int))=j_:=⟨_,rfl⟩;first|rw[aF]at H|simp only[aF]at H
      obtain⟨dc,H⟩:=vJ H;obtain⟨dd,H⟩:=vJ H;rcases iT H with⟨bo,H⟩|⟨bo,H⟩
      ·exact absurd H (by simp)
      ·obtain⟨de,df⟩:=vk bo;obtain⟨rfl,rfl⟩:=s2 H;obtain⟨b4,b5,an,bp,aw⟩:=o.out;have b6:=qi an;have b7:=qj an;have b8:=nA an 1;clear an bp;have aT:0≤((aQ):Int):=jK;have aU:(aQ)<(j.length:Int):=jK;obtain⟨bq,b9,ax⟩:=Kd.at_int aw (aQ) aT aU;cases b9;replace ax:=pw_cell_below HB.out ax;replace aT:=vI aT;replace aU:=vI aU;have aV:0≤((aS):Int):=jK;have aW:(aS)<(j.length:Int):=jK;obtain⟨br,ca,ay⟩:=Kd.at_int aw (aS) aV aW;obtain rfl:bq=br:=(by injection ca);replace ay:=pw_cell_below HB.out ay;replace aV:=vI aV;replace aW:=vI aW;go_wp2;repeat(go_quiet (fail);try go_wp2)
       go_ret;exact⟨by first|rfl|(simp[fM,fN]<;>rfl)|(simp only[←aE,←aF];first|rfl|(simp[fM,fN]<;>rfl))|(simp[*,fM,fN]<;>rfl),fp.z o,wI HB (fp.ge o.out),kZ HK⟩
def iZ.f (k:Nat) (j:List Int) (I:Int) (a1:Int):Option (Bool×Int):=if a1>0 then((fA.f k j I a1).bind fun ae=>(some ((ae.1==(wrap64 (a1 - 1))),ae.2)))else(some (false,I))
instance iZ.mo {k a0 a1 a2}:ku (iZ.f k a0 a1 a2) (iZ.f (k+1) a0 a1 a2):=by unfold iZ.f;infer_instance
theorem iZ.calls (k:Nat) (g:Nat) (j:List Int) (I:Int) (a1:Int) (r1:Bool) (r2:Int) (w0 w:World) (hI:fp w0 w g j I) (hB:Below w0.heap.size w0 w) (h:iZ.f k j I a1=some (r1,r2)):
  Calls Tryz.prog 69 #[.pointer (some ⟨g,0,none⟩),.int .i64 a1] w fun e w'=>e= .returned (.bool r1)∧fp w0 w' g j r2∧Below w0.heap.size w0 w'∧jZ w w' g none:=by
 have o:=bm hI;have HK:=bm (jZ.refl w g none);have HL:=bm hB.size;clear hI;have bA:=bm hB.size;have HB:=bm hB;clear hB;have H:=h;clear h;unfold iZ.f at H;rcases vL H with⟨cb,H⟩|⟨cb,H⟩
 ·obtain⟨⟨t247,t248⟩,A4,H⟩:=bE H;try dsimp only at H
  obtain⟨rfl,rfl⟩:=s2 H;go_enter Tryz.func69,Tryz.ntmps69;go_wp2_with (first|(go_at_call 68;(with_reducible refine(fA.calls k g j I a1 t247 t248 w0 _ ?ig ?ij A4.out).mono ?_);(case ig=>exact fp.z o);(case ij=>repeat(with_reducible first|exact HB.out|apply mU|refine la ?_ (fp.ge o.out)));rintro e _ ⟨rfl,hi,hb,hk⟩;replace HK:=bm (jZ.trans (kZ HK) hk (.inl rfl));replace HB:=bm (hb);replace o:=bm (hi);clear hb hk hi));go_ret;exact⟨by first|rfl|(simp[*,fM,fN]<;>rfl),fp.z o,wI HB (fp.ge o.out),kZ HK⟩
 ·obtain⟨rfl,rfl⟩:=s2 H;go_enter Tryz.func69,Tryz.ntmps69;go_wp2;go_ret;exact⟨by first|rfl|(simp[*,fM,fN]<;>rfl),fp.z o,wI HB (fp.ge o.out),kZ HK⟩
def lA.f (k:Nat) (j:List Int) (I:Int) (a1:Int):Option (Int×Int):=(iZ.f k j I a1).bind fun ad=>(if ad.1=true then((some (([0,4,(-1)]:List Int):List Int)).bind fun af=>((fA.f k j ad.2 3).bind fun aa=>(if 0≤aa.1 then(if aa.1<(af.length:Int)then(some (rd af aa.1,aa.2))else(none))else(none))))else((some (([1,2,2,3,3]:List Int):List Int)).bind fun ag=>((fA.f k j ad.2 5).bind fun ab=>(if 0≤ab.1 then(if ab.1<(ag.length:Int)then(some (rd ag ab.1,ab.2))else(none))else(none)))))
instance lA.mo {k a0 a1 a2}:ku (lA.f k a0 a1 a2) (lA.f (k+1) a0 a1 a2):=by unfold lA.f;infer_instance
theorem lA.calls (k:Nat) (g:Nat) (j:List Int) (I:Int) (a1:Int) (r1:Int) (r2:Int) (w0 w:World) (hI:fp w0 w g j I) (hB:Below w0.heap.size w0 w) (h:lA.f k j I a1=some (r1,r2)):
  Calls Tryz.prog 90 #[.pointer (some ⟨g,0,none⟩),.int .i64 a1] w fun e w'=>e= .returned (.int .i64 r1)∧fp w0 w' g j r2∧Below w0.heap.size w0 w'∧jZ w w' g none:=by
 have o:=bm hI;have HK:=bm (jZ.refl w g none);have HL:=bm hB.size;clear hI;have bA:=bm hB.size;have HB:=bm hB;clear hB;have H:=h;clear h;unfold lA.f at H;obtain⟨⟨t249,ah⟩,A3,H⟩:=bE H;try dsimp only at H
 by_cases c4:t249=true
 ·subst c4;rw[if_pos rfl]at H;obtain⟨af,aY,H⟩:=bY H;obtain⟨⟨aK,cc⟩,A5,H⟩:=bE H;try dsimp only at H
  obtain⟨dv,H⟩:=vJ H;obtain⟨dw,H⟩:=vJ H;obtain⟨rfl,rfl⟩:=s2 H;go_enter Tryz.func90,Tryz.ntmps90;go_wp2_with (first|(refine gB (some 7) Tryz.func69 #[.pointer (some ⟨g,0,none⟩),.int .i64 a1] rfl ?_;(with_reducible refine(iZ.calls k g j I a1 true ah w0 _ ?ig ?ij A3.out).mono ?_);(case ig=>exact fp.z o);(case ij=>repeat(with_reducible first|exact HB.out|apply mU|refine la ?_ (fp.ge o.out)));rintro e _ ⟨rfl,hi,hb,hk⟩;refine⟨_,rfl,?_⟩;replace HK:=bm (jZ.trans (kZ HK) hk (.inl rfl));replace HB:=bm (hb);replace o:=bm (hi);clear hb hk hi)|((with_reducible refine gate_dst (N:=8) rfl ?_);refine Kd.R_lit (Kd.int .i64) _ 3 ?hg (N:=8) ?hd (xs:=([0,4,(-1)]:List Int)) (inner:=[.int .i64 0,.int .i64 4,.int .i64 (-1)]) (ok:=fun _=>True) (okp:=fun _=>True) ?hr ?hp (fun _ hk=>hk) trivial (Below.refl _ _) (Nat.le_refl _) (by simp) ?_;(case hd=>rfl);(case hg=>rfl);(case hr=>first|(go_simp;done)|(go_simp;rfl));(case hp=>exact(Reps.one (show Kd.M (Kd.int .i64) _ _ _ 0 [.int .i64 0] from rfl) (Reps.one (show Kd.M (Kd.int .i64) _ _ _ 4 [.int .i64 4] from rfl) (Reps.one (show Kd.M (Kd.int .i64) _ _ _ (-1) [.int .i64 (-1)] from rfl) (Reps.none _ _)))));intro _ _ az hb bs aG;clear bs aG;(first|rw[←aY.out]at az|(simp only[Int.reduceToNat]at az;rw[←aY.out]at az));have ao:=bm (Kd.R_lower az (nG (w:=w) (g:=g) (row:=none) (kZ HK)));replace HK:=bK HK hb;replace HB:=pZ HB (fp.ge o.out) hb;replace o:=bm (fp.below (fp.z o) hb);clear hb az)|(refine gB (some 10) Tryz.func68 #[.pointer (some ⟨g,0,none⟩),.int .i64 3] rfl ?_;(with_reducible refine(fA.calls k g j ah 3 aK cc w0 _ ?ig ?ij A5.out).mono ?_);(case ig=>exact fp.z o);(case ij=>repeat(with_reducible first|exact HB.out|apply mU|refine la ?_ (fp.ge o.out)));rintro e _ ⟨rfl,hi,hb,hk⟩;refine⟨_,rfl,?_⟩;replace ao:=bm (Kd.R_mono (Kd.R_keep (fp.apart (show fp w0 _ g j ah from fp.z o) (rS ao) (by decide)) hk (fun _ h=>h.2)) (fun _ h=>h.1));replace HK:=bm (jZ.trans (kZ HK) hk (.inl rfl));replace HB:=bm (hb);replace o:=bm (hi);clear hb hk hi;obtain⟨dy,dz,cd⟩:=Kd.R_slice ao.out;subst cd;have aZ:0≤(aK:Int):=jK;have a6:aK<(af.length:Int):=jK;obtain⟨di,cf,cg⟩:=Kd.at_int (Kd.R_reads' ao.out).2.2 aK aZ a6;cases cf;replace aZ:=vI aZ;replace a6:=vI a6));go_ret;exact⟨by first|rfl|(simp[*,fM,fN]<;>rfl),fp.z o,wI HB (fp.ge o.out),kZ HK⟩
 ·replace c4:=uZ c4;subst c4;rw[if_neg vR]at H;obtain⟨ag,a7,H⟩:=bY H;obtain⟨⟨aL,ch⟩,dj,H⟩:=bE H;try dsimp only at H
  obtain⟨dk,H⟩:=vJ H;obtain⟨bn,H⟩:=vJ H;obtain⟨rfl,rfl⟩:=s2 H;go_enter Tryz.func90,Tryz.ntmps90;go_wp2_with (first|(refine gB (some 7) Tryz.func69 #[.pointer (some ⟨g,0,none⟩),.int .i64 a1] rfl ?_;(with_reducible refine(iZ.calls k g j I a1 false ah w0 _ ?ig ?ij A3.out).mono ?_);(case ig=>exact fp.z o);(case ij=>repeat(with_reducible first|exact HB.out|apply mU|refine la ?_ (fp.ge o.out)));rintro e _ ⟨rfl,hi,hb,hk⟩;refine⟨_,rfl,?_⟩;replace HK:=bm (jZ.trans (kZ HK) hk (.inl rfl));replace HB:=bm (hb);replace o:=bm (hi);clear hb hk hi)|((with_reducible refine gate_dst (N:=13) rfl ?_);refine Kd.R_lit (Kd.int .i64) _ 3 ?hg (N:=13) ?hd (xs:=([1,2,2,3,3]:List Int)) (inner:=[.int .i64 1,.int .i64 2,.int .i64 2,.int .i64 3,.int .i64 3]) (ok:=fun _=>True) (okp:=fun _=>True) ?hr ?hp (fun _ hk=>hk) trivial (Below.refl _ _) (Nat.le_refl _) (by simp) ?_;(case hd=>rfl);(case hg=>rfl);(case hr=>first|(go_simp;done)|(go_simp;rfl));(case hp=>exact(Reps.one (show Kd.M (Kd.int .i64) _ _ _ 1 [.int .i64 1] from rfl) (Reps.one (show Kd.M (Kd.int .i64) _ _ _ 2 [.int .i64 2] from rfl) (Reps.one (show Kd.M (Kd.int .i64) _ _ _ 2 [.int .i64 2] from rfl) (Reps.one (show Kd.M (Kd.int .i64) _ _ _ 3 [.int .i64 3] from rfl) (Reps.one (show Kd.M (Kd.int .i64) _ _ _ 3 [.int .i64 3] from rfl) (Reps.none _ _)))))));intro _ _ aA hb bs aG;clear bs aG;(first|rw[←a7.out]at aA|(simp only[Int.reduceToNat]at aA;rw[←a7.out]at aA));have aq:=bm (Kd.R_lower aA (nG (w:=w) (g:=g) (row:=none) (kZ HK)));replace HK:=bK HK hb;replace HB:=pZ HB (fp.ge o.out) hb;replace o:=bm (fp.below (fp.z o) hb);clear hb aA)|(refine gB (some 15) Tryz.func68 #[.pointer (some ⟨g,0,none⟩),.int .i64 5] rfl ?_;(with_reducible refine(fA.calls k g j ah 5 aL ch w0 _ ?ig ?ij dj.out).mono ?_);(case ig=>exact fp.z o);(case ij=>repeat(with_reducible first|exact HB.out|apply mU|refine la ?_ (fp.ge o.out)));rintro e _ ⟨rfl,hi,hb,hk⟩;refine⟨_,rfl,?_⟩;replace aq:=bm (Kd.R_mono (Kd.R_keep (fp.apart (show fp w0 _ g j ah from fp.z o) (rS aq) (by decide)) hk (fun _ h=>h.2)) (fun _ h=>h.1));replace HK:=bm (jZ.trans (kZ HK) hk (.inl rfl));replace HB:=bm (hb);replace o:=bm (hi);clear hb hk hi;obtain⟨dB,dC,ck⟩:=Kd.R_slice aq.out;subst ck;have a8:0≤(aL:Int):=jK;have ba:aL<(ag.length:Int):=jK;obtain⟨dm,cl,cm⟩:=Kd.at_int (Kd.R_reads' aq.out).2.2 aL a8 ba;cases cl;replace a8:=vI a8;replace ba:=vI ba));go_ret;exact⟨by first|rfl|(simp[*,fM,fN]<;>rfl),fp.z o,wI HB (fp.ge o.out),kZ HK⟩
def lQ.f (k:Nat) (a0:Int) (l1:List Int):Option (Int×List Int×(List (List Int))):=(gY.f k a0 l1).bind fun aB=>(if aB=true then((gi.f k a0 l1).bind fun ai=>(some (a0,ai,([]:List (List Int)))))else(some (0,([]:List Int),([]:List (List Int)))))
instance lQ.mo {k a0 a1}:ku (lQ.f k a0 a1) (lQ.f (k+1) a0 a1):=by unfold lQ.f;infer_instance
theorem lQ.calls (k:Nat) (a0:Int) (A1:Option Addr) (c1:Nat) (l1:List Int) (r1:Int) (r2:List Int) (r3:List (List Int)) (w:World) (cn:Kd.C (Kd.int .i64) w A1 l1.length l1) (cp:l1.length≤c1) (h:lQ.f k a0 l1=some (r1,r2,r3)):
  Calls Tryz.prog 91 #[.int .i64 a0,.slice A1 l1.length c1] w fun e w'=>∃bu cq:Value,e= .returned (.agg #[.int .i64 r1,bu,cq])∧Kd.R (Kd.int .i64) 3 w' w.heap.size (fun _=>True) bu r2∧Kd.S (Kd.slice 3 (Kd.int .i64)) 23 w' w.heap.size (fun k_=>some k_≠(bu:Value).ownBlock) cq r3∧Below w.heap.size w w':=by
 have dD:=Tryz.underlying26;have bw:=bm cn;have bx:=bm cp;clear cn cp;have HB:=bm (Below.refl w.heap.size w);have H:=h;clear h;unfold lQ.f at H;obtain⟨aB,A3,H⟩:=bE H;try dsimp only at H
 by_cases c4:aB=true
 subst c4;rw[if_pos rfl]at H;obtain⟨ai,A5,H⟩:=bE H;try dsimp only at H
 obtain⟨rfl,rfl,rfl⟩:=s3 H
 rotate_left
 replace c4:=uZ c4;subst c4;rw[if_neg vR]at H;obtain⟨rfl,rfl,rfl⟩:=s3 H
 rotate_left
 all_goals(go_enter Tryz.func91,Tryz.ntmps91;go_wp2_with (first|(refine mK 4 #[.int .i64 0,.slice none 0 0,.slice none 0 0] 26 ?_;intro aH hg _ aC hb;have J:=bm (aC);have bz:=bG HB hg;replace HB:=bW HB hb;clear hb aC hg)|(refine gB (some 7) Tryz.func103 #[.int .i64 a0,.slice A1 l1.length c1] rfl ?_;(with_reducible refine(gY.calls k a0 _ _ l1 true _ ?_ ?_ A3.out).mono ?_);exact cY bw HB;exact bx.out;rintro e _ ⟨rfl,hb⟩;refine⟨_,rfl,?_⟩;replace J:=bU J hb;replace HB:=bW HB hb;clear hb)|(refine gB (some 13) Tryz.func114 #[.int .i64 a0,.slice A1 l1.length c1] rfl ?_;(with_reducible refine(gi.calls k a0 _ _ l1 ai _ ?_ ?_ A5.out).mono ?_);exact cY bw HB;exact bx.out;rintro e _ ⟨_,rfl,cr,hb⟩;refine⟨_,rfl,?_⟩;have bb:=vm cr HB;replace J:=bU J hb;replace HB:=bW HB hb;clear hb;(try clear cr);obtain⟨dn,dp,dq⟩:=Kd.R_slice bb.out;subst dq;obtain⟨_,_,_,_,_,_⟩:=b3 J)|(refine gB (some 7) Tryz.func103 #[.int .i64 a0,.slice A1 l1.length c1] rfl ?_;(with_reducible refine(gY.calls k a0 _ _ l1 false _ ?_ ?_ A3.out).mono ?_);exact cY bw HB;exact bx.out;rintro e _ ⟨rfl,hb⟩;refine⟨_,rfl,?_⟩;replace J:=bU J hb;replace HB:=bW HB hb;clear hb;obtain⟨_,_,_,_,_,_⟩:=b3 J)))
 ·refine bodyPost_ret (results_cell_row rfl _ _ aH 26 #[.int .i64 a0,.slice dn ai.length dp,.slice none 0 0] (0,0) _ rfl (kP J) Tryz.underlying26 rfl (by kernel_rfl)) rfl ?_;exact⟨_,_,by first|rfl|(simp[*,fM,fN]<;>rfl),rT bb,by first|exact Kd.S_nil _ _ _ _ _|exact Kd.N_nil _ _ _ _ _|exact Kd.V_nil _ _ _ _ _|exact Kd.Q_nil _ _ _ _ _|exact Kd.R_nil _ _ _ _ _,wZ HB⟩
 ·refine bodyPost_ret (results_cell_row rfl _ _ aH 26 #[.int .i64 0,.slice none 0 0,.slice none 0 0] (0,0) _ rfl (kP J) Tryz.underlying26 rfl (by kernel_rfl)) rfl ?_;exact⟨_,_,by first|rfl|(simp[*,fM,fN]<;>rfl),by first|exact Kd.R_nil _ _ _ _ _|exact Kd.N_nil _ _ _ _ _|exact Kd.V_nil _ _ _ _ _|exact Kd.Q_nil _ _ _ _ _|exact Kd.S_nil _ _ _ _ _,by first|exact Kd.S_nil _ _ _ _ _|exact Kd.N_nil _ _ _ _ _|exact Kd.V_nil _ _ _ _ _|exact Kd.Q_nil _ _ _ _ _|exact Kd.R_nil _ _ _ _ _,wZ HB⟩
def mG.f (a0:Int):Option (Int):=(kj.f a0 1 3).bind fun aD=>(if aD=true then(if 0≤a0 then(some (shl .i64 1 a0))else(none))else(some (-1)))
theorem mG.calls (a0:Int) (r:Int) (w:World) (h:mG.f a0=some r):
  Calls Tryz.prog 124 #[.int .i64 a0] w fun e w'=>e= .returned (.int .i64 r)∧Drawn0 w w':=by
 have H:=h;clear h;unfold mG.f at H;obtain⟨aD,A2,H⟩:=bE H;try dsimp only at H
 by_cases c3:aD=true
 ·subst c3;rw[if_pos rfl]at H;obtain⟨dF,dG,H⟩:=vK H;obtain⟨aM,aj⟩:∃j_:Int,(shl .i64 1 a0)=j_:=⟨_,rfl⟩;first|rw[aj]at H|simp only[aj]at H
  (try rw[aj]at A2);have bc:(IntKind.i64.wrap (1*2^min a0.toNat 64))=aM:=aj;have bd:a0≤64→(IntKind.i64.wrap (1*2^a0.toNat))=aM:=shl_small aj;have dr:(IntKind.i64.wrap (2^min a0.toNat 64))=aM:=by have h_:=bc;rw[Int.one_mul]at h_;exact h_
  have ds:a0≤64→(IntKind.i64.wrap (2^a0.toNat))=aM:=fun cF=>by have h_:=bd cF;rw[Int.one_mul]at h_;exact h_
  have dt:(wrap64 (1*2^min a0.toNat 64))=aM:=(i64_w _).symm.trans bc;have du:a0≤64→(wrap64 (1*2^a0.toNat))=aM:=fun h_=>(i64_w _).symm.trans (bd h_)
  obtain rfl:=vZ H;go_enter Tryz.func124,Tryz.ntmps124;go_wp2_with (first|(refine gB (some 4) Tryz.func100 #[.int .i64 a0,.int .i64 1,.int .i64 3] rfl ?_;(with_reducible refine(kj.calls a0 1 3 true _ A2.out).mono ?_);rintro e w' ⟨rfl,⟨nd,rfl⟩⟩;refine⟨_,rfl,?_⟩));go_ret;exact⟨by first|rfl|(simp;done)|(simp only[←aj]<;>(first|rfl|simp))|(simp[*];done),by repeat(first|exact Drawn0.refl _|apply Drawn0.step)⟩
 ·replace c3:=uZ c3;subst c3;rw[if_neg vR]at H;obtain rfl:=vZ H;go_enter Tryz.func124,Tryz.ntmps124;go_wp2_with (first|(refine gB (some 4) Tryz.func100 #[.int .i64 a0,.int .i64 1,.int .i64 3] rfl ?_;(with_reducible refine(kj.calls a0 1 3 false _ A2.out).mono ?_);rintro e w' ⟨rfl,⟨nd,rfl⟩⟩;refine⟨_,rfl,?_⟩));go_ret;exact vn
end Go.Proofs.YtihgpkohglcijaaGreatDoor.P
