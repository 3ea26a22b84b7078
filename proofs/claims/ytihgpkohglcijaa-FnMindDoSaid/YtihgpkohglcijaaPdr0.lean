/- Plain laws on the draws: each returns, and what it returns lies within its bounds. -/
import Derived.Test.YtihgpkohglcijaaPx2
import Derived.Test.YtihgpkohglcijaaPx15
import Derived.Test.YtihgpkohglcijaaPx16
import Derived.Test.YtihgpkohglcijaaPx18
import Derived.Test.YtihgpkohglcijaaPbase
namespace Go.Proofs.Ytihgpkohglcijaa.Pl
open Go.RowKit Go.Proofs.YtihgpkohglcijaaW.PrintWords Go.Proofs.YtihgpkohglcijaaW.PrintLast Go.Proofs.YtihgpkohglcijaaW.PrintMore Go.Proofs.Ytihgpkohglcijaa.P Go.Proofs.Ytihgpkohglcijaa.Mt

theorem alive_eq:laws_alive.f=some true:=by decide+kernel
/-- A code: bytes, not too many. -/
def Code (b:List Int):Prop:=b.length≤2000∧∀x,x∈b→0≤x∧x≤255
theorem code_at {b:List Int} (h:Code b) {i:Int} (h0:0≤i) (h1:i<(b.length:Int)):0≤rd b i∧rd b i≤255:=by
 obtain⟨n,rfl⟩:=Int.eq_ofNat_of_zero_le h0
 exact h.2 _ (rd_mem (by omega))
theorem xor_nonneg {x y:Int} (h0:0≤x) (h1:x<4611686018427387904) (k0:0≤y) (k1:y<4611686018427387904):0≤Go.bits .xor .i64 x y:=by
 obtain⟨a,rfl⟩:=Int.eq_ofNat_of_zero_le h0
 obtain⟨b,rfl⟩:=Int.eq_ofNat_of_zero_le k0
 rw[bxor a b (by omega) (by omega)]
 omega
theorem tmod_in {x n:Int} (h:0≤x) (hn:1≤n):0≤Int.tmod x n∧Int.tmod x n<n:=by
 rw[Int.tmod_eq_emod_of_nonneg h]
 exact⟨Int.emod_nonneg _ (by omega),Int.emod_lt_of_pos _ (by omega)⟩
theorem tdiv_in {x n:Int} (h:0≤x) (hn:1≤n):0≤Int.tdiv x n∧Int.tdiv x n≤x:=by
 rw[Int.tdiv_eq_ediv_of_nonneg h]
 exact⟨Int.ediv_nonneg h (by omega),Int.ediv_le_self _ h⟩
/-- One number that is drawn. -/
theorem pick_ev {b:List Int} (hb:Code b) {p:Int} (h0:0≤p) (h1:p≤1000000000) (n:Int):
  ∃r,Ev (fun k=>spec_l20Rd_pick.f k b p n) (r,p+1)∧0≤r∧(1≤n→r<n)∧(n<1→r=0):=by
 have hl:=hb.1
 have hw:wrap64 (p+1)=p+1:=w64 (by omega) (by omega)
 have hw2:wrap64 (p+1 - 1)=p:=by rw[w64 (by omega) (by omega)];omega
 unfold spec_l20Rd_pick.f
 rw[hw]
 by_cases hn:n<1
 ·refine⟨0,ev_pos hn (Ev.step (f:=fun _=>some (0,p+1)) (fun k=>rfl) (Ev.now _)),Int.le_refl _,fun h=>by omega,fun _=>rfl⟩
 ·by_cases he:(b.length:Int)=0
  ·refine⟨0,ev_neg hn ?_,Int.le_refl _,fun h=>by omega,fun _=>rfl⟩
   rw[he]
   exact Ev.step (f:=fun _=>some (0,p+1)) (fun k=>rfl) (Ev.now _)
  ·have he':((b.length:Int)==0)=false:=beq_eq_false_iff_ne.2 he
   by_cases hk:p<(b.length:Int)
   ·obtain⟨a1,a2⟩:=code_at hb h0 hk
    have hm:=tmod_in (x:=rd b p) (n:=n) a1 (by omega)
    refine⟨Int.tmod (rd b p) n,ev_neg hn ?_,hm.1,fun _=>hm.2,fun h=>by omega⟩
    rw[he']
    refine Ev.step (fun k=>rfl) ?_
    simp only[spec_l20Rd_pick.j0,hw2]
    refine ev_neg (by decide) (ev_pos hk (ev_pos h0 (ev_neg (by omega) (ev_eq (Ev.now _) ?_))))
    rw[w64 (by omega) (by omega)]
   ·have hlp:1≤(b.length:Int):=by omega
    have m1:=tmod_in (x:=p) (n:=(b.length:Int)) h0 hlp
    have e7:wrap64 (p*7)=p*7:=w64 (by omega) (by omega)
    have e73:wrap64 (p*7+3)=p*7+3:=w64 (by omega) (by omega)
    have m2:=tmod_in (x:=p*7+3) (n:=(b.length:Int)) (by omega) hlp
    have c1:=code_at hb m1.1 m1.2
    have c2:=code_at hb m2.1 m2.2
    have d1:=tdiv_in (x:=p) (n:=(b.length:Int)) h0 hlp
    generalize hA:rd b (Int.tmod p (b.length:Int))=A at c1
    generalize hB:rd b (Int.tmod (p*7+3) (b.length:Int))=B at c2
    generalize hD:Int.tdiv p (b.length:Int)=D at d1
    have hx0:0≤A*131+B*1117+p*29+D*53:=by omega
    have hx1:A*131+B*1117+p*29+D*53<4611686018427387904:=by omega
    have d2:=tdiv_in (x:=A*131+B*1117+p*29+D*53) (n:=64) hx0 (by omega)
    have hxor:=xor_nonneg hx0 hx1 d2.1 (by omega)
    have hm:=tmod_in (n:=n) hxor (by omega)
    refine⟨_,ev_neg hn ?_,hm.1,fun _=>hm.2,fun h=>by omega⟩
    rw[he']
    refine Ev.step (fun k=>rfl) ?_
    simp only[spec_l20Rd_pick.j0,hw2,e7,e73,hA,hB,hD]
    refine ev_neg (by decide) (ev_neg hk (ev_neg he (ev_pos m1.1 (ev_pos m1.2 (ev_pos m2.1 (ev_pos m2.2 (ev_neg (by omega) (ev_eq (Ev.now _) ?_))))))))
    rw[w64 (n:=A) (by omega) (by omega),w64 (n:=B) (by omega) (by omega),w64 (n:=A*131) (by omega) (by omega),w64 (n:=B*1117) (by omega) (by omega),w64 (n:=A*131+B*1117) (by omega) (by omega),w64 (n:=p*29) (by omega) (by omega),w64 (n:=A*131+B*1117+p*29) (by omega) (by omega),w64 (n:=D) (by omega) (by omega),w64 (n:=D*53) (by omega) (by omega),w64 (n:=A*131+B*1117+p*29+D*53) (by omega) (by omega),w64 (n:=Int.tdiv _ 64) (by omega) (by omega)]
theorem odd_ev {b:List Int} (hb:Code b) {p:Int} (h0:0≤p) (h1:p≤1000000000) (n:Int):
  ∃r p',Ev (fun k=>spec_l20Rd_odd.f k b p n) (r,p')∧p≤p'∧p'≤p+1:=by
 unfold spec_l20Rd_odd.f
 by_cases hn:n>0
 ·obtain⟨r,hr,_⟩:=pick_ev hb h0 h1 n
  exact⟨_,p+1,ev_pos hn (Ev.bind hr (Ev.now _)),by omega,by omega⟩
 ·exact⟨false,p,ev_neg hn (Ev.now _),by omega,by omega⟩
theorem open_ev {c:List Int} (h:∀x∈c,(Lit.int .u8 x).wf=true):∃b,spec_l20Open.f c=some (b,0)∧Code b:=by
 have hc:∀x,x∈c→0≤x∧x≤255:=fun x hx=>by
  have:=h x hx
  simp[Lit.wf,IntKind.min,IntKind.max,IntKind.signed,IntKind.bits]at this
  omega
 unfold spec_l20Open.f
 by_cases hl:(c.length:Int)>2000
 ·refine⟨c.take 2000,by rw[if_pos hl,if_pos (by omega)],by rw[List.length_take];omega,fun x hx=>hc x (List.mem_of_mem_take hx)⟩
 ·exact⟨c,by rw[if_neg hl],by omega,hc⟩

theorem things_ev {b:List Int} (hb:Code b) {p:Int} (h0:0≤p) (h1:p≤900000000) (n:Int):
  ∃r p',Ev (fun k=>spec_l20Things.f k b p n) (r,p')∧p≤p'∧p'≤p+2:=by
 obtain⟨o,p1,ho,a1,a2⟩:=odd_ev hb h0 (by omega) n
 unfold spec_l20Things.f
 cases o
 ·obtain⟨r,hr,r0,r1,_⟩:=pick_ev hb (p:=p1) (by omega) (by omega) 5
  have r1:=r1 (by omega)
  exact⟨_,p1+1,Ev.bind ho (ev_neg Bool.false_ne_true (ev_bindc rfl (Ev.bind hr (ev_pos r0 (ev_pos (by simpa using r1) (Ev.now _)))))),by omega,by omega⟩
 ·obtain⟨r,hr,r0,r1,_⟩:=pick_ev hb (p:=p1) (by omega) (by omega) 3
  have r1:=r1 (by omega)
  exact⟨_,p1+1,Ev.bind ho (ev_pos rfl (ev_bindc rfl (Ev.bind hr (ev_pos r0 (ev_pos (by simpa using r1) (Ev.now _)))))),by omega,by omega⟩
end Go.Proofs.Ytihgpkohglcijaa.Pl
