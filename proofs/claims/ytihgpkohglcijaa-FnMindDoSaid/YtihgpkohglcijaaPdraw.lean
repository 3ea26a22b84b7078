/- Plain laws: what is drawn: worlds, ranks. -/
import Derived.Test.YtihgpkohglcijaaPx15
import Derived.Test.YtihgpkohglcijaaPx18
import Derived.Test.YtihgpkohglcijaaPdr0
namespace Go.Proofs.Ytihgpkohglcijaa.Pl
open Go.RowKit Go.Proofs.YtihgpkohglcijaaW.PrintWords Go.Proofs.YtihgpkohglcijaaW.PrintLast Go.Proofs.YtihgpkohglcijaaW.PrintMore Go.Proofs.Ytihgpkohglcijaa.P Go.Proofs.Ytihgpkohglcijaa.Mt
/-- Of how many places a drawn rank is. -/
theorem worlds_ev (t:Int):∃v,spec_WorldsOf.f t=some v∧v≤8:=by
 unfold spec_WorldsOf.f
 rw[l1In_eq,Option.bind_some]
 by_cases h:1≤t∧t≤3
 ·rw[decide_eq_true h,if_pos rfl,if_pos (by omega)]
  have:t=1∨t=2∨t=3:=by omega
  rcases this with rfl|rfl|rfl
  ·exact⟨2,by decide+kernel,by omega⟩
  ·exact⟨4,by decide+kernel,by omega⟩
  ·exact⟨8,by decide+kernel,by omega⟩
 ·rw[decide_eq_false h,if_neg (by decide)]
  exact⟨-1,rfl,by omega⟩
theorem rank_l1 (b:List Int) (p:Int) (m:Nat) (hm:m≤8):∀i,i≤m→∀l:List Int,l.length=m→∃r,Ev (fun k=>spec_l20Rank.l1 k l (m:Int) (i:Int) b p) (r,p)∧r.length=m:=by
 apply down
 ·intro l hl
  exact⟨l,Ev.step (fun k=>rfl) (ev_neg (by omega) (Ev.now _)),hl⟩
 ·intro i hi ih l hl
  obtain⟨r,h1,h2⟩:=ih (l.set (i:Int).toNat (wrap64 ((rd l (i:Int))+1))) (by rw[List.length_set];exact hl)
  refine⟨r,Ev.step (fun k=>rfl) (ev_pos (by omega) (ev_pos (by omega) (ev_pos (by omega) ?_))),h2⟩
  rw[w1 hi (by omega)]
  exact h1
theorem rank_l0 {b:List Int} (hb:Code b) (n:Int) {x:Int} (x0:0≤x) (x1:x<3) (m:Nat) (hm:m≤8) (hm1:1≤m):∀i,i≤m→∀(l:List Int) (p:Int),l.length=i→0≤p→p+10*(m - i:Nat)≤800000000→
  ∃r p',Ev (fun k=>spec_l20Rank.l0 k n l (m:Int) x (i:Int) b p) (r,p')∧p≤p'∧p'≤p+10*(m - i:Nat)+10∧r.length≤9:=by
 apply down
 ·intro l p hl h0 h1
  obtain⟨j,hj,j0,j1,_⟩:=pick_ev hb (p:=p) (by omega) (by omega) (m:Int)
  have j1:=j1 (by omega)
  obtain⟨o,p1,ho,a1,a2⟩:=odd_ev hb (p:=p+1) (by omega) (by omega) n
  have hlen:(l.set (j:Int).toNat 0).length=m:=by rw[List.length_set];exact hl
  have pre:∀{r:List Int×Int},Ev (fun k=>if(o=true)then(spec_l20Rd_pick.f k b p1 3).bind fun bt534=>(if bt534.1=0 then(if(l.set (j:Int).toNat 0).length<17592186044416 then(some (((l.set (j:Int).toNat 0)++ [0]),bt534.2))else(none))else(if bt534.1=1 then(if 0<(l.length:Int)then(some (((l.set (j:Int).toNat 0).set (0:Int).toNat (-1)),bt534.2))else(none))else(spec_l20Rank.l1 k (l.set (j:Int).toNat 0) (m:Int) 0 b bt534.2)))else(some (l.set (j:Int).toNat 0,p1))) r→Ev (fun k=>spec_l20Rank.l0 k n l (m:Int) x ((m:Nat):Int) b p) r:=by
   intro r hr
   exact Ev.step (fun k=>rfl) (ev_neg (by omega) (Ev.bind hj (ev_pos j0 (ev_pos (by omega) (ev_bindc rfl (Ev.bind ho hr))))))
  cases o
  ·exact⟨l.set (j:Int).toNat 0,p1,pre (ev_ff (Ev.now _)),by omega,by omega,by omega⟩
  ·obtain⟨y,hy,y0,y1,_⟩:=pick_ev hb (p:=p1) (by omega) (by omega) 3
   have y1:=y1 (by omega)
   by_cases e0:y=0
   ·refine⟨l.set (j:Int).toNat 0++ [0],p1+1,pre (ev_tt (Ev.bind hy (ev_pos e0 (ev_pos (by omega) (Ev.now _))))),by omega,by omega,?_⟩
    rw[List.length_append,hlen,List.length_singleton];omega
   ·by_cases e1:y=1
    ·refine⟨(l.set (j:Int).toNat 0).set (0:Int).toNat (-1),p1+1,pre (ev_tt (Ev.bind hy (ev_neg e0 (ev_pos e1 (ev_pos (by omega) (Ev.now _)))))),by omega,by omega,?_⟩
     rw[List.length_set,hlen];omega
    ·obtain⟨r,hr,hr2⟩:=rank_l1 b (p1+1) m hm 0 (Nat.zero_le _) _ hlen
     exact⟨r,p1+1,pre (ev_tt (Ev.bind hy (ev_neg e0 (ev_neg e1 hr)))),by omega,by omega,by omega⟩
 ·intro i hi ih l p hl h0 h1
  obtain⟨z,hz,_,_,_⟩:=pick_ev hb (p:=p) (by omega) (by omega) (rd [2,4,10] x)
  obtain⟨r,p',hr,b1,b2,b3⟩:=ih (l++ [z]) (p+1) (by rw[List.length_append,hl];rfl) (by omega) (by omega)
  refine⟨r,p',Ev.step (fun k=>rfl) (ev_pos (by omega) (ev_bindc rfl (ev_pos x0 (ev_pos (by simpa using x1) (Ev.bind hz (ev_pos (by omega) ?_)))))),by omega,by omega,b3⟩
  rw[w1 hi (by omega)]
  exact hr
/-- A drawn rank: a row of at most nine numbers. -/
theorem rank_ev {b:List Int} (hb:Code b) {p:Int} (h0:0≤p) (h1:p≤700000000) (t n:Int):
  ∃r p',Ev (fun k=>spec_l20Rank.f k b p t n) (r,p')∧p≤p'∧p'≤p+100∧r.length≤9:=by
 obtain⟨v,hv,hv8⟩:=worlds_ev t
 obtain⟨x,hx,x0,x1,_⟩:=pick_ev hb h0 (by omega) 3
 have x1:=x1 (by omega)
 have hmx:1≤mx v 1∧mx v 1≤8:=by unfold mx;split<;>omega
 obtain⟨m,hm⟩:=Int.eq_ofNat_of_zero_le (show 0≤mx v 1 by omega)
 obtain⟨r,p',hr,b1,b2,b3⟩:=rank_l0 hb n x0 x1 m (by omega) (by omega) 0 (Nat.zero_le _) [] (p+1) rfl (by omega) (by omega)
 unfold spec_l20Rank.f
 refine⟨r,p',ev_bindc hv (Ev.bind hx ?_),by omega,by omega,b3⟩
 rw[hm]
 exact hr
end Go.Proofs.Ytihgpkohglcijaa.Pl
