/- Plain laws: drawn sentences. -/
import Derived.Test.YtihgpkohglcijaaPx15
import Derived.Test.YtihgpkohglcijaaPx16
import Derived.Test.YtihgpkohglcijaaPdr0
namespace Go.Proofs.Ytihgpkohglcijaa.Pl
open Go.RowKit Go.Proofs.YtihgpkohglcijaaW.PrintWords Go.Proofs.YtihgpkohglcijaaW.PrintLast Go.Proofs.YtihgpkohglcijaaW.PrintMore Go.Proofs.Ytihgpkohglcijaa.P Go.Proofs.Ytihgpkohglcijaa.Mt
/-! ### sentences -/
theorem sent_tt {b:List Int} (hb:Code b) {p:Int} (h0:0≤p) (h1:p≤900000000) (t d:Int):
  ∃s,Ev (fun k=>spec_l20Sentence.j0 k t d true b p) (s,p+2)∧s.size≤1:=by
 obtain⟨i,hi,i0,i1,_⟩:=pick_ev hb (p:=p) h0 (by omega) 8
 have i1:=i1 (by omega)
 have hm:1≤mx (mn t 3) 1∧mx (mn t 3) 1≤3:=by unfold mx mn;split<;>split<;>omega
 have hd:Int.tdiv i 7=0∨Int.tdiv i 7=1:=by
  rw[Int.tdiv_eq_ediv_of_nonneg i0]
  omega
 generalize hn:wrap64 ((mx (mn t 3) 1)+(wrap64 ((wrap64 (Int.tdiv i 7))*3)))=n
 have hn1:1≤n∧n≤6:=by
  rw[←hn]
  rcases hd with e|e
  ·rw[e,w64 (n:=(0:Int)) (by omega) (by omega),w64 (n:=(0:Int)*3) (by omega) (by omega),w64 (by omega) (by omega)];omega
  ·rw[e,w64 (n:=(1:Int)) (by omega) (by omega),w64 (n:=(1:Int)*3) (by omega) (by omega),w64 (by omega) (by omega)];omega
 obtain⟨j,hj,j0,j1,_⟩:=pick_ev hb (p:=p+1) (by omega) (by omega) n
 have j1:=j1 hn1.1
 have e2:p+1+1=p+2:=by omega
 rw[e2]at hj
 refine⟨rdOf ByteArray.empty [(⟨#[97]⟩:ByteArray),(⟨#[98]⟩:ByteArray),(⟨#[99]⟩:ByteArray),(⟨#[97]⟩:ByteArray),(⟨#[48]⟩:ByteArray),(⟨#[49]⟩:ByteArray)] j,Ev.step (f:=fun k=>((some (([(⟨#[97]⟩:ByteArray),(⟨#[98]⟩:ByteArray),(⟨#[99]⟩:ByteArray),(⟨#[97]⟩:ByteArray),(⟨#[48]⟩:ByteArray),(⟨#[49]⟩:ByteArray)]:List ByteArray):List ByteArray)).bind fun y266=>((spec_l20Rd_pick.f k b p 8).bind fun bt269=>((spec_l20Rd_pick.f k b bt269.2 (wrap64 ((mx (mn t 3) 1)+(wrap64 ((wrap64 (Int.tdiv bt269.1 7))*3))))).bind fun bt271=>(if 0≤bt271.1 then(if bt271.1<(y266.length:Int)then(some (rdOf ByteArray.empty y266 bt271.1,bt271.2))else(none))else(none)))))) (fun k=>rfl) (ev_bindc rfl (Ev.bind hi ?_)),?_⟩
 ·rw[hn]
  exact Ev.bind hj (ev_pos j0 (ev_pos (by show j<6;omega) (Ev.now _)))
 ·have:j=0∨j=1∨j=2∨j=3∨j=4∨j=5:=by omega
  rcases this with rfl|rfl|rfl|rfl|rfl|rfl<;>decide+kernel
theorem sent_next {b:List Int} (hb:Code b) (t:Int) (d c m:Nat) (hd:d<100) (hc:c≤1000) (hm:m≤1000)
  (H:∀p:Int,0≤p→p≤900000000 - 2*c - 10→∃s p',Ev (fun k=>spec_l20Sentence.f k b p t (d:Int)) (s,p')∧p≤p'∧p'≤p+c∧s.size≤m):
  ∀p:Int,0≤p→p≤900000000 - 2*(2*c+5:Nat) - 10→∃s p',Ev (fun k=>spec_l20Sentence.f k b p t ((d+1:Nat):Int)) (s,p')∧p≤p'∧p'≤p+(2*c+5:Nat)∧s.size≤2*m+3:=by
 intro p h0 h1
 obtain⟨y,hy,_,_,_⟩:=pick_ev hb h0 (by omega) 3
 have hd1:wrap64 (((d+1:Nat):Int) - 1)=(d:Int):=by rw[w64 (by omega) (by omega)];omega
 have st:∀{r},Ev (fun k=>spec_l20Sentence.j0 k t ((d+1:Nat):Int) (y==0) b (p+1)) r→Ev (fun k=>spec_l20Sentence.f k b p t ((d+1:Nat):Int)) r:=fun h=>Ev.step (f:=fun k=>if((d+1:Nat):Int)=0 then(spec_l20Sentence.j0 k t ((d+1:Nat):Int) true b p)else((spec_l20Rd_pick.f k b p 3).bind fun bt264=>(spec_l20Sentence.j0 k t ((d+1:Nat):Int) (bt264.1==0) b bt264.2))) (fun k=>rfl) (ev_neg (by omega) (Ev.bind hy h))
 by_cases e0:y=0
 ·obtain⟨s,hs,h2⟩:=sent_tt hb (p:=p+1) (by omega) (by omega) t ((d+1:Nat):Int)
  have eb:(y==0)=true:=beq_iff_eq.2 e0
  rw[eb]at st
  exact⟨s,p+1+2,st hs,by omega,by omega,by omega⟩
 ·have eb:(y==0)=false:=beq_eq_false_iff_ne.2 e0
  rw[eb]at st
  obtain⟨z,hz,_,_,_⟩:=pick_ev hb (p:=p+1) (by omega) (by omega) 4
  obtain⟨s1,p1,hs1,a1,a2,a3⟩:=H (p+1+1) (by omega) (by omega)
  obtain⟨s2,p2,hs2,b1,b2,b3⟩:=H p1 (by omega) (by omega)
  rw[←hd1]at hs1 hs2
  have sz1:∀x:ByteArray,x.size=1→((x++s1)++x).size=s1.size+2:=fun x hx=>by rw[ByteArray.size_append,ByteArray.size_append,hx];omega
  have one:∀x:UInt8,(⟨#[x]⟩:ByteArray).size=1:=fun x=>rfl
  by_cases z0:z=0
  ·refine⟨(⟨#[33]⟩:ByteArray)++s1,p1,st (Ev.step (fun k=>rfl) (Ev.bind hz (ev_pos z0 (Ev.bind hs1 (ev_pos (by dsimp only;(try simp only[ByteArray.size_append,one]);omega) (Ev.now _)))))),by omega,by omega,?_⟩
   rw[ByteArray.size_append,one];omega
  by_cases z1:z=1
  ·refine⟨((((⟨#[40]⟩:ByteArray)++s1)++(⟨#[38]⟩:ByteArray))++s2)++(⟨#[41]⟩:ByteArray),p2,st (Ev.step (fun k=>rfl) (Ev.bind hz (ev_neg z0 (ev_pos z1 (Ev.bind hs1 (ev_pos (by dsimp only;(try simp only[ByteArray.size_append,one]);omega) (ev_pos (by dsimp only;(try simp only[ByteArray.size_append,one]);omega) (Ev.bind hs2 (ev_pos (by dsimp only;(try simp only[ByteArray.size_append,one]);omega) (ev_pos (by dsimp only;(try simp only[ByteArray.size_append,one]);omega) (Ev.now _))))))))))),by omega,by omega,?_⟩
   simp only[ByteArray.size_append,one];omega
  by_cases z2:z=2
  ·refine⟨((((⟨#[40]⟩:ByteArray)++s1)++(⟨#[124]⟩:ByteArray))++s2)++(⟨#[41]⟩:ByteArray),p2,st (Ev.step (fun k=>rfl) (Ev.bind hz (ev_neg z0 (ev_neg z1 (ev_pos z2 (Ev.bind hs1 (ev_pos (by dsimp only;(try simp only[ByteArray.size_append,one]);omega) (ev_pos (by dsimp only;(try simp only[ByteArray.size_append,one]);omega) (Ev.bind hs2 (ev_pos (by dsimp only;(try simp only[ByteArray.size_append,one]);omega) (ev_pos (by dsimp only;(try simp only[ByteArray.size_append,one]);omega) (Ev.now _)))))))))))),by omega,by omega,?_⟩
   simp only[ByteArray.size_append,one];omega
  ·refine⟨((((⟨#[40]⟩:ByteArray)++s1)++(⟨#[62]⟩:ByteArray))++s2)++(⟨#[41]⟩:ByteArray),p2,st (Ev.step (fun k=>rfl) (Ev.bind hz (ev_neg z0 (ev_neg z1 (ev_neg z2 (Ev.bind hs1 (ev_pos (by dsimp only;(try simp only[ByteArray.size_append,one]);omega) (ev_pos (by dsimp only;(try simp only[ByteArray.size_append,one]);omega) (Ev.bind hs2 (ev_pos (by dsimp only;(try simp only[ByteArray.size_append,one]);omega) (ev_pos (by dsimp only;(try simp only[ByteArray.size_append,one]);omega) (Ev.now _)))))))))))),by omega,by omega,?_⟩
   simp only[ByteArray.size_append,one];omega
theorem sent_ev {b:List Int} (hb:Code b) (t:Int) {p:Int} (h0:0≤p) (h1:p≤800000000):∃s p',Ev (fun k=>spec_l20Sentence.f k b p t 2) (s,p')∧p≤p'∧p'≤p+30∧s.size≤20:=by
 have H0:∀p:Int,0≤p→p≤900000000 - 2*(2:Nat) - 10→∃s p',Ev (fun k=>spec_l20Sentence.f k b p t ((0:Nat):Int)) (s,p')∧p≤p'∧p'≤p+(2:Nat)∧s.size≤1:=by
  intro p h0 h1
  obtain⟨s,hs,h2⟩:=sent_tt hb (p:=p) h0 (by omega) t ((0:Nat):Int)
  exact⟨s,p+2,Ev.step (f:=fun k=>if((0:Nat):Int)=0 then(spec_l20Sentence.j0 k t ((0:Nat):Int) true b p)else((spec_l20Rd_pick.f k b p 3).bind fun bt264=>(spec_l20Sentence.j0 k t ((0:Nat):Int) (bt264.1==0) b bt264.2))) (fun k=>rfl) (ev_pos rfl hs),by omega,by omega,h2⟩
 have H1:=sent_next hb t 0 2 1 (by omega) (by omega) (by omega) H0
 have H2:=sent_next hb t 1 9 5 (by omega) (by omega) (by omega) H1
 obtain⟨s,p',a,b1,b2,b3⟩:=H2 p h0 (by omega)
 exact⟨s,p',a,b1,by omega,by omega⟩
end Go.Proofs.Ytihgpkohglcijaa.Pl
