import Derived.Test.YtihgpkohglcijaaGreatDoorPx27
import Derived.Test.YtihgpkohglcijaaGreatDoorPz0
/- For every mind and line the program does what the reference does; nothing of what it gives is shared. -/
namespace Go.Proofs.YtihgpkohglcijaaGreatDoor.Pure
open Go.RowKit Go.Proofs.YtihgpkohglcijaaGreatDoorW.PrintWords Go.Proofs.YtihgpkohglcijaaGreatDoorW.PrintLast Go.Proofs.YtihgpkohglcijaaGreatDoorW.PrintMore Go.Proofs.YtihgpkohglcijaaGreatDoor.P Go.Proofs.YtihgpkohglcijaaGreatDoor.Mt Go.Proofs.YtihgpkohglcijaaGreatDoor.Pl
theorem FnExactMindLine:laws_FnExactMindLine.Pure:=by
 intro t l ls s _ hl hls _
 refine Ev.rounds (g:=fun k=>laws_FnExactMindLine.f k t l ls s) ?_
 unfold laws_FnExactMindLine.f
 have h1:l.length≤9223372036854775807:=hl.1
 have h2:ls.length≤9223372036854775807:=hls.1
 have h3:∀y∈ls,y.length≤9223372036854775807:=fun y hy=>(hls.2 y hy).1
 by_cases hz:(s.size:Int)>1048576
 ·exact ev_pos hz (Ev.now _)
 ·refine ev_neg hz ?_
  obtain⟨r,e,h⟩:=szMind_c t h1 h2 h3
  refine Ev.bind e ?_
  by_cases hr:r<0
  ·exact ev_pos hr (Ev.now _)
  ·obtain⟨b1,b2,b3⟩:=h.resolve_left hr
   refine ev_neg hr ?_
   obtain⟨q,m,ms,r,hi,hs,g1,g2,g3⟩:=MindLine_both (t:=t) h1 h2 h3 (s:=s) (by omega)
   have hto:=toMind_ev t (l:=l) (ls:=ls) (by omega) (by omega) (fun y hy=>by have:=b3 y hy;omega)
   have hq:=eqMind_same q (l:=m) (ls:=ms) (by omega) (by omega) (fun y hy=>by have:=g3 y hy;omega)
   have hx:=eqMind_same t (l:=l) (ls:=ls) h1 h2 h3
   have mx:=markMind_ev t (l:=l) (ls:=ls) b1 b2 b3
   have mg:=markMind_ev q (l:=m) (ls:=ms) g1 g2 g3
   have hg:=heldMind_ev q (l:=m) (ls:=ms) g1 g2 g3
   have ex:=endF_ge ls (1+(l.length:Int))
   have eg:=endF_ge ms (1+(m.length:Int))
   refine Ev.bind hto (Ev.bind hs (Ev.bind hto (Ev.bind hi (Ev.bind hq (ev_tt (ev_pos rfl (Ev.bind hto (Ev.bind hx (ev_tt (Ev.bind mx (ev_neg (by dsimp only;omega) (Ev.bind hq (ev_tt (Ev.bind mg (Ev.bind hg (ev_neg (by omega) (ev_pos rfl ?_)))))))))))))))))
   exact Ev.bind hto (Ev.bind hi (Ev.bind hq (ev_tt (ev_pos rfl (Ev.bind hg (ev_neg (by omega) (ev_pos rfl (Ev.now _))))))))
end Go.Proofs.YtihgpkohglcijaaGreatDoor.Pure
