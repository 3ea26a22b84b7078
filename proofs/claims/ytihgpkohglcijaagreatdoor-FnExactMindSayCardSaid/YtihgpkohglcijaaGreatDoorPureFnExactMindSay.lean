import Derived.Test.YtihgpkohglcijaaGreatDoorPx29
import Derived.Test.YtihgpkohglcijaaGreatDoorPz0
/- For every mind and all lines the program does what the reference does; nothing of what it gives is shared. -/
namespace Go.Proofs.YtihgpkohglcijaaGreatDoor.Pure
open Go.RowKit Go.Proofs.YtihgpkohglcijaaGreatDoorW.PrintWords Go.Proofs.YtihgpkohglcijaaGreatDoorW.PrintLast Go.Proofs.YtihgpkohglcijaaGreatDoorW.PrintMore Go.Proofs.YtihgpkohglcijaaGreatDoor.P Go.Proofs.YtihgpkohglcijaaGreatDoor.Mt Go.Proofs.YtihgpkohglcijaaGreatDoor.Pl
theorem FnExactMindSay:pE.Pure:=by
 intro t l ls x _ hl hls hx0
 refine Ev.rounds (g:=fun k=>pE.f k t l ls x) ?_
 unfold pE.f
 have h1:l.length≤9223372036854775807:=hl.1
 have h2:ls.length≤9223372036854775807:=hls.1
 have h3:∀y∈ls,y.length≤9223372036854775807:=fun y hy=>(hls.2 y hy).1
 have h4:x.length≤9223372036854775807:=hx0.1
 have h5:∀y∈x,y.size≤9223372036854775807:=hx0.2
 obtain⟨r,e,h⟩:=Et t h1 h2 h3
 refine Ev.bind e ?_
 by_cases hr:r<0
 ·exact jM hr (Ev.now _)
 ·obtain⟨r0,r1,b1,b2,b3⟩:=h.resolve_left hr
  refine jO hr ?_
  obtain⟨r',e',h'⟩:=Bo (ls:=x) (a:=r) h4 h5 r0 r1
  refine Ev.bind e' ?_
  by_cases hr':r'<0
  ·exact jM hr' (Ev.now _)
  ·obtain⟨c1,c2⟩:=h'.resolve_left hr'
   refine jO hr' ?_
   obtain⟨q,m,ms,rs,hi,hs,g1,g2,g3,g4⟩:=AD (t:=t) h1 h2 h3 (CF:=x) (fun y hy=>by have:=c2 y hy;omega)
   obtain⟨f,hf⟩:=AB
   have hto:=Dd t (l:=l) (ls:=ls) (by omega) (by omega) (fun y hy=>by have:=b3 y hy;omega)
   have hts:=AA (l:=x) (by omega)
   have hq:=yG q (l:=m) (ls:=ms) (by omega) (by omega) (fun y hy=>by have:=g3 y hy;omega)
   have JR:=xz (l:=rs) (by omega)
   have hx:=yG t (l:=l) (ls:=ls) h1 h2 h3
   have hxs:=xz (l:=x) h4
   have mx:=yJ t (l:=l) (ls:=ls) b1 b2 b3
   have mg:=yJ q (l:=m) (ls:=ms) g1 g2 g3
   have hg:=Bn q (l:=m) (ls:=ms) g1 g2 g3
   have ex:=xN ls (1+(l.length:Int))
   have eg:=xN ms (1+(m.length:Int))
   have KR:=yl ls (1+(l.length:Int)) b3
   have eg':=yl ms (1+(m.length:Int)) g3
   have KJ:=xA hf (l:=x) (a:=xh (1+(l.length:Int)) ls) (by omega) (by omega)
   have KK:=xA hf (l:=rs) (a:=xh (1+(m.length:Int)) ms) (by omega) (by omega)
   have hgs:=zA hf (n:=rs.length) (a:=xh (1+(m.length:Int)) ms) (by omega) (by omega)
   refine Ev.bind hto (Ev.bind hts (Ev.bind hs (Ev.bind hto (Ev.bind hts (Ev.bind hi (Ev.bind hq (rE (Ev.bind JR (rE (Ev.bind hto (Ev.bind hx (rE (Ev.bind hts (Ev.bind hxs (rE (Ev.bind mx (Ev.bind KJ (jO (by dsimp only;omega) ?_))))))))))))))))))
   refine Ev.bind hq (rE (Ev.bind JR (rE (Ev.bind mg (Ev.bind KK (Ev.bind hg (jO (by omega) (Ev.bind hgs (jO (by omega) (jM rfl ?_))))))))))
   exact Ev.bind hto (Ev.bind hts (Ev.bind hi (Ev.bind hq (rE (Ev.bind JR (rE (Ev.bind hg (jO (by omega) (Ev.bind hgs (jO (by omega) (jM rfl (Ev.now _))))))))))))
end Go.Proofs.YtihgpkohglcijaaGreatDoor.Pure
