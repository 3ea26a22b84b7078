import Derived.Test.YtihgpkohglcijaaGreatDoorPx14
import Derived.Test.YtihgpkohglcijaaGreatDoorPx26
import Derived.Test.YtihgpkohglcijaaGreatDoorPx30
import Derived.Test.YtihgpkohglcijaaGreatDoorPx31
import Derived.Test.YtihgpkohglcijaaGreatDoorPx32
import Derived.Test.YtihgpkohglcijaaGreatDoorPz0
/- For every drawn mind and line the program does what the reference does; questions change nothing. No condition. -/
namespace Go.Proofs.YtihgpkohglcijaaGreatDoor.Pure
open Go.RowKit YtihgpkohglcijaaGreatDoorW PrintWords PrintLast PrintMore Go.Proofs.YtihgpkohglcijaaGreatDoor.P Go.Proofs.YtihgpkohglcijaaGreatDoor.Mt Go.Proofs.YtihgpkohglcijaaGreatDoor.Pl
theorem FnMindLine:kk.Pure:=by
  intro c _ _ hc
  refine Ev.rounds (g:=fun k=>kk.f k c) ?_
  unfold kk.f
  by_cases hlen:(c.length:Int)>1048576
  · exact fx hlen (Ev.now _)
  · obtain⟨b,hb,hcode⟩:=AX hc
    obtain⟨t,l,ls,p1,hm,q0,q1,h8,h6,hr⟩:=AZ hcode 12 (p:=0) (by omega) (by omega)
    obtain⟨s,p2,hl,_,_,hz⟩:=Ba hcode t l ls (p:=p1) (by omega) (by omega)
    have hd:Ev (fun k=>kJ.f k c) (t,l,ls,s):=by
      unfold kJ.f
      exact gZ hb (Ev.bind hm (Ev.bind hl (Ev.now _)))
    have hr':∀y∈ls,y.length≤9223372036854775807:=fun y hy=>by have:=hr y hy;omega
    have sm:=nR t (l:=l) (ls:=ls) (by omega) (by omega) hr'
    have im:=uy t (l:=l) (ls:=ls) (by omega) hr'
    cases hk:nf t l ls with
    |true=>
      rw[hk]at sm im
      obtain⟨q,m,ms,r,hi,hs,ok,same⟩:=yF hk (s:=s) (by omega)
      obtain⟨x,hx,hx2⟩:=yG hk
      have hsp:=xr hk
      obtain⟨o1,o2,o3⟩:=mE.1 ok
      have m1:=len8 (lv.1 o1).1
      have m3:∀y∈ms,y.length≤9223372036854775807:=fun y hy=>by have:=len8 (lv.1 (o3 y hy)).1;omega
      have hv:=rI q (l:=m) (ls:=ms) (by omega) m3
      rw[ok]at hv
      have hH:=me t x
      rw[hx2]at hH
      have hrk:=(lv.1 (mE.1 hk).1).1
      have hC:Ev (fun k=>mc.f k t l) ((kz l (all t):Nat):Int):=by
        have e:=uo t (l:=l) (by omega)
        rw[hrk]at e
        unfold mc.f
        exact Ev.bind e (lC (gZ (pF hrk) (Ev.now _)))
      have hI:∀{y:ByteArray} {R:Int×List Int×List (List Int)×ByteArray},Ev (fun k=>ll.f k t l ls y) R→Ev (fun k=>kO.f k t l ls y) R:=fun h=>Ev.bind im (lC (Ev.bind h (Ev.now _)))
      have h1:=oo t (l:=l) (ls:=ls) (by omega) (by omega) hr'
      refine fz hlen (Ev.bind hd (Ev.bind (hI hi) (Ev.bind hs (Ev.bind (oo q (l:=m) (ls:=ms) (by omega) (by omega) m3) (lC (fx rfl (Ev.bind sm (lC (Ev.bind (hI hsp) (Ev.bind (hI hx) (Ev.bind hH (Ev.bind hv (lC ?_)))))))))))))
      by_cases hok:r.toList= [111,107]
      · exact fx hok (Ev.bind h1 (lC (fx (by show what.toList= [119,104,97,116];decide+kernel) (fx rfl (Ev.bind hC (ky (Ev.now _) (beq_self_eq_true _)))))))
      · obtain⟨rfl,rfl,rfl⟩:=same hok
        exact fz hok (Ev.bind h1 (lC (Ev.bind h1 (lC (fx (by show what.toList= [119,104,97,116];decide+kernel) (fx rfl (Ev.bind hC (ky (Ev.now _) (beq_self_eq_true _)))))))))
    |false=>
      rw[hk]at sm im
      have hno:Ev (fun k=>mA.f k 0 [] []) true:=by
        unfold mA.f
        exact Ev.bind (oo 0 (by simp) (by simp) (by simp)) (Ev.now _)
      have hi:Ev (fun k=>kO.f k t l ls s) (0,[],[],(⟨#[]⟩:ByteArray)):=Ev.bind im (fz Bool.false_ne_true (Ev.now _))
      have hs:Ev (fun k=>fq.f k t l ls s) (0,[],[],(⟨#[]⟩:ByteArray)):=Ev.bind sm (fz Bool.false_ne_true (Ev.now _))
      exact fz hlen (Ev.bind hd (Ev.bind hi (Ev.bind hs (Ev.bind (oo 0 (by simp) (by simp) (by simp)) (lC (fx rfl (Ev.bind sm (nU (fx (by decide+kernel) (Ev.bind hno (lC (gZ zV (Ev.now _)))))))))))))
end Go.Proofs.YtihgpkohglcijaaGreatDoor.Pure
