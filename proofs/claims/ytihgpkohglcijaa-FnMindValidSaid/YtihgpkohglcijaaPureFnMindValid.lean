/- For every drawn mind the program says what the reference says. -/
import Derived.Test.YtihgpkohglcijaaPx4
import Derived.Test.YtihgpkohglcijaaPx14
import Derived.Test.YtihgpkohglcijaaPmnd
import Derived.Test.YtihgpkohglcijaaPmv
namespace Go.Proofs.Ytihgpkohglcijaa.Pure
open Go.RowKit Go.Proofs.YtihgpkohglcijaaW.PrintWords Go.Proofs.YtihgpkohglcijaaW.PrintLast Go.Proofs.YtihgpkohglcijaaW.PrintMore Go.Proofs.Ytihgpkohglcijaa.P Go.Proofs.Ytihgpkohglcijaa.Mt Go.Proofs.Ytihgpkohglcijaa.Pl
theorem FnMindValid : laws_FnMindValid.Pure := by
 intro c _ _ hc
 refine Ev.rounds (g := fun k => laws_FnMindValid.f k c) ?_
 unfold laws_FnMindValid.f
 by_cases hlen : (c.length : Int) > 1048576
 ·exact ev_pos hlen (Ev.now _)
 ·obtain ⟨b, hb, hcode⟩ := open_ev hc
  obtain ⟨t, l, ls, p', hm, _, _, h8, h6, hr⟩ := mind_ev hcode 2 (p := 0) (by omega) (by omega)
  have hd : Ev (fun k => spec_DrawMindValid.f k c) (t, l, ls) := by
   unfold spec_DrawMindValid.f
   exact ev_bindc hb (Ev.bind hm (Ev.now _))
  have hr' : ∀ y ∈ ls, y.length ≤ 9223372036854775807 := fun y hy => by have := hr y hy; omega
  have hi := impl_MindValid_ev t (l := l) (ls := ls) (by omega) hr'
  have hs := spec_MindValid_ev t (l := l) (ls := ls) (by omega) (by omega) hr'
  have hno : Ev (fun k => impl_MindValid.f k 0 [] []) false := by
   have := impl_MindValid_ev 0 (l := []) (ls := []) (by simp) (by simp)
   rw [show mindOk 0 [] [] = false from by decide] at this
   exact this
  refine ev_neg hlen (Ev.bind hd (Ev.bind hi (Ev.bind hs (ev_neg (by simp) ?_))))
  cases hk : mindOk t l ls with
  | true =>
   have h1 := impl_MindValid_ev t (l := l) (ls := []) (by omega) (by simp)
   have : mindOk t l [] = true := by
    unfold mindOk at hk ⊢
    rw [Bool.and_eq_true] at hk
    rw [hk.1]
    rfl
   rw [this] at h1
   exact ev_tt (Ev.bind h1 (ev_tt (Ev.bind hno (ev_ff (ev_bindc alive_eq (Ev.now _))))))
  | false => exact ev_ff (Ev.bind hno (ev_ff (ev_bindc alive_eq (Ev.now _))))
end Go.Proofs.Ytihgpkohglcijaa.Pure
