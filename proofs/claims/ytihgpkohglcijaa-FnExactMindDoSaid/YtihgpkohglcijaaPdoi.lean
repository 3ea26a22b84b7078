/- Plain laws: a deed done to a mind by the program, by its public name. -/
import Derived.Test.YtihgpkohglcijaaPx16
import Derived.Test.YtihgpkohglcijaaPdo
namespace Go.Proofs.Ytihgpkohglcijaa.Pl
open Go.RowKit Go.Proofs.YtihgpkohglcijaaW.PrintWords Go.Proofs.YtihgpkohglcijaaW.PrintLast Go.Proofs.YtihgpkohglcijaaW.PrintMore Go.Proofs.Ytihgpkohglcijaa.P Go.Proofs.Ytihgpkohglcijaa.Mt
theorem impl_MindDo_ev {t : Int} {l : List Int} {ls : List (List Int)} (hn : l.length ≤ 9223372036854775807) (hl : ∀ y ∈ ls, y.length ≤ 9223372036854775807) (a : Int) (s : ByteArray) :
  Ev (fun k => impl_MindDo.f k t l ls a s) (if mindOk t l ls = true then mdo t l ls a s else (0, [], [], false)) := by
 unfold impl_MindDo.f
 refine Ev.bind (isMind_ev t hn hl) ?_
 by_cases h : mindOk t l ls = true
 ·rw [if_pos h]
  exact ev_pos h (Ev.bind (impl_mindDo_ev h a s) (Ev.now _))
 ·rw [if_neg h]
  exact ev_neg h (Ev.now _)
end Go.Proofs.Ytihgpkohglcijaa.Pl
