/- Plain laws: the reference's test of a set. -/
import Derived.Test.YtihgpkohglcijaaPx14
import Derived.Test.YtihgpkohglcijaaPset
namespace Go.Proofs.Ytihgpkohglcijaa.Pl
open Go.RowKit Go.Proofs.YtihgpkohglcijaaW.PrintWords Go.Proofs.YtihgpkohglcijaaW.PrintLast Go.Proofs.YtihgpkohglcijaaW.PrintMore Go.Proofs.Ytihgpkohglcijaa.P Go.Proofs.Ytihgpkohglcijaa.Mt
theorem SetOk_eq (t s : Int) : spec_SetOk.f t s = some (setOk t s) := by
 unfold spec_SetOk.f setOk
 rw [l1In_eq, Option.bind_some]
 by_cases h : 1 ≤ t ∧ t ≤ 3
 ·rw [decide_eq_true h, if_pos rfl, l1All_eq h, Option.bind_some, l1In_eq, Option.bind_some]
  congr 1
  exact decide_eq_decide.2 ⟨fun k => ⟨h, k⟩, fun k => k.2⟩
 ·rw [decide_eq_false h, if_neg (by decide)]
  congr 1
  symm
  exact decide_eq_false (fun k => h k.1)
end Go.Proofs.Ytihgpkohglcijaa.Pl
