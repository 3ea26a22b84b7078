/- Plain laws: which numbers of things there are. -/
import Derived.Test.YtihgpkohglcijaaPx4
import Derived.Test.YtihgpkohglcijaaPto
namespace Go.Proofs.Ytihgpkohglcijaa.Pl
open Go.RowKit Go.Proofs.YtihgpkohglcijaaW.PrintWords Go.Proofs.YtihgpkohglcijaaW.PrintLast Go.Proofs.YtihgpkohglcijaaW.PrintMore Go.Proofs.Ytihgpkohglcijaa.P Go.Proofs.Ytihgpkohglcijaa.Mt
theorem areThings_eq (a : Int) : impl_areThings.f a = some (decide (1 ≤ a ∧ a ≤ 3)) := by
 unfold impl_areThings.f
 by_cases h : a ≥ 1
 ·rw [if_pos h]
  congr 1
  exact decide_eq_decide.2 ⟨fun k => ⟨h, k⟩, fun k => k.2⟩
 ·rw [if_neg h]
  congr 1
  symm
  exact decide_eq_false (fun k => h k.1)
end Go.Proofs.Ytihgpkohglcijaa.Pl
