/- Plain laws: how many things there are. -/
import Derived.Test.YtihgpkohglcijaaPbase
namespace Go.Proofs.Ytihgpkohglcijaa.Pl
open Go.RowKit Go.Proofs.YtihgpkohglcijaaW.PrintWords Go.Proofs.YtihgpkohglcijaaW.PrintLast Go.Proofs.YtihgpkohglcijaaW.PrintMore Go.Proofs.Ytihgpkohglcijaa.P Go.Proofs.Ytihgpkohglcijaa.Mt
theorem three {t : Int} (h : 1 ≤ t ∧ t ≤ 3) : t = 1 ∨ t = 2 ∨ t = 3 := by omega
end Go.Proofs.Ytihgpkohglcijaa.Pl
