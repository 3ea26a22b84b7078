/- Plain laws: how many things there are. -/
import Derived.Test.YtihgpkohglcijaaPbase
namespace Go.Proofs.Ytihgpkohglcijaa.Pl
open Go.RowKit Go.Proofs.YtihgpkohglcijaaW.PrintWords Go.Proofs.YtihgpkohglcijaaW.PrintLast Go.Proofs.YtihgpkohglcijaaW.PrintMore Go.Proofs.Ytihgpkohglcijaa.P Go.Proofs.Ytihgpkohglcijaa.Mt
theorem three {t : Int} (h : 1 ≤ t ∧ t ≤ 3) : t = 1 ∨ t = 2 ∨ t = 3 := by omega
def wn (t : Int) : Nat := if t = 1 then 2 else if t = 2 then 4 else 8
theorem wn_le (t : Int) : wn t ≤ 8 ∧ 2 ≤ wn t := by unfold wn; split <;> (try split) <;> omega
theorem shl_wn {t : Int} (h : 1 ≤ t ∧ t ≤ 3) : shl .i64 1 t = (wn t : Int) := by rcases three h with rfl | rfl | rfl <;> decide +kernel
end Go.Proofs.Ytihgpkohglcijaa.Pl
