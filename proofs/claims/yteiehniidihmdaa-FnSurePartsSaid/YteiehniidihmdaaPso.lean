/- What follows from a part follows from each greater one. -/
import Derived.Test.YteiehniidihmdaaPparts
import Derived.Test.YteiehniidihmdaaPmono
namespace Go.Proofs.Yteiehniidihmdaa.Pl
open Go.RowKit Go.Proofs.YteiehniidihmdaaW.PrintWords Go.Proofs.YteiehniidihmdaaW.PrintLast Go.Proofs.YteiehniidihmdaaW.PrintMore Go.Proofs.Yteiehniidihmdaa.P Go.Proofs.Yteiehniidihmdaa.Mt
theorem so_iff {t : Int} {l : List Int} {s p : Nat} : so t l s p = true ↔ Cb.Sub (worlds t l p) s := by
  unfold so
  rw [decide_eq_true_iff]
  exact Cb.sub_and
theorem so_up (t : Int) (l : List Int) (s n : Nat) : Cb.Up n (so t l s) := fun _ _ _ hab ha => so_iff.2 ((worlds_sub fun j _ e => hab j e).trans (so_iff.1 ha))
end Go.Proofs.Yteiehniidihmdaa.Pl
