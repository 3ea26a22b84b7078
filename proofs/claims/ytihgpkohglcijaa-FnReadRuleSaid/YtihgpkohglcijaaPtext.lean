/- Plain laws: the program's texts of sets are sentences of these sets. -/
import Derived.Test.YtihgpkohglcijaaPx10
import Derived.Test.YtihgpkohglcijaaPsenti
namespace Go.Proofs.Ytihgpkohglcijaa.Pl
open Go.RowKit Go.Proofs.YtihgpkohglcijaaW.PrintWords Go.Proofs.YtihgpkohglcijaaW.PrintLast Go.Proofs.YtihgpkohglcijaaW.PrintMore Go.Proofs.Ytihgpkohglcijaa.P Go.Proofs.Ytihgpkohglcijaa.Mt
/-! ### texts -/
set_option maxRecDepth 100000 in
theorem text_all : ∀ t : Fin 3, ∀ n : Fin 256, n.val ≤ all ((t.val : Int) + 1) → ((impl_sentenceOf.f 12 ((t.val : Int) + 1) (n.val : Int)).any fun s => decide (holds ((t.val : Int) + 1) s = ((n.val : Int), true))) = true := by decide +kernel
theorem text_ev {t : Int} (ht : 1 ≤ t ∧ t ≤ 3) {n : Nat} (hn : n ≤ all t) : ∃ s, Ev (fun k => impl_sentenceOf.f k t (n : Int)) s ∧ holds t s = ((n : Int), true) := by
  have h8 := all_lt t
  have et : (((t - 1).toNat : Nat) : Int) + 1 = t := by omega
  have h := text_all ⟨(t - 1).toNat, by omega⟩ ⟨n, by omega⟩
  simp only [et] at h
  cases hc : impl_sentenceOf.f 12 t (n : Int) with
  | none =>
    rw [hc] at h
    have h9 := h hn
    simp at h9
  | some s =>
    rw [hc] at h
    exact ⟨s, Ev.of (fun k => impl_sentenceOf.mono _ _ _) hc, of_decide_eq_true (h hn)⟩
end Go.Proofs.Ytihgpkohglcijaa.Pl
