/- Plain laws: what a deed done to a mind leaves. (Pdn: the reference with at most nine ranks of before; Pdx: whole; fill.py's ALIAS tells which.) -/
import Derived.Test.YtihgpkohglcijaaPx17
import Derived.Test.YtihgpkohglcijaaPdx
namespace Go.Proofs.Ytihgpkohglcijaa.Pl
open Go.RowKit Go.Proofs.YtihgpkohglcijaaW.PrintWords Go.Proofs.YtihgpkohglcijaaW.PrintLast Go.Proofs.YtihgpkohglcijaaW.PrintMore Go.Proofs.Ytihgpkohglcijaa.P Go.Proofs.Ytihgpkohglcijaa.Mt
theorem tidyOk_len {t : Int} {l : List Int} (h : tidyOk t l = true) : 0 < l.length ∧ l.length ≤ 8 := by
  have h1 := (rankOk_iff.1 (tidyOk_iff.1 h).1).2.1
  have := wn_le t
  omega
theorem mdo_len (t : Int) (l : List Int) (ls : List (List Int)) (a : Int) (s : ByteArray) : (mdo t l ls a s).2.2.1.length ≤ ls.length + 1 := by
  have no : (nope t l ls).2.2.1.length ≤ ls.length + 1 := Nat.le_succ _
  unfold mdo
  split
  · split
    · exact no
    · show (ls.dropLast).length ≤ _
      rw [List.length_dropLast]; omega
  · split
    · split
      · split
        · exact no
        · split
          · exact no
          · show (push l ls).length ≤ _
            unfold push
            split
            · rw [List.length_drop, List.length_append, List.length_singleton]; omega
            · rw [List.length_append, List.length_singleton]; omega
      · exact no
    · exact no
theorem MindDo_tot (t : Int) {l : List Int} {ls : List (List Int)} (hn : l.length ≤ 100) (hs : ls.length ≤ 9) (hl : ∀ y ∈ ls, y.length ≤ 100) (a : Int) (s : ByteArray) :
    ∃ r1 r2 r3 r4, Ev (fun k => spec_MindDo.f k t l ls a s) (r1, r2, r3, r4) ∧ (r4 = true → (0 < r2.length ∧ r2.length ≤ 8) ∧ r3.length ≤ ls.length + 1 ∧ ∀ y ∈ r3, y.length ≤ 8) := by
  have h := spec_MindDo_ev (t := t) (l := l) (ls := ls) (by omega) (by omega) (fun y hy => by have := hl y hy; omega) a s
  by_cases hm : mindOk t l ls = true
  · rw [if_pos hm] at h
    obtain ⟨o1, _, o3⟩ := mindOk_iff.1 (mdo_ok hm a s)
    exact ⟨(mdo t l ls a s).1, (mdo t l ls a s).2.1, (mdo t l ls a s).2.2.1, (mdo t l ls a s).2.2.2, h, fun _ => ⟨tidyOk_len o1, mdo_len t l ls a s, fun y hy => (tidyOk_len (o3 y hy)).2⟩⟩
  · rw [if_neg hm] at h
    exact ⟨0, [], [], false, h, fun k => by cases k⟩
end Go.Proofs.Ytihgpkohglcijaa.Pl
