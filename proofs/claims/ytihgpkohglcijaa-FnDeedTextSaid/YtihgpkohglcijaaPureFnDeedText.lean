/- For every drawn deed the program's text is the reference's, and tells the deed. -/
import Derived.Test.YtihgpkohglcijaaPx14
import Derived.Test.YtihgpkohglcijaaPread
import Derived.Test.YtihgpkohglcijaaPmnd
namespace Go.Proofs.Ytihgpkohglcijaa.Pure
open Go.RowKit Go.Proofs.YtihgpkohglcijaaW.PrintWords Go.Proofs.YtihgpkohglcijaaW.PrintLast Go.Proofs.YtihgpkohglcijaaW.PrintMore Go.Proofs.Ytihgpkohglcijaa.P Go.Proofs.Ytihgpkohglcijaa.Mt Go.Proofs.Ytihgpkohglcijaa.Pl
theorem told (kind : Int) (s : ByteArray) : (deedT kind s).toList = [] ∨ rdeed (deedT kind s) = (kind, s, true) := by
  unfold deedT
  by_cases h2 : kind = 2 ∧ s.size = 0
  · right
    rw [if_pos h2, rdeed_back back_list]
    obtain ⟨rfl, h0⟩ := h2
    have : s = (⟨#[]⟩ : ByteArray) := ext_list (by rw [(toList_nil s).2 h0]; decide +kernel)
    rw [this]
  · rw [if_neg h2]
    by_cases hp : plain s = true ∧ s.size ≠ 0
    · rw [if_pos hp]
      by_cases h0 : kind = 0
      · right
        rw [if_pos h0, rdeed_first (t := s) (by rw [list_append, first_list]) hp.1 hp.2, h0]
      · rw [if_neg h0]
        by_cases h1 : kind = 1
        · right
          rw [if_pos h1, rdeed_all (t := s) (by rw [list_append, all_list]) hp.1 hp.2, h1]
        · left
          rw [if_neg h1]
          decide +kernel
    · left
      rw [if_neg hp]
      decide +kernel
theorem deedT_size (kind : Int) (s : ByteArray) : (deedT kind s).size ≤ s.size + 6 := by
  unfold deedT
  have h1 : sFirst.size = 6 := by decide +kernel
  have h2 : sAll.size = 4 := by decide +kernel
  have h3 : sBack.size = 4 := by decide +kernel
  have h4 : (⟨#[]⟩ : ByteArray).size = 0 := by decide +kernel
  split
  · omega
  · split
    · split
      · rw [ByteArray.size_append]; omega
      · split
        · rw [ByteArray.size_append]; omega
        · omega
    · omega
theorem FnDeedText : laws_FnDeedText.Pure := by
  intro c _ _ hc
  refine Ev.rounds (g := fun k => laws_FnDeedText.f k c) ?_
  unfold laws_FnDeedText.f
  by_cases hlen : (c.length : Int) > 1048576
  · exact ev_pos hlen (Ev.now _)
  · obtain ⟨b, hb, hcode⟩ := open_ev hc
    obtain ⟨t, l, ls, p1, hm, a1, a2, _⟩ := mind_ev hcode 0 (p := 0) (by omega) (by omega)
    obtain ⟨kind, s, p2, hd, _, _, hs⟩ := deed_ev hcode t l ls (p := p1) (by omega) (by omega)
    have hdraw : Ev (fun k => spec_DrawDeedText.f k c) (kind, s) := by
      unfold spec_DrawDeedText.f
      exact ev_bindc hb (Ev.bind hm (Ev.bind hd (Ev.now _)))
    have hsz := deedT_size kind s
    refine ev_neg hlen (Ev.bind hdraw (Ev.bind (impl_DeedText_ev kind (s := s) (by omega)) (Ev.bind (spec_DeedText_ev kind (s := s) (by omega)) (ev_pos rfl ?_))))
    by_cases he : (deedT kind s).toList = []
    · exact ev_pos he (ev_bindc alive_eq (Ev.now _))
    · have ht := (told kind s).resolve_left he
      have hr := impl_ReadDeed_ev (s := deedT kind s) (by omega)
      rw [ht] at hr
      refine ev_neg he (Ev.bind hr (ev_tt (ev_eq (Ev.now _) ?_)))
      simp
end Go.Proofs.Ytihgpkohglcijaa.Pure
