/- For every drawn text the program reads the deed that the reference reads, and no other text tells it. -/
import Derived.Test.YtihgpkohglcijaaPx2
import Derived.Test.YtihgpkohglcijaaPx3
import Derived.Test.YtihgpkohglcijaaPx14
import Derived.Test.YtihgpkohglcijaaPrds
import Derived.Test.YtihgpkohglcijaaPmnd
namespace Go.Proofs.Ytihgpkohglcijaa.Pure
open Go.RowKit Go.Proofs.YtihgpkohglcijaaW.PrintWords Go.Proofs.YtihgpkohglcijaaW.PrintLast Go.Proofs.YtihgpkohglcijaaW.PrintMore Go.Proofs.Ytihgpkohglcijaa.P Go.Proofs.Ytihgpkohglcijaa.Mt Go.Proofs.Ytihgpkohglcijaa.Pl
theorem plain_last {t : ByteArray} (hp : plain t = true) {L : List UInt8} (h : t.toList = L ++ [10]) : False := by
  have hsz : t.size = L.length + 1 := by rw [← size_list, h, List.length_append]; rfl
  have hi : L.length < t.size := by omega
  unfold plain at hp
  rw [List.all_eq_true] at hp
  have h1 := of_decide_eq_true (hp L.length (List.mem_range.2 hi))
  rw [bt_list t hi] at h1
  have : t.toList[L.length]'(by rw [size_list]; exact hi) = 10 := by simp [h]
  rw [this] at h1
  exact absurd h1.1 (by decide)
theorem ends {p t L : List UInt8} {b : UInt8} (h : L ++ [b] = p ++ t) (h0 : t ≠ []) : ∃ M, t = M ++ [b] := by
  rcases List.eq_nil_or_concat t with e | ⟨M, c, e⟩
  · exact absurd e h0
  · rw [e, List.concat_eq_append, ← List.append_assoc] at h
    have := (List.append_inj' h rfl).2
    exact ⟨M, by rw [e, List.concat_eq_append, this]⟩
theorem no_more (s : ByteArray) : rdeed (s ++ (⟨#[10]⟩ : ByteArray)) = (0, (⟨#[]⟩ : ByteArray), false) := by
  have e : (s ++ (⟨#[10]⟩ : ByteArray)).toList = s.toList ++ [10] := by rw [list_append]; congr 1; decide +kernel
  have key : ∀ (p : List UInt8) (t : ByteArray), (s ++ (⟨#[10]⟩ : ByteArray)).toList = p ++ t.toList → ¬ (plain t = true ∧ t.size ≠ 0) := by
    intro p t h k
    rw [e] at h
    obtain ⟨M, hM⟩ := ends h (fun q => k.2 ((toList_nil t).1 q))
    exact plain_last k.1 hM
  refine rdeed_none (fun h => ?_) (fun t h => key _ t h) (fun t h => key _ t h)
  rw [e] at h
  have : s.toList ++ [10] = [98, 97, 99] ++ [99 + 8] := h
  have := (List.append_inj' (s₁ := s.toList) (t₁ := [10]) (s₂ := [98, 97, 99]) (t₂ := [107]) h rfl).2
  exact absurd this (by decide)
theorem deedT_size (kind : Int) (s : ByteArray) : (deedT kind s).size ≤ s.size + 6 := by
  unfold deedT
  have h1 : sFirst.size = 6 := by decide +kernel
  have h2 : sAll.size = 4 := by decide +kernel
  have h3 : sBack.size = 4 := by decide +kernel
  have h4 : (⟨#[]⟩ : ByteArray).size = 0 := by decide +kernel
  split
  · omega
  · split
    · split
      · rw [ByteArray.size_append]; omega
      · split
        · rw [ByteArray.size_append]; omega
        · omega
    · omega
theorem spoil_ev {b : List Int} (hb : Pl.Code b) {p : Int} (h0 : 0 ≤ p) (h1 : p ≤ 700000000) {s : ByteArray} (hs : s.size ≤ 1000) : ∃ r p', Ev (fun k => spec_l20Spoil.f k b p s) (r, p') ∧ r.size ≤ 3000 := by
  unfold spec_l20Spoil.f
  by_cases hz : (s.size : Int) = 0
  · exact ⟨_, p, ev_pos hz (Ev.now _), by decide⟩
  · obtain ⟨i, hi, i0, i1, _⟩ := pick_ev hb h0 (by omega) (s.size : Int)
    have i1 := i1 (by omega)
    obtain ⟨j, hj, j0, j1, _⟩ := pick_ev hb (p := p + 1) (by omega) (by omega) 6
    have j1 := j1 (by omega)
    obtain ⟨n, rfl⟩ := Int.eq_ofNat_of_zero_le i0
    have hw : wrap64 ((n : Int) + 1) = ((n + 1 : Nat) : Int) := w1 (n := s.size) (by omega) (by omega)
    have e1 : (s.extract 0 ((n : Int)).toNat).size ≤ 1000 := by rw [ByteArray.size_extract]; omega
    have e2 : (s.extract (((n + 1 : Nat) : Int)).toNat s.size).size ≤ 1000 := by rw [ByteArray.size_extract]; omega
    have e3 : (rdOf ByteArray.empty [(⟨#[]⟩ : ByteArray), (⟨#[97]⟩ : ByteArray), (⟨#[32]⟩ : ByteArray), (⟨#[10]⟩ : ByteArray), (⟨#[40]⟩ : ByteArray), (⟨#[98, 97, 99, 107]⟩ : ByteArray)] j).size ≤ 4 := by
      have : j = 0 ∨ j = 1 ∨ j = 2 ∨ j = 3 ∨ j = 4 ∨ j = 5 := by omega
      rcases this with rfl | rfl | rfl | rfl | rfl | rfl <;> decide +kernel
    refine ⟨_, _, ev_neg hz (Ev.bind hi (ev_pos i0 (ev_pos (by show (n : Int) ≤ _; omega) (ev_bindc rfl (Ev.bind hj (ev_pos j0 (ev_pos (by show j < 6; omega) (ev_pos (by dsimp only; omega) (ev_pos (by dsimp only; rw [hw]; omega) (ev_pos (by dsimp only; rw [hw]; omega) (ev_pos ?_ (Ev.now _)))))))))))), ?_⟩
    · dsimp only
      rw [hw, ByteArray.size_append]; omega
    · dsimp only
      rw [hw, ByteArray.size_append, ByteArray.size_append]; omega
theorem FnReadDeed : laws_FnReadDeed.Pure := by
  intro c _ _ hc
  refine Ev.rounds (g := fun k => laws_FnReadDeed.f k c) ?_
  unfold laws_FnReadDeed.f
  by_cases hlen : (c.length : Int) > 1048576
  · exact ev_pos hlen (Ev.now _)
  · obtain ⟨b, hb, hcode⟩ := open_ev hc
    obtain ⟨t, l, ls, p1, hm, a1, a2, _⟩ := mind_ev hcode 0 (p := 0) (by omega) (by omega)
    obtain ⟨kind, x, p2, hd, b1, b2, hx⟩ := deed_ev hcode t l ls (p := p1) (by omega) (by omega)
    have hsz := deedT_size kind x
    obtain ⟨y, hy, _, _, _⟩ := pick_ev hcode (p := p2) (by omega) (by omega) 3
    have hdraw : ∃ s, Ev (fun k => spec_DrawReadDeed.f k c) s ∧ s.size ≤ 3000 := by
      unfold spec_DrawReadDeed.f
      by_cases e : y = 0
      · obtain ⟨r, p', hr, hrs⟩ := spoil_ev hcode (p := p2 + 1) (by omega) (by omega) (s := deedT kind x) (by omega)
        exact ⟨r, ev_bindc hb (Ev.bind hm (Ev.bind hd (Ev.bind (spec_DeedText_ev kind (s := x) (by omega)) (Ev.bind hy (ev_pos e (Ev.bind hr (Ev.now _))))))), hrs⟩
      · exact ⟨deedT kind x, ev_bindc hb (Ev.bind hm (Ev.bind hd (Ev.bind (spec_DeedText_ev kind (s := x) (by omega)) (Ev.bind hy (ev_neg e (Ev.now _)))))), by omega⟩
    obtain ⟨s, hs, hss⟩ := hdraw
    have hi := impl_ReadDeed_ev (s := s) (by omega)
    have hsp := spec_ReadDeed_ev (s := s) (by omega)
    refine ev_neg hlen (Ev.bind hs (Ev.bind hi (Ev.bind hsp (ev_neg (by simp) ?_))))
    have eb : ((rdeed s).2.2 != (rdeed s).2.2) = false := by simp
    rw [eb]
    have st : ∀ {r} (a : Int) (z : ByteArray) (ok : Bool), Ev (fun k => if ok = true then (if s.size + 1 ≤ 9223372036854775807 then ((impl_ReadDeed.f k (s ++ (⟨#[10]⟩ : ByteArray))).bind fun bt455 => ((impl_DeedText.f k a z).bind fun t459 => (if t459.toList = s.toList then (some (!bt455.2.2)) else (some false)))) else (none)) else (if (a == 0 && (z.toList == ([] : List UInt8))) = true then ((laws_alive.f).bind fun t460 => (some t460)) else (some false))) r → Ev (fun k => laws_FnReadDeed.j0 k s ok false a z) r := fun a z ok h => Ev.step (fun k => rfl) h
    have hmore := impl_ReadDeed_ev (s := s ++ (⟨#[10]⟩ : ByteArray)) (by rw [ByteArray.size_append]; have : (⟨#[10]⟩ : ByteArray).size = 1 := rfl; omega)
    rw [no_more] at hmore
    have good : ∀ (a : Int) (z : ByteArray), z.size ≤ 3000 → (deedT a z).toList = s.toList → Ev (fun k => laws_FnReadDeed.j0 k s true false a z) true := fun a z hz h =>
      st a z true (ev_tt (ev_pos (by omega) (Ev.bind hmore (Ev.bind (impl_DeedText_ev a (s := z) (by omega)) (ev_pos h (Ev.now _))))))
    rcases rdeed_cases s with ⟨h1, h2⟩ | ⟨z, h1, hp, hz, h2⟩ | ⟨z, h1, hp, hz, h2⟩ | ⟨_, _, _, h2⟩
    · rw [h2]
      exact good 2 (⟨#[]⟩ : ByteArray) (by decide) (by rw [h1]; exact deedT2 _ rfl)
    · have hl : s.size = 6 + z.size := by rw [← size_list, h1, List.length_append, size_list]; rfl
      rw [h2]
      exact good 0 z (by omega) ((deedT0 s z).2 (Or.inl ⟨h1, hp, hz⟩))
    · have hl : s.size = 4 + z.size := by rw [← size_list, h1, List.length_append, size_list]; rfl
      rw [h2]
      exact good 1 z (by omega) ((deedT1 s z).2 (Or.inl ⟨h1, hp, hz⟩))
    · rw [h2]
      exact st 0 (⟨#[]⟩ : ByteArray) false (ev_ff (ev_pos (by rw [nil_list]; decide) (ev_bindc alive_eq (Ev.now _))))
end Go.Proofs.Ytihgpkohglcijaa.Pure
