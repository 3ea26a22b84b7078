/- The whole base allows what each part allows; no set at all allows every world. -/
import Derived.Test.YteiehniidihmdaaPx44
import Derived.Test.YteiehniidihmdaaPmono
import Derived.Test.YteiehniidihmdaaPdraw
namespace Go.Proofs.Yteiehniidihmdaa.Pure
open Go.RowKit Go.Proofs.YteiehniidihmdaaW.PrintWords Go.Proofs.YteiehniidihmdaaW.PrintLast Go.Proofs.YteiehniidihmdaaW.PrintMore Go.Proofs.Yteiehniidihmdaa.P Go.Proofs.Yteiehniidihmdaa.Mt Go.Proofs.Yteiehniidihmdaa.Pl
theorem drawPartWorlds {c : List Int} (h : ∀ x ∈ c, (Lit.int .u8 x).wf = true) : ∃ t l s, Ev (fun k => spec_DrawPartWorlds.f k c) (t, l, s) ∧ l.length ≤ 7 := by
  obtain ⟨b, ho, hb⟩ := open_ev h
  obtain ⟨t, l, p', hl, _, _, q⟩ := base_ev hb (p := 0) (by omega) (by omega) 20
  obtain ⟨x, hx, _⟩ := pick_ev hb (p := p') (by omega) (by omega) (wrap64 (2 ^ (mn (l.length : Int) 6).toNat))
  obtain ⟨y, hy, _⟩ := pick_ev hb (p := p' + 1) (by omega) (by omega) 20
  obtain ⟨z, hz, _⟩ := pick_ev hb (p := p' + 1 + 1) (by omega) (by omega) 20
  exact ⟨t, l, _, ev_bindc ho (Ev.bind hl (Ev.bind hx (Ev.bind hy (Ev.bind hz (Ev.now _))))), q⟩
theorem FnPartWorlds : laws_FnPartWorlds.Pure := by
  intro c _ _ hc
  refine Ev.rounds (g := fun k => laws_FnPartWorlds.f k c) ?_
  unfold laws_FnPartWorlds.f
  by_cases h : (c.length : Int) > 1048576
  · exact ev_pos h (Ev.now _)
  obtain ⟨t, l, p, hd, hl⟩ := drawPartWorlds hc
  refine ev_neg h (Ev.bind hd (Ev.bind (impl_PartWorlds_ev t l p) (Ev.bind (PartWorlds_ev t (l := l) p (by omega)) (ev_pos rfl ?_))))
  by_cases hm : baseOk t l = true ∧ 0 ≤ p ∧ p < ((2 ^ l.length : Nat) : Int)
  · obtain ⟨hb, hp0, hp1⟩ := hm
    obtain ⟨a, b, c1⟩ := baseOk_iff.1 hb
    obtain ⟨q, rfl⟩ := Int.eq_ofNat_of_zero_le hp0
    have hq : q < 2 ^ l.length := by omega
    have e1 : partW t l (q : Int) = ((worlds t l q : Nat) : Int) := by unfold partW; rw [if_pos ⟨hb, hp0, hp1⟩]; rfl
    have h0 := Nat.two_pow_pos l.length
    have e2 : partW t l ((2 ^ l.length - 1 : Nat) : Int) = ((worlds t l (2 ^ l.length - 1) : Nat) : Int) := by
      unfold partW
      rw [if_pos ⟨hb, by omega, by omega⟩]
      rfl
    have e3 : partW t l 0 = (all t : Int) := by
      unfold partW
      rw [if_pos ⟨hb, by omega, by omega⟩]
      show ((worlds t l 0 : Nat) : Int) = _
      rw [worlds_zero]
    rw [e1]
    refine ev_neg (by omega) ?_
    rw [show wrap64 (shl .i64 1 (((t, l, (q : Int)).2.1.length : Nat) : Int) - 1) = ((2 ^ l.length - 1 : Nat) : Int) from shl_full (by omega)]
    refine Ev.bind (impl_PartWorlds_ev t l _) ?_
    rw [e2]
    refine Ev.bind (within_ev (worlds_lt _ _ _)) (ev_pos ?_ (Ev.bind (impl_PartWorlds_ev t l 0) (ev_bindc (whole_eq b) (ev_eq (Ev.now _) ?_))))
    · exact decide_eq_true (Cb.sub_and.2 (worlds_sub fun j hj _ => full_bit hj))
    · rw [e3]
      exact beq_self_eq_true _
  · have e1 : partW t l p = -1 := by unfold partW; rw [if_neg hm]
    rw [e1]
    exact ev_pos (by omega) (ev_pos rfl (ev_bindc alive_eq (Ev.now _)))
end Go.Proofs.Yteiehniidihmdaa.Pure
