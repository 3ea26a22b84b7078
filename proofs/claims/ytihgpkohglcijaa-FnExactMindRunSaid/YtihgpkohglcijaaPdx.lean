/- Plain laws: a deed done to a mind by the reference (whole). -/
import Derived.Test.YtihgpkohglcijaaPx11
import Derived.Test.YtihgpkohglcijaaPx13
import Derived.Test.YtihgpkohglcijaaPx15
import Derived.Test.YtihgpkohglcijaaPx16
import Derived.Test.YtihgpkohglcijaaPx17
import Derived.Test.YtihgpkohglcijaaPdo
namespace Go.Proofs.Ytihgpkohglcijaa.Pl
open Go.RowKit Go.Proofs.YtihgpkohglcijaaW.PrintWords Go.Proofs.YtihgpkohglcijaaW.PrintLast Go.Proofs.YtihgpkohglcijaaW.PrintMore Go.Proofs.Ytihgpkohglcijaa.P Go.Proofs.Ytihgpkohglcijaa.Mt
set_option maxHeartbeats 1000000 in
theorem spec_MindDo_ev {t : Int} {l : List Int} {ls : List (List Int)} (hn : l.length ≤ 9223372036854775807) (hs : ls.length ≤ 9223372036854775807) (hl : ∀ y ∈ ls, y.length ≤ 9223372036854775807) (a : Int) (s : ByteArray) :
  Ev (fun k => spec_MindDo.f k t l ls a s) (if mindOk t l ls = true then mdo t l ls a s else (0, [], [], false)) := by
 unfold spec_MindDo.f
 refine Ev.bind (spec_MindValid_ev t hn hs hl) ?_
 by_cases hm : mindOk t l ls = true
 ·rw [if_pos hm]
  refine ev_pos hm ?_
  obtain ⟨htl, h9, hls⟩ := mindOk_iff.1 hm
  obtain ⟨hr, htd⟩ := tidyOk_iff.1 htl
  obtain ⟨ht, hll, hx, _⟩ := rankOk_iff.1 hr
  have h8 := (wn_le t).1
  have hlen : ∀ y ∈ ls, y.length ≤ 100 := fun y hy => by
   have := (rankOk_iff.1 (tidyOk_iff.1 (hls y hy)).1).2.1
   omega
  refine Ev.bind (l10Copy_ev t (by omega) (by omega) hlen) ?_
  unfold mdo
  have no1 : ∀ v : Int, Ev (fun k => spec_MindDo.j1 k v true t l ls a s t l ls) (nope t l ls) := fun v => Ev.step (f := fun _ => some (t, l, ls, false)) (fun k => rfl) (Ev.now _)
  have go : Ev (fun k => spec_MindDo.j0 k false t l ls a s t l ls) (if a = 0 ∨ a = 1 then (if (holds t s).2 = true then (if (holds t s).1 = 0 then nope t l ls else (if chg l a (holds t s).1.toNat = l then nope t l ls else (t, chg l a (holds t s).1.toNat, push l ls, true))) else nope t l ls) else nope t l ls) := by
   refine Ev.step (f := fun k => (spec_HoldsIn.f k t s).bind fun bt325 => (if bt325.2 = true then ((spec_l1In.f a 0 1).bind fun t327 => (spec_MindDo.j1 k bt325.1 (!t327) t l ls a s t l ls)) else (spec_MindDo.j1 k bt325.1 true t l ls a s t l ls))) (fun k => rfl) (Ev.bind (spec_HoldsIn_ev t s) ?_)
   by_cases h2 : (holds t s).2 = true
   ·refine ev_pos h2 (ev_bindc (l1In_eq _ _ _) ?_)
    by_cases ha : a = 0 ∨ a = 1
    ·rw [if_pos ha, if_pos h2, decide_eq_true (by omega)]
     have eh : holds t s = ((holds t s).1, true) := by rw [← h2]
     obtain ⟨_, v0, v1⟩ := holds_range eh
     have hch := ChangedBy_ev hr v0 v1 ha
     obtain ⟨v, ev⟩ := Int.eq_ofNat_of_zero_le v0
     rw [ev] at hch ⊢
     rw [Int.toNat_natCast] at hch ⊢
     have no2 : ∀ q : List Int, Ev (fun k => spec_MindDo.j2 k q true t l ls) (nope t l ls) := fun q => Ev.step (f := fun _ => some (t, l, ls, false)) (fun k => rfl) (Ev.now _)
     refine Ev.step (f := fun k => (spec_ChangedBy.f k t l a (v : Int)).bind fun bt328 => (if bt328.2 = true then ((spec_SameOrder.f k t bt328.1 l).bind fun t332 => (spec_MindDo.j2 k bt328.1 t332 t l ls)) else (spec_MindDo.j2 k bt328.1 true t l ls))) (fun k => rfl) (Ev.bind hch ?_)
     by_cases e0 : (v : Int) = 0
     ·rw [if_pos e0, if_pos e0]
      exact ev_ff (no2 _)
     ·rw [if_neg e0, if_neg e0]
      have hq := chg_tidy hr a v
      obtain ⟨hq1, hq2⟩ := tidyOk_iff.1 hq
      have hso := SameOrder_ev hq1 hr
      rw [hq2, htd] at hso
      refine ev_tt (Ev.bind hso ?_)
      by_cases e : chg l a v = l
      ·rw [if_pos e, decide_eq_true e]
       exact no2 _
      ·rw [if_neg e, decide_eq_false e]
       refine Ev.step (f := fun k => if ls.length < 5864062014805 then ((some (ls ++ [l] : List (List Int))).bind fun y333 => (if (y333.length : Int) > 10 then (some (t, chg l a v, y333.drop (1 : Int).toNat, true)) else (some (t, chg l a v, y333, true)))) else (none)) (fun k => rfl) (ev_pos (by omega) (ev_bindc rfl ?_))
       have hln : (ls ++ [l]).length = ls.length + 1 := by rw [List.length_append, List.length_singleton]
       unfold push
       by_cases h10 : ls.length + 1 > 10
       ·rw [if_pos h10]
        exact ev_pos (by rw [hln]; omega) (Ev.now _)
       ·rw [if_neg h10]
        exact ev_neg (by rw [hln]; omega) (Ev.now _)
    ·rw [if_neg ha, decide_eq_false (by omega)]
     exact no1 _
   ·refine ev_neg h2 ?_
    by_cases ha : a = 0 ∨ a = 1
    ·rw [if_pos ha, if_neg h2]
     exact no1 _
    ·rw [if_neg ha]
     exact no1 _
  by_cases hb : a = 2 ∧ s.size = 0
  ·rw [if_pos hb]
   refine ev_pos ((isNil a s).2 hb) ?_
   by_cases he : ls = []
   ·rw [if_pos he]
    rw [if_neg (by omega)] at go
    rw [show decide (((ls.length : Nat) : Int) > 0) = false from by rw [he]; rfl]
    exact go
   ·rw [if_neg he]
    have hp : 0 < ls.length := List.length_pos_iff.2 he
    obtain ⟨r1, r2, r3⟩ := (rd_last he).resolve_right (fun k => k (by omega))
    rw [decide_eq_true (by omega)]
    refine Ev.step (f := fun k => if 0 ≤ (wrap64 ((ls.length : Int) - 1)) then (if (wrap64 ((ls.length : Int) - 1)) < (ls.length : Int) then (some (t, rd_L5 ls (wrap64 ((ls.length : Int) - 1)), ls.take (wrap64 ((ls.length : Int) - 1)).toNat, true)) else (none)) else (none)) (fun k => rfl) (ev_pos (by rw [r2]; omega) (ev_pos (by rw [r2]; omega) ?_))
    rw [r1, r3]
    exact Ev.now _
  ·rw [if_neg hb]
   exact ev_neg (fun k => hb ((isNil a s).1 k)) go
 ·rw [if_neg hm]
  exact ev_neg hm (Ev.now _)
end Go.Proofs.Ytihgpkohglcijaa.Pl
