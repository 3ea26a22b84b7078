/- Plain laws: a deed done to a mind: the program's and the reference's are the same. -/
import Derived.Test.YtihgpkohglcijaaPx5
import Derived.Test.YtihgpkohglcijaaPx8
import Derived.Test.YtihgpkohglcijaaPx9
import Derived.Test.YtihgpkohglcijaaPx10
import Derived.Test.YtihgpkohglcijaaPx12
import Derived.Test.YtihgpkohglcijaaPx15
import Derived.Test.YtihgpkohglcijaaPx16
import Derived.Test.YtihgpkohglcijaaPcb
import Derived.Test.YtihgpkohglcijaaPsok
import Derived.Test.YtihgpkohglcijaaPsenti
import Derived.Test.YtihgpkohglcijaaPim
import Derived.Test.YtihgpkohglcijaaPcp
namespace Go.Proofs.Ytihgpkohglcijaa.Pl
open Go.RowKit Go.Proofs.YtihgpkohglcijaaW.PrintWords Go.Proofs.YtihgpkohglcijaaW.PrintLast Go.Proofs.YtihgpkohglcijaaW.PrintMore Go.Proofs.Ytihgpkohglcijaa.P Go.Proofs.Ytihgpkohglcijaa.Mt
theorem exists_min : ∀ {l : List Int}, l ≠ [] → ∃ x ∈ l, ∀ y ∈ l, x ≤ y
 | [], h => absurd rfl h
 | [x], _ => ⟨x, List.mem_singleton.2 rfl, fun y hy => by rw [List.mem_singleton.1 hy]; exact Int.le_refl _⟩
 | x :: z :: l, _ => by
  obtain ⟨m, hm, h⟩ := exists_min (l := z :: l) (by simp)
  by_cases hx : x ≤ m
  ·refine ⟨x, List.mem_cons_self, fun y hy => ?_⟩
   rcases List.mem_cons.1 hy with rfl | hy
   ·exact Int.le_refl _
   ·exact Int.le_trans hx (h y hy)
  ·refine ⟨m, List.mem_cons_of_mem _ hm, fun y hy => ?_⟩
   rcases List.mem_cons.1 hy with rfl | hy
   ·omega
   ·exact h y hy
theorem rankOk_raise {t : Int} {l : List Int} (h : rankOk t l = true) (F : Nat) : rankOk t (tidyL (raise l F)) = true := by
 obtain ⟨ht, hl, hx, h0⟩ := rankOk_iff.1 h
 have h8 := wn_le t
 have hn : ∀ y ∈ raise l F, 0 ≤ y := fun y hy => by obtain ⟨x, h1, h2⟩ := raise_mem hy; have := hx x h1; omega
 have hlen : (raise l F).length = wn t := by rw [raise_length]; exact hl
 refine rankOk_iff.2 ⟨ht, by rw [tidyL_length]; exact hlen, fun y hy => ?_, ?_⟩
 ·obtain ⟨x, hx1, rfl⟩ := mem_tidyL.1 hy
  have := lev_lt_length hx1 (hn x hx1)
  omega
 ·obtain ⟨x, hx1, hx2⟩ := exists_min (l := raise l F) (by intro e; rw [e] at hlen; simp at hlen; omega)
  refine mem_tidyL.2 ⟨x, hx1, ?_⟩
  rw [lev_zero (fun y hy _ => hx2 y hy)]
  rfl
theorem chg_tidy {t : Int} {l : List Int} (h : rankOk t l = true) (a : Int) (s : Nat) : tidyOk t (chg l a s) = true := by
 unfold tidyOk chg
 have hx := (rankOk_iff.1 h).2.2.1
 rw [rankOk_raise h, tidyL_tidyL (fun y hy => by obtain ⟨x, h1, h2⟩ := raise_mem hy; have := hx x h1; omega), decide_eq_true rfl]
 rfl
theorem tidyOk_iff {t : Int} {l : List Int} : tidyOk t l = true ↔ rankOk t l = true ∧ tidyL l = l := by
 unfold tidyOk
 rw [Bool.and_eq_true, decide_eq_true_iff]
theorem same_l0 {x y : List Int} (hl : x.length = y.length) (hn : x.length ≤ 100) : ∀ i, i ≤ x.length → Ev (fun k => spec_SameOrder.l0 k x y (i : Int)) (decide (x.drop i = y.drop i)) := by
 apply down
 ·refine Ev.step (fun k => rfl) (ev_neg (by omega) (ev_eq (Ev.now _) ?_))
  rw [List.drop_length, List.drop_of_length_le (by omega)]
  exact (decide_eq_true rfl).symm
 ·intro i hi ih
  refine Ev.step (fun k => rfl) (ev_pos (by omega) (ev_pos (by omega) (ev_pos (by omega) ?_)))
  rw [rd_at hi, rd_at (by omega), List.drop_eq_getElem_cons hi, List.drop_eq_getElem_cons (l := y) (by omega)]
  by_cases e : x[i] = y[i]
  ·refine ev_pos e ?_
   rw [w1 hi (by omega)]
   refine ev_eq ih (decide_eq_decide.2 ?_)
   rw [List.cons.injEq]
   exact ⟨fun h => ⟨e, h⟩, fun h => h.2⟩
  ·refine ev_neg e (ev_eq (Ev.now _) ?_)
   rw [decide_eq_false (fun h => e (List.cons.inj h).1)]
theorem SameOrder_ev {t : Int} {x y : List Int} (hx : rankOk t x = true) (hy : rankOk t y = true) : Ev (fun k => spec_SameOrder.f k t x y) (decide (tidyL x = tidyL y)) := by
 have lx := (rankOk_iff.1 hx).2.1
 have ly := (rankOk_iff.1 hy).2.1
 have h8 := wn_le t
 have rx := RankOk_ev t (l := x) (by omega)
 have ry := RankOk_ev t (l := y) (by omega)
 rw [hx] at rx
 rw [hy] at ry
 unfold spec_SameOrder.f
 refine Ev.bind rx (ev_tt (Ev.bind ry ?_))
 refine Ev.step (f := fun k => if (!true) = true then (some false) else ((spec_TidyRank.f k t x).bind fun t304 => ((spec_TidyRank.f k t y).bind fun t307 => (spec_SameOrder.l0 k t304 t307 0)))) (fun k => rfl) (ev_neg (by decide) (Ev.bind (TidyRank_ev hx) (Ev.bind (TidyRank_ev hy) ?_)))
 exact same_l0 (by rw [tidyL_length, tidyL_length, lx, ly]) (by rw [tidyL_length]; omega) 0 (Nat.zero_le _)
theorem ChangedBy_ev {t : Int} {l : List Int} (h : rankOk t l = true) {v : Int} (h0 : 0 ≤ v) (h1 : v ≤ all t) {a : Int} (ha : a = 0 ∨ a = 1) : Ev (fun k => spec_ChangedBy.f k t l a v) (if v = 0 then ([], false) else (chg l a v.toNat, true)) := by
 obtain ⟨ht, hl, hx, _⟩ := rankOk_iff.1 h
 have h8 := wn_le t
 have r := RankOk_ev t (l := l) (by omega)
 rw [h] at r
 have hs : setOk t v = true := decide_eq_true ⟨ht, h0, h1⟩
 have ha8 := all_lt t
 unfold spec_ChangedBy.f
 refine Ev.bind r (ev_tt (ev_bindc (SetOk_eq t v) ?_))
 rw [hs]
 refine ev_tt ?_
 by_cases e : v = 0
 ·rw [if_pos e]
  exact ev_pos e (Ev.step (f := fun _ => some ((([] : List Int)), false)) (fun k => rfl) (Ev.now _))
 ·rw [if_neg e]
  refine ev_neg e (ev_bindc (l1In_eq _ _ _) ?_)
  rw [decide_eq_true (by omega)]
  obtain ⟨n, rfl⟩ := Int.eq_ofNat_of_zero_le h0
  rw [Int.toNat_natCast]
  refine Ev.step (f := fun k => if (!true) = true then (some ((([] : List Int)), false)) else (if a = 0 then ((spec_l2Least.f k l (n : Int)).bind fun t295 => ((spec_l6Rise.f k l t295).bind fun t296 => (some (t296, true)))) else ((spec_l6Rise.f k l (n : Int)).bind fun t299 => (some (t299, true))))) (fun k => rfl) (ev_neg (by decide) ?_)
  unfold chg
  by_cases a0 : a = 0
  ·rw [if_pos a0]
   exact ev_pos a0 (Ev.bind (l2Least_ev (by omega) n) (Ev.bind (l6Rise_ev (by omega) hx _) (Ev.now _)))
  ·rw [if_neg a0]
   exact ev_neg a0 (Ev.bind (l6Rise_ev (by omega) hx n) (Ev.now _))
/-! ### copies -/
theorem copyMind_ev (t : Int) {l : List Int} {ls : List (List Int)} (hn : l.length ≤ 100) (hs : ls.length ≤ 100) (hl : ∀ y ∈ ls, y.length ≤ 100) : Ev (fun k => impl_copyMind.f k t l ls) (t, l, ls) := by
 unfold impl_copyMind.f
 refine ev_bindc rfl (ev_pos (by show 0 + l.length < _; omega) ?_)
 rw [List.nil_append]
 have key : ∀ i, i ≤ ls.length → Ev (fun k => impl_copyMind.l0 k ls (ls.length : Int) (i : Int) t l (ls.take i)) (t, l, ls) := by
  apply down
  ·refine Ev.step (fun k => rfl) (ev_neg (by omega) (ev_eq (Ev.now _) ?_))
   rw [List.take_length]
  ·intro i hi ih
   have := hl _ (List.getElem_mem hi)
   refine Ev.step (fun k => rfl) (ev_pos (by omega) (ev_pos (by omega) (ev_pos (by omega) (ev_bindc rfl (ev_pos (by rw [rdLL_at hi]; show 0 + ls[i].length < _; omega) (ev_pos (by rw [List.length_take]; omega) ?_))))))
   rw [rdLL_at hi, w1 hi (by omega), List.nil_append]
   rw [List.take_succ_eq_append_getElem hi] at ih
   exact ih
 exact key 0 (Nat.zero_le _)
theorem mem_dropLast {α : Type} {l : List α} {y : α} (h : y ∈ l.dropLast) : y ∈ l := by rw [List.dropLast_eq_take] at h; exact List.mem_of_mem_take h
/-! ### deeds -/
def nope (t : Int) (l : List Int) (ls : List (List Int)) : Int × List Int × List (List Int) × Bool := (t, l, ls, false)
/-- A row more of before; the first one is gone if there are too many. -/
def push (l : List Int) (ls : List (List Int)) : List (List Int) := if ls.length + 1 > 10 then (ls ++ [l]).drop 1 else ls ++ [l]
def mdo (t : Int) (l : List Int) (ls : List (List Int)) (a : Int) (s : ByteArray) : Int × List Int × List (List Int) × Bool :=
 if a = 2 ∧ s.size = 0 then (if ls = [] then nope t l ls else (t, ls.getLastD [], ls.dropLast, true))
 else if a = 0 ∨ a = 1 then
  (if (holds t s).2 = true then (if (holds t s).1 = 0 then nope t l ls else (if chg l a (holds t s).1.toNat = l then nope t l ls else (t, chg l a (holds t s).1.toNat, push l ls, true))) else nope t l ls)
 else nope t l ls
theorem mindOk_iff {t : Int} {l : List Int} {ls : List (List Int)} : mindOk t l ls = true ↔ tidyOk t l = true ∧ ls.length ≤ 10 ∧ ∀ y ∈ ls, tidyOk t y = true := by
 unfold mindOk
 rw [Bool.and_eq_true, Bool.and_eq_true, decide_eq_true_iff, List.all_eq_true]
theorem rd_last {ls : List (List Int)} (h : ls ≠ []) : rd_L5 ls (wrap64 ((ls.length : Int) - 1)) = ls.getLastD [] ∧ wrap64 ((ls.length : Int) - 1) = ((ls.length - 1 : Nat) : Int) ∧ ls.take (wrap64 ((ls.length : Int) - 1)).toNat = ls.dropLast ∨ ¬ ls.length ≤ 100 := by
 by_cases hn : ls.length ≤ 100
 ·left
  have hp : 0 < ls.length := List.length_pos_iff.2 h
  have e : wrap64 ((ls.length : Int) - 1) = ((ls.length - 1 : Nat) : Int) := by rw [w64 (by omega) (by omega)]; omega
  refine ⟨?_, e, ?_⟩
  ·rw [e, rdLL_at (by omega), List.getLastD_eq_getLast?, List.getLast?_eq_getElem?, List.getElem?_eq_getElem (by omega)]
   rfl
  ·rw [e, Int.toNat_natCast, List.dropLast_eq_take]
 ·exact Or.inr hn
theorem isNil (a : Int) (s : ByteArray) : (a == 2 && (s.toList == ([] : List UInt8))) = true ↔ a = 2 ∧ s.size = 0 := by
 rw [Bool.and_eq_true, beq_iff_eq, beq_iff_eq, toList_nil]
set_option maxHeartbeats 1000000 in
theorem impl_mindDo_ev {t : Int} {l : List Int} {ls : List (List Int)} (hm : mindOk t l ls = true) (a : Int) (s : ByteArray) : Ev (fun k => impl_mindDo.f k t l ls a s) (mdo t l ls a s) := by
 obtain ⟨htl, h9, hls⟩ := mindOk_iff.1 hm
 obtain ⟨hr, _⟩ := tidyOk_iff.1 htl
 obtain ⟨ht, hl, hx, _⟩ := rankOk_iff.1 hr
 have h8 := (wn_le t).1
 have hlen : ∀ y ∈ ls, y.length ≤ 100 := fun y hy => by
  have := (rankOk_iff.1 (tidyOk_iff.1 (hls y hy)).1).2.1
  omega
 have hc := copyMind_ev t (l := l) (ls := ls) (by omega) (by omega) hlen
 unfold impl_mindDo.f mdo
 refine Ev.bind hc ?_
 by_cases hb : a = 2 ∧ s.size = 0
 ·rw [if_pos hb]
  refine ev_pos ((isNil a s).2 hb) ?_
  by_cases he : ls = []
  ·rw [if_pos he]
   subst he
   exact ev_pos (show wrap64 (((([] : List (List Int)).length : Nat) : Int) - 1) < 0 by decide +kernel) (Ev.now _)
  ·rw [if_neg he]
   have hp : 0 < ls.length := List.length_pos_iff.2 he
   obtain ⟨r1, r2, r3⟩ := (rd_last he).resolve_right (fun k => k (by omega))
   have hlast : ls.getLastD [] ∈ ls := by rw [List.getLastD_eq_getLast?, List.getLast?_eq_some_getLast he]; exact List.getLast_mem he
   have hc2 := copyMind_ev t (l := ls.getLastD []) (ls := ls.dropLast) (hlen _ hlast) (by rw [List.length_dropLast]; omega) (fun y hy => hlen y (mem_dropLast hy))
   refine ev_neg (by dsimp only; rw [r2]; omega) (ev_pos (by dsimp only; rw [r2]; omega) (ev_pos (by dsimp only; rw [r2]; omega) (ev_pos (by dsimp only; rw [r2]; omega) ?_)))
   dsimp only
   rw [r1, r3]
   exact Ev.bind hc2 (Ev.now _)
 ·rw [if_neg hb]
  refine ev_neg (fun k => hb ((isNil a s).1 k)) ?_
  have no : Ev (fun k => impl_mindDo.j0 k true t l ls a s t l ls) (nope t l ls) := Ev.step (f := fun _ => some (t, l, ls, false)) (fun k => rfl) (Ev.now _)
  have no1 : ∀ v : Int, Ev (fun k => impl_mindDo.j1 k v true t l ls a s t l ls) (nope t l ls) := fun v => Ev.step (f := fun _ => some (t, l, ls, false)) (fun k => rfl) (Ev.now _)
  have go : a = 0 ∨ a = 1 → Ev (fun k => impl_mindDo.j0 k false t l ls a s t l ls) (if (holds t s).2 = true then (if (holds t s).1 = 0 then nope t l ls else (if chg l a (holds t s).1.toNat = l then nope t l ls else (t, chg l a (holds t s).1.toNat, push l ls, true))) else nope t l ls) := by
   intro ha
   refine Ev.step (f := fun k => (impl_HoldsIn.f k t s).bind fun bt359 => (if bt359.2 = true then (impl_mindDo.j1 k bt359.1 (bt359.1 == 0) t l ls a s t l ls) else (impl_mindDo.j1 k bt359.1 true t l ls a s t l ls))) (fun k => rfl) (Ev.bind (impl_HoldsIn_ev t s) ?_)
   by_cases h2 : (holds t s).2 = true
   ·rw [if_pos h2]
    refine ev_pos h2 ?_
    have eh : holds t s = ((holds t s).1, true) := by rw [← h2]
    obtain ⟨_, v0, v1⟩ := holds_range eh
    obtain ⟨v, ev⟩ := Int.eq_ofNat_of_zero_le v0
    have hv2 : v < 2 ^ wn t := by have := all_wn ht; omega
    rw [ev, Int.toNat_natCast]
    by_cases e0 : (v : Int) = 0
    ·rw [if_pos e0, show ((v : Int) == 0) = true from by rw [e0]; rfl]
     exact no1 _
    ·rw [if_neg e0, show ((v : Int) == 0) = false from beq_eq_false_iff_ne.2 e0]
     have hq := chg_tidy hr a v
     have hql : (chg l a v).length ≤ 100 := by have := (rankOk_iff.1 (tidyOk_iff.1 hq).1).2.1; omega
     have two : Ev (fun k => impl_mindDo.j2 k (v : Int) a t l ls t l ls) (if chg l a v = l then nope t l ls else (t, chg l a v, push l ls, true)) := by
      refine Ev.step (f := fun k => (impl_changedBy.f k t l a (v : Int)).bind fun t361 => ((slices_Equal_int_int.f k t361 l).bind fun t364 => (if t364 = true then (some (t, l, ls, false)) else (if ls.length < 5864062014805 then ((some (ls ++ [l] : List (List Int))).bind fun y365 => (if (y365.length : Int) > 10 then (if 1 ≤ (y365.length : Int) then ((impl_copyMind.f k t t361 (y365.drop (1 : Int).toNat)).bind fun bt368 => (some (bt368.1, bt368.2.1, bt368.2.2, true))) else (none)) else ((impl_copyMind.f k t t361 y365).bind fun bt368 => (some (bt368.1, bt368.2.1, bt368.2.2, true))))) else (none))))) (fun k => rfl) (Ev.bind (changed_ev ht hl hx hv2 a) (Ev.bind (Equal_ev (by omega)) ?_))
      by_cases e : chg l a v = l
      ·rw [if_pos e]
       exact ev_pos (decide_eq_true e) (Ev.now _)
      ·rw [if_neg e]
       have hall : ∀ y ∈ ls ++ [l], y.length ≤ 100 := fun y hy => by
        rcases List.mem_append.1 hy with hy | hy
        ·exact hlen y hy
        ·rw [List.mem_singleton.1 hy]; omega
       have hln : (ls ++ [l]).length = ls.length + 1 := by rw [List.length_append, List.length_singleton]
       refine ev_neg (by rw [decide_eq_false e]; decide) (ev_pos (by omega) (ev_bindc rfl ?_))
       unfold push
       by_cases h10 : ls.length + 1 > 10
       ·rw [if_pos h10]
        have hc3 := copyMind_ev t (l := chg l a v) (ls := (ls ++ [l]).drop 1) hql (by rw [List.length_drop]; omega) (fun y hy => hall y (List.mem_of_mem_drop hy))
        exact ev_pos (by rw [hln]; omega) (ev_pos (by rw [hln]; omega) (Ev.bind hc3 (Ev.now _)))
       ·rw [if_neg h10]
        have hc3 := copyMind_ev t (l := chg l a v) (ls := ls ++ [l]) hql (by omega) hall
        exact ev_neg (by rw [hln]; omega) (Ev.bind hc3 (Ev.now _))
     refine Ev.step (f := fun k => if a = 1 then (impl_mindDo.j2 k (v : Int) 1 t l ls t l ls) else (impl_mindDo.j2 k (v : Int) 0 t l ls t l ls)) (fun k => rfl) ?_
     rcases ha with rfl | rfl
     ·exact ev_neg (by decide) two
     ·exact ev_pos rfl two
   ·rw [if_neg h2]
    exact ev_neg h2 (no1 _)
  by_cases a0 : a = 0
  ·rw [if_pos (Or.inl a0)]
   exact ev_pos a0 (go (Or.inl a0))
  ·refine ev_neg a0 ?_
   by_cases a1 : a = 1
   ·rw [if_pos (Or.inr a1), show (a != 1) = false from by rw [a1]; rfl]
    exact go (Or.inr a1)
   ·rw [if_neg (by omega), show (a != 1) = true from bne_iff_ne.2 a1]
    exact no
theorem push_len {l : List Int} {ls : List (List Int)} (h : ls.length ≤ 10) : (push l ls).length ≤ 10 := by
 unfold push
 split
 ·rw [List.length_drop, List.length_append, List.length_singleton]; omega
 ·rw [List.length_append, List.length_singleton]; omega
theorem push_mem {l y : List Int} {ls : List (List Int)} (h : y ∈ push l ls) : y ∈ ls ∨ y = l := by
 have : y ∈ ls ++ [l] := by
  unfold push at h
  split at h
  ·exact List.mem_of_mem_drop h
  ·exact h
 rcases List.mem_append.1 this with k | k
 ·exact Or.inl k
 ·exact Or.inr (List.mem_singleton.1 k)
theorem mdo_ok {t : Int} {l : List Int} {ls : List (List Int)} (hm : mindOk t l ls = true) (a : Int) (s : ByteArray) : mindOk (mdo t l ls a s).1 (mdo t l ls a s).2.1 (mdo t l ls a s).2.2.1 = true := by
 obtain ⟨htl, h10, hls⟩ := mindOk_iff.1 hm
 unfold mdo
 have no : mindOk (nope t l ls).1 (nope t l ls).2.1 (nope t l ls).2.2.1 = true := hm
 split
 ·split
  ·exact no
  ·rename_i he
   have hlast : ls.getLastD [] ∈ ls := by rw [List.getLastD_eq_getLast?, List.getLast?_eq_some_getLast he]; exact List.getLast_mem he
   exact mindOk_iff.2 ⟨hls _ hlast, by rw [List.length_dropLast]; omega, fun y hy => hls y (mem_dropLast hy)⟩
 ·split
  ·split
   ·split
    ·exact no
    ·split
     ·exact no
     ·exact mindOk_iff.2 ⟨chg_tidy (tidyOk_iff.1 htl).1 _ _, push_len h10, fun y hy => (push_mem hy).elim (hls y) (fun e => e ▸ htl)⟩
   ·exact no
  ·exact no
end Go.Proofs.Ytihgpkohglcijaa.Pl
