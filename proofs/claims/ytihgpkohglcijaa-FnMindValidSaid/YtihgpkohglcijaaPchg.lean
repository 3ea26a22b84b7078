/- Plain laws: the reference's deeds say something on every mind. -/
import Derived.Test.YtihgpkohglcijaaPx2
import Derived.Test.YtihgpkohglcijaaPx5
import Derived.Test.YtihgpkohglcijaaPx6
import Derived.Test.YtihgpkohglcijaaPx7
import Derived.Test.YtihgpkohglcijaaPx8
import Derived.Test.YtihgpkohglcijaaPx9
import Derived.Test.YtihgpkohglcijaaPhold
import Derived.Test.YtihgpkohglcijaaPnw
namespace Go.Proofs.Ytihgpkohglcijaa.Pl
open Go.RowKit Go.Proofs.YtihgpkohglcijaaW.PrintWords Go.Proofs.YtihgpkohglcijaaW.PrintLast Go.Proofs.YtihgpkohglcijaaW.PrintMore Go.Proofs.Ytihgpkohglcijaa.P Go.Proofs.Ytihgpkohglcijaa.Mt
theorem l2Least_tot {l : List Int} (hn : l.length ≤ 100) (s : Int) : ∃ r, Ev (fun k => spec_l2Least.f k l s) r := by
 unfold spec_l2Least.f
 have l1 : ∀ i : Nat, i ≤ l.length → ∀ m o : Int, ∃ r, Ev (fun k => spec_l2Least.l1 k l s m o (i : Int)) r := by
  apply down
  ·exact fun m o => ⟨o, Ev.step (fun k => rfl) (ev_neg (by omega) (Ev.now _))⟩
  ·intro i hi ih m o
   obtain ⟨x, hx⟩ := l1Bit_c s i
   by_cases h1 : x = 1
   ·by_cases h2 : rd l (i : Int) = m
    ·obtain ⟨r, hr⟩ := ih m (wrap64 (o + (shl .i64 1 (i : Int))))
     refine ⟨r, Ev.step (fun k => rfl) (ev_pos (by omega) (ev_bindc hx (ev_pos h1 (ev_pos (by omega) (ev_pos h2 ?_)))))⟩
     rw [w1 hi (by omega)]; exact hr
    ·obtain ⟨r, hr⟩ := ih m o
     refine ⟨r, Ev.step (fun k => rfl) (ev_pos (by omega) (ev_bindc hx (ev_pos h1 (ev_pos (by omega) (ev_neg h2 ?_)))))⟩
     rw [w1 hi (by omega)]; exact hr
   ·obtain ⟨r, hr⟩ := ih m o
    refine ⟨r, Ev.step (fun k => rfl) (ev_pos (by omega) (ev_bindc hx (ev_neg h1 ?_)))⟩
    rw [w1 hi (by omega)]; exact hr
 have l0 : ∀ i : Nat, i ≤ l.length → ∀ m : Int, ∃ r, Ev (fun k => spec_l2Least.l0 k l s m (i : Int)) r := by
  apply down
  ·intro m
   obtain ⟨r, hr⟩ := l1 0 (Nat.zero_le _) m 0
   exact ⟨r, Ev.step (fun k => rfl) (ev_neg (by omega) hr)⟩
  ·intro i hi ih m
   obtain ⟨x, hx⟩ := l1Bit_c s i
   by_cases h1 : x = 1
   ·obtain ⟨r, hr⟩ := ih (mn m (rd l (i : Int)))
    refine ⟨r, Ev.step (fun k => rfl) (ev_pos (by omega) (ev_bindc hx (ev_pos h1 (ev_pos (by omega) ?_))))⟩
    rw [w1 hi (by omega)]; exact hr
   ·obtain ⟨r, hr⟩ := ih m
    refine ⟨r, Ev.step (fun k => rfl) (ev_pos (by omega) (ev_bindc hx (ev_neg h1 ?_)))⟩
    rw [w1 hi (by omega)]; exact hr
 exact l0 0 (Nat.zero_le _) 10
theorem l6Tidy_tot {l : List Int} (hn : l.length ≤ 100) : ∃ r, Ev (fun k => spec_l6Tidy.f k l) r ∧ r.length = l.length := by
 unfold spec_l6Tidy.f
 have l2 : ∀ (out seen : List Int) (w v : Nat) (hv : v < l.length) (hs : seen.length ≤ v),
   (∀ seen' : List Int, seen'.length ≤ v + 1 → ∃ r, Ev (fun k => spec_l6Tidy.l1 k l out (w : Int) seen' ((v + 1 : Nat) : Int)) r ∧ r.length = l.length) →
   ∀ u : Nat, u ≤ seen.length → ∀ b : Bool, ∃ r, Ev (fun k => spec_l6Tidy.l2 k l out (w : Int) seen (v : Int) b (u : Int)) r ∧ r.length = l.length := by
  intro out seen w v hv hs hnext
  apply down
  ·intro b
   cases b with
   | true =>
    obtain ⟨r, hr, h2⟩ := hnext seen (by omega)
    refine ⟨r, Ev.step (fun k => rfl) (ev_neg (by omega) (ev_pos rfl ?_)), h2⟩
    rw [w1 hv (by omega)]; exact hr
   | false =>
    obtain ⟨r, hr, h2⟩ := hnext (seen ++ [rd l (v : Int)]) (by rw [List.length_append, List.length_singleton]; omega)
    refine ⟨r, Ev.step (fun k => rfl) (ev_neg (by omega) (ev_neg (by decide) (ev_pos (by omega) (ev_pos (by omega) (ev_pos (by omega) ?_))))), h2⟩
    rw [w1 hv (by omega)]; exact hr
  ·intro u hu ih b
   cases b with
   | true =>
    obtain ⟨r, hr, h2⟩ := ih true
    refine ⟨r, Ev.step (fun k => rfl) (ev_pos (by omega) (ev_pos rfl ?_)), h2⟩
    rw [w1 hu (by omega)]; exact hr
   | false =>
    obtain ⟨r, hr, h2⟩ := ih (rd seen (u : Int) == rd l (v : Int))
    refine ⟨r, Ev.step (fun k => rfl) (ev_pos (by omega) (ev_neg (by decide) (ev_pos (by omega) (ev_pos (by omega) (ev_pos (by omega) ?_))))), h2⟩
    rw [w1 hu (by omega)]; exact hr
 have l1 : ∀ (out : List Int) (w : Nat) (hw : w < l.length) (ho : out.length ≤ w), (∀ n : Int, ∃ r, Ev (fun k => spec_l6Tidy.l0 k l (out ++ [n]) ((w + 1 : Nat) : Int)) r ∧ r.length = l.length) →
   ∀ v : Nat, v ≤ l.length → ∀ seen : List Int, seen.length ≤ v → ∃ r, Ev (fun k => spec_l6Tidy.l1 k l out (w : Int) seen (v : Int)) r ∧ r.length = l.length := by
  intro out w hw ho hnext
  apply down
  ·intro seen hs
   obtain ⟨r, hr, h2⟩ := hnext (seen.length : Int)
   refine ⟨r, Ev.step (fun k => rfl) (ev_neg (by omega) (ev_pos (by omega) ?_)), h2⟩
   rw [w1 hw (by omega)]; exact hr
  ·intro v hv ih seen hs
   obtain ⟨r, hr, h2⟩ := l2 out seen w v hv hs ih 0 (Nat.zero_le _) (decide ((rd l (v : Int)) ≥ (rd l (w : Int))))
   exact ⟨r, Ev.step (fun k => rfl) (ev_pos (by omega) (ev_pos (by omega) (ev_pos (by omega) (ev_pos (by omega) hr)))), h2⟩
 have l0 : ∀ w : Nat, w ≤ l.length → ∀ out : List Int, out.length = w → ∃ r, Ev (fun k => spec_l6Tidy.l0 k l out (w : Int)) r ∧ r.length = l.length := by
  apply down
  ·intro out ho
   exact ⟨out, Ev.step (fun k => rfl) (ev_neg (by omega) (Ev.now _)), ho⟩
  ·intro w hw ih out ho
   obtain ⟨r, hr, h2⟩ := l1 out w hw (by omega) (fun n => ih (out ++ [n]) (by rw [List.length_append, ho]; rfl)) 0 (Nat.zero_le _) [] (Nat.zero_le _)
   exact ⟨r, Ev.step (fun k => rfl) (ev_pos (by omega) hr), h2⟩
 exact l0 0 (Nat.zero_le _) [] rfl
theorem l6Rise_tot {l : List Int} (hn : l.length ≤ 100) (s : Int) : ∃ r, Ev (fun k => spec_l6Rise.f k l s) r ∧ r.length = l.length := by
 unfold spec_l6Rise.f
 have l0 : ∀ w : Nat, w ≤ l.length → ∀ out : List Int, out.length = w → ∃ r, Ev (fun k => spec_l6Rise.l0 k l s out (w : Int)) r ∧ r.length = l.length := by
  apply down
  ·intro out ho
   obtain ⟨r, hr, h2⟩ := l6Tidy_tot (l := out) (by omega)
   exact ⟨r, Ev.step (fun k => rfl) (ev_neg (by omega) (Ev.bind hr (Ev.now _))), by omega⟩
  ·intro w hw ih out ho
   obtain ⟨x, hx⟩ := l1Bit_c s w
   obtain ⟨r, hr, h2⟩ := ih (out ++ [wrap64 ((rd l (w : Int)) + (wrap64 ((wrap64 (1 - x)) * 10)))]) (by rw [List.length_append, ho]; rfl)
   refine ⟨r, Ev.step (fun k => rfl) (ev_pos (by omega) (ev_pos (by omega) (ev_bindc hx (ev_pos (by omega) ?_)))), h2⟩
   rw [w1 hw (by omega)]; exact hr
 exact l0 0 (Nat.zero_le _) [] rfl
theorem SetOk_c (t s : Int) : ∃ b, spec_SetOk.f t s = some b := by
 unfold spec_SetOk.f
 rw [l1In_eq, Option.bind_some]
 by_cases h : 1 ≤ t ∧ t ≤ 3
 ·obtain ⟨a, ha⟩ := l1All_c h
  rw [decide_eq_true h, if_pos rfl, ha, Option.bind_some, l1In_eq]
  exact ⟨_, rfl⟩
 ·rw [decide_eq_false h, if_neg (by decide)]
  exact ⟨_, rfl⟩
theorem ChangedBy_tot (t : Int) {l : List Int} (hn : l.length ≤ 100) (a s : Int) : ∃ m b, Ev (fun k => spec_ChangedBy.f k t l a s) (m, b) ∧ (b = true → m.length = l.length) ∧ m.length ≤ 100 := by
 have bad : Ev (fun k => spec_ChangedBy.j0 k l a s true) ([], false) := Ev.step (f := fun _ => some ([], false)) (fun k => rfl) (Ev.now _)
 have good : ∀ b : Bool, ∃ m b', Ev (fun k => spec_ChangedBy.j0 k l a s b) (m, b') ∧ (b' = true → m.length = l.length) ∧ m.length ≤ 100 := by
  intro b
  cases b with
  | true => exact ⟨[], false, bad, fun h => (by cases h), by simp⟩
  | false =>
   obtain ⟨x, hx⟩ := l2Least_tot hn s
   by_cases h0 : a = 0
   ·obtain ⟨r, hr, h2⟩ := l6Rise_tot hn x
    exact ⟨r, true, Ev.step (f := fun k => if a = 0 then ((spec_l2Least.f k l s).bind fun t466 => ((spec_l6Rise.f k l t466).bind fun t467 => (some (t467, true)))) else ((spec_l6Rise.f k l s).bind fun t470 => (some (t470, true)))) (fun k => rfl) (ev_pos h0 (Ev.bind hx (Ev.bind hr (Ev.now _)))), fun _ => h2, by omega⟩
   ·obtain ⟨r, hr, h2⟩ := l6Rise_tot hn s
    exact ⟨r, true, Ev.step (f := fun k => if a = 0 then ((spec_l2Least.f k l s).bind fun t466 => ((spec_l6Rise.f k l t466).bind fun t467 => (some (t467, true)))) else ((spec_l6Rise.f k l s).bind fun t470 => (some (t470, true)))) (fun k => rfl) (ev_neg h0 (Ev.bind hr (Ev.now _))), fun _ => h2, by omega⟩
 unfold spec_ChangedBy.f
 have hr := RankOk_ev t (l := l) (by omega)
 cases hk : rankOk t l with
 | false =>
  rw [hk] at hr
  exact ⟨[], false, Ev.bind hr (ev_ff bad), fun h => (by cases h), by simp⟩
 | true =>
  rw [hk] at hr
  obtain ⟨b, hb⟩ := SetOk_c t s
  cases b with
  | false => exact ⟨[], false, Ev.bind hr (ev_tt (ev_bindc hb (ev_ff bad))), fun h => (by cases h), by simp⟩
  | true =>
   by_cases h0 : s = 0
   ·exact ⟨[], false, Ev.bind hr (ev_tt (ev_bindc hb (ev_tt (ev_pos h0 bad)))), fun h => (by cases h), by simp⟩
   ·obtain ⟨m, b', hm, hl⟩ := good (!decide (0 ≤ a ∧ a ≤ 1))
    exact ⟨m, b', Ev.bind hr (ev_tt (ev_bindc hb (ev_tt (ev_neg h0 (ev_bindc (l1In_eq _ _ _) hm))))), hl⟩
theorem SameOrder_tot (t : Int) {l m : List Int} (hn : l.length ≤ 100) (hm : m.length ≤ 100) : ∃ b, Ev (fun k => spec_SameOrder.f k t l m) b := by
 unfold spec_SameOrder.f
 have bad : Ev (fun k => spec_SameOrder.j0 k t l m true) false := Ev.step (f := fun _ => some false) (fun k => rfl) (Ev.now _)
 have h1 := RankOk_ev t (l := l) (by omega)
 have h2 := RankOk_ev t (l := m) (by omega)
 cases e1 : rankOk t l with
 | false => rw [e1] at h1; exact ⟨false, Ev.bind h1 (ev_ff bad)⟩
 | true =>
  rw [e1] at h1
  cases e2 : rankOk t m with
  | false => rw [e2] at h2; exact ⟨false, Ev.bind h1 (ev_tt (Ev.bind h2 bad))⟩
  | true =>
   rw [e2] at h2
   have hlen : (tidyL l).length = (tidyL m).length := by rw [tidyL_length, tidyL_length, (rankOk_iff.1 e1).2.1, (rankOk_iff.1 e2).2.1]
   have hl8 : (tidyL l).length ≤ 8 := by rw [tidyL_length]; exact rank_short e1
   have key : ∀ i : Nat, i ≤ (tidyL l).length → ∃ b, Ev (fun k => spec_SameOrder.l0 k (tidyL l) (tidyL m) (i : Int)) b := by
    apply down
    ·exact ⟨true, Ev.step (fun k => rfl) (ev_neg (by omega) (Ev.now _))⟩
    ·intro i hi ih
     obtain ⟨b, hb⟩ := ih
     by_cases e : rd (tidyL l) (i : Int) = rd (tidyL m) (i : Int)
     ·refine ⟨b, Ev.step (fun k => rfl) (ev_pos (by omega) (ev_pos (by omega) (ev_pos (by omega) (ev_pos e ?_))))⟩
      rw [w1 hi (by omega)]; exact hb
     ·exact ⟨false, Ev.step (fun k => rfl) (ev_pos (by omega) (ev_pos (by omega) (ev_pos (by omega) (ev_neg e (Ev.now _)))))⟩
   obtain ⟨b, hb⟩ := key 0 (Nat.zero_le _)
   exact ⟨b, Ev.bind h1 (ev_tt (Ev.bind h2 (Ev.step (f := fun k => ((spec_TidyRank.f k t l).bind fun t475 => ((spec_TidyRank.f k t m).bind fun t478 => (spec_SameOrder.l0 k t475 t478 0)))) (fun k => rfl) (Ev.bind (TidyRank_ev e1) (Ev.bind (TidyRank_ev e2) hb)))))⟩
theorem l10Copy_ev (t : Int) {l : List Int} {ls : List (List Int)} (hn : l.length ≤ 100) (hs : ls.length ≤ 100) (hl : ∀ y ∈ ls, y.length ≤ 100) : Ev (fun k => spec_l10Copy.f k t l ls) (t, l, ls) := by
 unfold spec_l10Copy.f
 have key : ∀ i : Nat, i ≤ ls.length → Ev (fun k => spec_l10Copy.l0 k (i : Int) t l ls t l (ls.take i)) (t, l, ls) := by
  apply down
  ·refine Ev.step (fun k => rfl) (ev_neg (by omega) (ev_eq (Ev.now _) ?_))
   rw [List.take_length]
  ·intro i hi ih
   have hy := hl _ (List.getElem_mem hi)
   refine Ev.step (fun k => rfl) (ev_pos (by omega) (ev_bindc rfl (ev_pos (by omega) (ev_pos (by rw [rdLL_at hi]; simp only [List.length_nil]; omega) (ev_pos (by rw [List.length_take]; omega) ?_)))))
   rw [rdLL_at hi, w1 hi (by omega), List.nil_append]
   rw [List.take_succ_eq_append_getElem hi] at ih
   exact ih
 refine ev_bindc rfl (ev_pos (by simp only [List.length_nil]; omega) ?_)
 rw [List.nil_append]
 exact key 0 (Nat.zero_le _)
theorem tidyOk_len {t : Int} {l : List Int} (h : tidyOk t l = true) : 0 < l.length ∧ l.length ≤ 8 := by
 unfold tidyOk at h
 rw [Bool.and_eq_true] at h
 have := (rankOk_iff.1 h.1).2.1
 have := wn_le t
 omega
theorem MindDo_tot (t : Int) {l : List Int} {ls : List (List Int)} (hn : l.length ≤ 100) (hs : ls.length ≤ 9) (hl : ∀ y ∈ ls, y.length ≤ 100) (a : Int) (s : ByteArray) :
  ∃ r1 r2 r3 r4, Ev (fun k => spec_MindDo.f k t l ls a s) (r1, r2, r3, r4) ∧ (r4 = true → (0 < r2.length ∧ r2.length ≤ 8) ∧ r3.length ≤ ls.length + 1 ∧ ∀ y ∈ r3, y.length ≤ 8) := by
 unfold spec_MindDo.f
 have hv := spec_MindValid_ev t (l := l) (ls := ls) (by omega) (by omega) (fun y hy => by have := hl y hy; omega)
 cases hk : mindOk t l ls with
 | false =>
  rw [hk] at hv
  exact ⟨0, [], [], false, Ev.bind hv (ev_ff (Ev.now _)), fun h => by cases h⟩
 | true =>
  rw [hk] at hv
  unfold mindOk at hk
  rw [Bool.and_eq_true, Bool.and_eq_true, List.all_eq_true] at hk
  have hl8 := tidyOk_len hk.1
  have hls8 : ∀ y ∈ ls, 0 < y.length ∧ y.length ≤ 8 := fun y hy => tidyOk_len (hk.2.2 y hy)
  have hc := l10Copy_ev t hn (by omega) hl
  have j2 : ∀ (m : List Int) (b : Bool), (b = false → 0 < m.length ∧ m.length ≤ 8) → ∃ r1 r2 r3 r4, Ev (fun k => spec_MindDo.j2 k m b t l ls) (r1, r2, r3, r4) ∧ (r4 = true → (0 < r2.length ∧ r2.length ≤ 8) ∧ r3.length ≤ ls.length + 1 ∧ ∀ y ∈ r3, y.length ≤ 8) := by
   intro m b hm
   cases b with
   | true => exact ⟨t, l, ls, false, Ev.step (f := fun _ => some (t, l, ls, false)) (fun k => rfl) (Ev.now _), fun h => by cases h⟩
   | false =>
    refine ⟨t, m, ls ++ [l], true, Ev.step (f := fun k => if ls.length < 5864062014805 then ((some (ls ++ [l] : List (List Int))).bind fun y504 => (if (y504.length : Int) > 10 then (none) else (some (t, m, y504, true)))) else (none)) (fun k => rfl) (ev_pos (by omega) (ev_bindc rfl (ev_neg (by rw [List.length_append, List.length_singleton]; omega) (Ev.now _)))), fun _ => ⟨hm rfl, by rw [List.length_append, List.length_singleton]; omega, fun y hy => ?_⟩⟩
    rcases List.mem_append.1 hy with hy | hy
    ·exact (hls8 y hy).2
    ·rw [List.mem_singleton.1 hy]; exact hl8.2
  have j1 : ∀ (x : Int) (b : Bool), ∃ r1 r2 r3 r4, Ev (fun k => spec_MindDo.j1 k x b t l ls a s t l ls) (r1, r2, r3, r4) ∧ (r4 = true → (0 < r2.length ∧ r2.length ≤ 8) ∧ r3.length ≤ ls.length + 1 ∧ ∀ y ∈ r3, y.length ≤ 8) := by
   intro x b
   cases b with
   | true => exact ⟨t, l, ls, false, Ev.step (f := fun _ => some (t, l, ls, false)) (fun k => rfl) (Ev.now _), fun h => by cases h⟩
   | false =>
    obtain ⟨m, c, hm, hml, hm100⟩ := ChangedBy_tot t hn a x
    have st : ∀ {r}, Ev (fun k => ((spec_ChangedBy.f k t l a x).bind fun bt499 => (if bt499.2 = true then ((spec_SameOrder.f k t bt499.1 l).bind fun t503 => (spec_MindDo.j2 k bt499.1 t503 t l ls)) else (spec_MindDo.j2 k bt499.1 true t l ls)))) r → Ev (fun k => spec_MindDo.j1 k x false t l ls a s t l ls) r := fun h => Ev.step (fun k => rfl) h
    cases c with
    | false =>
     obtain ⟨r1, r2, r3, r4, h1, h2⟩ := j2 m true (fun h => by cases h)
     exact ⟨r1, r2, r3, r4, st (Ev.bind hm (ev_ff h1)), h2⟩
    | true =>
     have := hml rfl
     obtain ⟨d, hd⟩ := SameOrder_tot t hm100 hn
     obtain ⟨r1, r2, r3, r4, h1, h2⟩ := j2 m d (fun _ => by omega)
     exact ⟨r1, r2, r3, r4, st (Ev.bind hm (ev_tt (Ev.bind hd h1))), h2⟩
  have j0 : ∀ b : Bool, (b = true → 0 < ls.length) → ∃ r1 r2 r3 r4, Ev (fun k => spec_MindDo.j0 k b t l ls a s t l ls) (r1, r2, r3, r4) ∧ (r4 = true → (0 < r2.length ∧ r2.length ≤ 8) ∧ r3.length ≤ ls.length + 1 ∧ ∀ y ∈ r3, y.length ≤ 8) := by
   intro b hb
   cases b with
   | true =>
    have hp := hb rfl
    have ew : wrap64 ((ls.length : Int) - 1) = ((ls.length - 1 : Nat) : Int) := by rw [w64 (by omega) (by omega)]; omega
    have hlt : ls.length - 1 < ls.length := by omega
    refine ⟨t, rd_L1 ls ((ls.length - 1 : Nat) : Int), ls.take ((ls.length - 1 : Nat) : Int).toNat, true, Ev.step (f := fun k => if 0 ≤ (wrap64 ((ls.length : Int) - 1)) then (if (wrap64 ((ls.length : Int) - 1)) < (ls.length : Int) then (some (t, rd_L1 ls (wrap64 ((ls.length : Int) - 1)), ls.take (wrap64 ((ls.length : Int) - 1)).toNat, true)) else (none)) else (none)) (fun k => rfl) ?_, fun _ => ⟨?_, ?_, ?_⟩⟩
    ·rw [ew]
     exact ev_pos (by omega) (ev_pos (by omega) (Ev.now _))
    ·rw [rdLL_at hlt]
     exact hls8 _ (List.getElem_mem hlt)
    ·rw [List.length_take]; omega
    ·exact fun y hy => (hls8 y (List.mem_of_mem_take hy)).2
   | false =>
    obtain ⟨x, c, hx⟩ := HoldsIn_tot t s
    have st : ∀ {r}, Ev (fun k => ((spec_HoldsIn.f k t s).bind fun bt496 => (if bt496.2 = true then ((spec_l1In.f a 0 1).bind fun t498 => (spec_MindDo.j1 k bt496.1 (!t498) t l ls a s t l ls)) else (spec_MindDo.j1 k bt496.1 true t l ls a s t l ls)))) r → Ev (fun k => spec_MindDo.j0 k false t l ls a s t l ls) r := fun h => Ev.step (fun k => rfl) h
    cases c with
    | false =>
     obtain ⟨r1, r2, r3, r4, h1, h2⟩ := j1 x true
     exact ⟨r1, r2, r3, r4, st (Ev.bind hx (ev_ff h1)), h2⟩
    | true =>
     obtain ⟨r1, r2, r3, r4, h1, h2⟩ := j1 x (!decide (0 ≤ a ∧ a ≤ 1))
     exact ⟨r1, r2, r3, r4, st (Ev.bind hx (ev_tt (ev_bindc (l1In_eq _ _ _) h1))), h2⟩
  by_cases hb : (a == 2 && (s.toList == ([] : List UInt8))) = true
  ·obtain ⟨r1, r2, r3, r4, h1, h2⟩ := j0 (decide ((ls.length : Int) > 0)) (fun h => by have := of_decide_eq_true h; omega)
   exact ⟨r1, r2, r3, r4, Ev.bind hv (ev_tt (Ev.bind hc (ev_pos hb h1))), h2⟩
  ·obtain ⟨r1, r2, r3, r4, h1, h2⟩ := j0 false (fun h => by cases h)
   exact ⟨r1, r2, r3, r4, Ev.bind hv (ev_tt (Ev.bind hc (ev_neg hb h1))), h2⟩
end Go.Proofs.Ytihgpkohglcijaa.Pl
