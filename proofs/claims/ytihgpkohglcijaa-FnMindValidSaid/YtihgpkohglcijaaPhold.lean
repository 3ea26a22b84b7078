/- Plain laws: the reference's sentences and changes say something on every input. -/
import Derived.Test.YtihgpkohglcijaaPx4
import Derived.Test.YtihgpkohglcijaaPx5
import Derived.Test.YtihgpkohglcijaaPmd
namespace Go.Proofs.Ytihgpkohglcijaa.Pl
open Go.RowKit Go.Proofs.YtihgpkohglcijaaW.PrintWords Go.Proofs.YtihgpkohglcijaaW.PrintLast Go.Proofs.YtihgpkohglcijaaW.PrintMore Go.Proofs.Ytihgpkohglcijaa.P Go.Proofs.Ytihgpkohglcijaa.Mt
theorem l1Bit_c (a : Int) (w : Nat) : ∃ r, spec_l1Bit.f a (w : Int) = some r := ⟨_, if_pos (Int.natCast_nonneg w)⟩
theorem l1Both_tot (a b : Int) : ∃ r, Ev (fun k => spec_l1Both.f k a b) r := by
 unfold spec_l1Both.f
 have key : ∀ i : Nat, i ≤ 8 → ∀ o : Int, ∃ r, Ev (fun k => spec_l1Both.l0 k a b o (i : Int)) r := by
  apply down
  ·intro o
   exact ⟨o, Ev.step (fun k => rfl) (ev_neg (by omega) (Ev.now _))⟩
  ·intro i hi ih o
   obtain ⟨x, hx⟩ := l1Bit_c a i
   obtain ⟨y, hy⟩ := l1Bit_c b i
   obtain ⟨r, hr⟩ := ih (wrap64 (o + (shl .i64 (wrap64 (x * y)) i)))
   refine ⟨r, Ev.step (fun k => rfl) (ev_pos (by omega) (ev_bindc hx (ev_bindc hy (ev_pos (by omega) ?_))))⟩
   rw [w1 hi (by omega)]
   exact hr
 exact key 0 (Nat.zero_le _) 0
theorem l1Either_tot (a b : Int) : ∃ r, Ev (fun k => spec_l1Either.f k a b) r := by
 obtain ⟨r, hr⟩ := l1Both_tot a b
 unfold spec_l1Either.f
 exact ⟨_, Ev.bind hr (Ev.now _)⟩
theorem l1All_c {t : Int} (h : 1 ≤ t ∧ t ≤ 3) : ∃ r, spec_l1All.f t = some r := ⟨_, if_pos (by omega)⟩
theorem bt_lt {s : ByteArray} (i : Int) : 0 ≤ bt s i ∧ bt s i ≤ 255 := bt_range s i
theorem l1Read_tot {t : Int} (ht : 1 ≤ t ∧ t ≤ 3) (s : ByteArray) (hs : s.size ≤ 1000000000) : ∀ (n : Nat) (i : Nat), s.size - i ≤ n → ∃ a e, Ev (fun k => spec_l1Read.f k t s (i : Int)) (a, e) ∧ (e < 0 ∨ (i < e ∧ e ≤ s.size)) := by
 intro n
 induction n with
 | zero =>
  intro i hi
  exact ⟨-1, -1, Ev.step (fun k => rfl) (ev_pos (by omega) (Ev.now _)), Or.inl (by omega)⟩
 | succ n ih =>
  intro i hi
  by_cases hge : (i : Int) ≥ (s.size : Int)
  ·exact ⟨-1, -1, Ev.step (fun k => rfl) (ev_pos hge (Ev.now _)), Or.inl (by omega)⟩
  ·obtain ⟨al, hal⟩ := l1All_c ht
   have hlt : i < s.size := by omega
   have e1 : wrap64 ((i : Int) + 1) = ((i + 1 : Nat) : Int) := w1 hlt (by omega)
   by_cases h49 : bt s i = 49
   ·refine ⟨al, ((i + 1 : Nat) : Int), Ev.step (fun k => rfl) (ev_neg hge (ev_bindc hal (ev_pos (by omega) (ev_pos (by omega) (ev_pos h49 ?_))))), Or.inr (by omega)⟩
    rw [e1]
    exact Ev.now _
   by_cases h48 : bt s i = 48
   ·refine ⟨0, ((i + 1 : Nat) : Int), Ev.step (fun k => rfl) (ev_neg hge (ev_bindc hal (ev_pos (by omega) (ev_pos (by omega) (ev_neg h49 (ev_pos h48 ?_)))))), Or.inr (by omega)⟩
    rw [e1]
    exact Ev.now _
   have hj : ∀ b : Bool, ∃ a e, Ev (fun k => spec_l1Read.j0 k t s (i : Int) al b) (a, e) ∧ (e < 0 ∨ (i < e ∧ e ≤ s.size)) := by
    intro b
    cases b with
    | true =>
     have loop : ∀ w, w ≤ wn t → ∀ o : Int, ∃ a, Ev (fun k => spec_l1Read.l0 k t s (i : Int) o (w : Int)) (a, ((i + 1 : Nat) : Int)) := by
      have hw := wn_le t
      apply down
      ·intro o
       refine ⟨o, Ev.step (fun k => rfl) (ev_pos (by omega) (ev_neg (by rw [shl_wn ht]; omega) ?_))⟩
       rw [e1]
       exact Ev.now _
      ·intro w hw' ih2 o
       obtain ⟨a, ha⟩ := ih2 (wrap64 (o + (shl .i64 (Int.tmod (shr .i64 (w : Int) (((bt s i) - 97) % 256)) 2) (w : Int))))
       refine ⟨a, Ev.step (fun k => rfl) (ev_pos (by omega) (ev_pos (by rw [shl_wn ht]; omega) (ev_pos (by omega) (ev_pos (by omega) (ev_pos (by omega) ?_)))))⟩
       rw [w1 hw' (by omega)]
       exact ha
     obtain ⟨a, ha⟩ := loop 0 (Nat.zero_le _) 0
     exact ⟨a, ((i + 1 : Nat) : Int), Ev.step (f := fun k => spec_l1Read.l0 k t s (i : Int) 0 0) (fun k => rfl) ha, Or.inr (by omega)⟩
    | false =>
     obtain ⟨a1, e1', h1, b1⟩ := ih (i + 1) (by omega)
     have st : ∀ {g : Nat → Option (Int × Int)} {r}, (∀ k, g k = (if 0 ≤ (i : Int) then (if (i : Int) < (s.size : Int) then (if (bt s i) = 33 then ((spec_l1Read.f k t s (wrap64 ((i : Int) + 1))).bind fun bt324 => (if bt324.2 < 0 then (some ((-1), (-1))) else (some (wrap64 (al - bt324.1), bt324.2)))) else (if (bt s i) = 40 then ((spec_l1Read.f k t s (wrap64 ((i : Int) + 1))).bind fun bt326 => (if bt326.2 < 0 then (spec_l1Read.j2 k t s al bt326.1 bt326.2 true) else (spec_l1Read.j2 k t s al bt326.1 bt326.2 (decide (bt326.2 ≥ (s.size : Int)))))) else (some ((-1), (-1))))) else (none)) else (none))) → Ev g r → Ev (fun k => spec_l1Read.j0 k t s (i : Int) al false) r := fun hg h => Ev.step (fun k => (hg k).symm) h
     by_cases h33 : bt s i = 33
     ·by_cases hneg : e1' < 0
      ·refine ⟨-1, -1, st (fun k => rfl) (ev_pos (by omega) (ev_pos (by omega) (ev_pos h33 ?_))), Or.inl (by omega)⟩
       rw [e1]
       exact Ev.bind h1 (ev_pos hneg (Ev.now _))
      ·refine ⟨wrap64 (al - a1), e1', st (fun k => rfl) (ev_pos (by omega) (ev_pos (by omega) (ev_pos h33 ?_))), Or.inr ⟨by omega, by omega⟩⟩
       rw [e1]
       exact Ev.bind h1 (ev_neg hneg (Ev.now _))
     by_cases h40 : bt s i = 40
     ·have bad2 : ∀ a e : Int, Ev (fun k => spec_l1Read.j2 k t s al a e true) (-1, -1) := fun a e => Ev.step (f := fun _ => some (-1, -1)) (fun k => rfl) (Ev.now _)
      have bad3 : ∀ a e a2 e2 : Int, Ev (fun k => spec_l1Read.j3 k s al a e a2 e2 true) (-1, -1) := fun a e a2 e2 => Ev.step (f := fun _ => some (-1, -1)) (fun k => rfl) (Ev.now _)
      have hj2 : ∃ a e, Ev (fun k => if e1' < 0 then spec_l1Read.j2 k t s al a1 e1' true else spec_l1Read.j2 k t s al a1 e1' (decide (e1' ≥ (s.size : Int)))) (a, e) ∧ (e < 0 ∨ (i < e ∧ e ≤ s.size)) := by
       by_cases hneg : e1' < 0
       ·exact ⟨-1, -1, ev_pos hneg (bad2 _ _), Or.inl (by omega)⟩
       by_cases hge2 : e1' ≥ (s.size : Int)
       ·refine ⟨-1, -1, ev_neg hneg ?_, Or.inl (by omega)⟩
        rw [decide_eq_true hge2]
        exact bad2 _ _
       obtain ⟨m, rfl⟩ := Int.eq_ofNat_of_zero_le (show 0 ≤ e1' by omega)
       obtain ⟨a2, e2, h2, b2⟩ := ih (m + 1) (by omega)
       have em : wrap64 ((m : Int) + 1) = ((m + 1 : Nat) : Int) := w1 (n := s.size) (by omega) (by omega)
       have hj3 : ∃ a e, Ev (fun k => if e2 < 0 then (spec_l1Read.j3 k s al a1 (m : Int) a2 e2 true) else (if e2 ≥ (s.size : Int) then (spec_l1Read.j3 k s al a1 (m : Int) a2 e2 true) else (if 0 ≤ e2 then (if e2 < (s.size : Int) then (spec_l1Read.j3 k s al a1 (m : Int) a2 e2 ((bt s e2) != 41)) else (none)) else (none)))) (a, e) ∧ (e < 0 ∨ (i < e ∧ e ≤ s.size)) := by
        by_cases hn2 : e2 < 0
        ·exact ⟨-1, -1, ev_pos hn2 (bad3 _ _ _ _), Or.inl (by omega)⟩
        by_cases hg2 : e2 ≥ (s.size : Int)
        ·exact ⟨-1, -1, ev_neg hn2 (ev_pos hg2 (bad3 _ _ _ _)), Or.inl (by omega)⟩
        by_cases h41 : bt s e2 = 41
        ·have eb : (bt s e2 != 41) = false := by rw [h41]; rfl
         have ee : wrap64 (e2 + 1) = e2 + 1 := w64 (by omega) (by omega)
         obtain ⟨c1, hc1⟩ := l1Both_tot a1 a2
         obtain ⟨c2, hc2⟩ := l1Either_tot a1 a2
         obtain ⟨c3, hc3⟩ := l1Either_tot (wrap64 (al - a1)) a2
         have st3 : ∀ {g : Nat → Option (Int × Int)} {r}, (∀ k, g k = (if 0 ≤ (m : Int) then (if (m : Int) < (s.size : Int) then (if (bt s m) = 38 then ((spec_l1Both.f k a1 a2).bind fun t330 => (some (t330, wrap64 (e2 + 1)))) else (if (bt s m) = 124 then ((spec_l1Either.f k a1 a2).bind fun t331 => (some (t331, wrap64 (e2 + 1)))) else (if (bt s m) = 62 then ((spec_l1Either.f k (wrap64 (al - a1)) a2).bind fun t332 => (some (t332, wrap64 (e2 + 1)))) else (some ((-1), (-1)))))) else (none)) else (none))) → Ev g r → Ev (fun k => spec_l1Read.j3 k s al a1 (m : Int) a2 e2 false) r := fun hg h => Ev.step (fun k => (hg k).symm) h
         by_cases q1 : bt s m = 38
         ·exact ⟨c1, wrap64 (e2 + 1), ev_neg hn2 (ev_neg hg2 (ev_pos (by omega) (ev_pos (by omega) (by rw [eb]; exact st3 (fun k => rfl) (ev_pos (by omega) (ev_pos (by omega) (ev_pos q1 (Ev.bind hc1 (Ev.now _))))))))), by rw [ee]; omega⟩
         by_cases q2 : bt s m = 124
         ·exact ⟨c2, wrap64 (e2 + 1), ev_neg hn2 (ev_neg hg2 (ev_pos (by omega) (ev_pos (by omega) (by rw [eb]; exact st3 (fun k => rfl) (ev_pos (by omega) (ev_pos (by omega) (ev_neg q1 (ev_pos q2 (Ev.bind hc2 (Ev.now _)))))))))), by rw [ee]; omega⟩
         by_cases q3 : bt s m = 62
         ·exact ⟨c3, wrap64 (e2 + 1), ev_neg hn2 (ev_neg hg2 (ev_pos (by omega) (ev_pos (by omega) (by rw [eb]; exact st3 (fun k => rfl) (ev_pos (by omega) (ev_pos (by omega) (ev_neg q1 (ev_neg q2 (ev_pos q3 (Ev.bind hc3 (Ev.now _))))))))))), by rw [ee]; omega⟩
         ·exact ⟨-1, -1, ev_neg hn2 (ev_neg hg2 (ev_pos (by omega) (ev_pos (by omega) (by rw [eb]; exact st3 (fun k => rfl) (ev_pos (by omega) (ev_pos (by omega) (ev_neg q1 (ev_neg q2 (ev_neg q3 (Ev.now _)))))))))), Or.inl (by omega)⟩
        ·have eb : (bt s e2 != 41) = true := bne_iff_ne.2 h41
         exact ⟨-1, -1, ev_neg hn2 (ev_neg hg2 (ev_pos (by omega) (ev_pos (by omega) (by rw [eb]; exact bad3 _ _ _ _)))), Or.inl (by omega)⟩
       obtain ⟨a, e, h3, b3⟩ := hj3
       refine ⟨a, e, ev_neg hneg ?_, b3⟩
       rw [decide_eq_false hge2]
       refine Ev.step (f := fun k => (spec_l1Read.f k t s (wrap64 ((m : Int) + 1))).bind fun bt328 => (if bt328.2 < 0 then (spec_l1Read.j3 k s al a1 (m : Int) bt328.1 bt328.2 true) else (if bt328.2 ≥ (s.size : Int) then (spec_l1Read.j3 k s al a1 (m : Int) bt328.1 bt328.2 true) else (if 0 ≤ bt328.2 then (if bt328.2 < (s.size : Int) then (spec_l1Read.j3 k s al a1 (m : Int) bt328.1 bt328.2 ((bt s bt328.2) != 41)) else (none)) else (none))))) (fun k => rfl) ?_
       rw [em]
       exact Ev.bind h2 h3
      obtain ⟨a, e, h3, b3⟩ := hj2
      refine ⟨a, e, st (fun k => rfl) (ev_pos (by omega) (ev_pos (by omega) (ev_neg h33 (ev_pos h40 ?_)))), b3⟩
      rw [e1]
      exact Ev.bind h1 h3
     ·exact ⟨-1, -1, st (fun k => rfl) (ev_pos (by omega) (ev_pos (by omega) (ev_neg h33 (ev_neg h40 (Ev.now _))))), Or.inl (by omega)⟩
   by_cases h97 : bt s i ≥ 97
   ·obtain ⟨a, e, h, b⟩ := hj (decide ((((bt s i) - 97) % 256) < t))
    exact ⟨a, e, Ev.step (fun k => rfl) (ev_neg hge (ev_bindc hal (ev_pos (by omega) (ev_pos (by omega) (ev_neg h49 (ev_neg h48 (ev_pos h97 h))))))), b⟩
   ·obtain ⟨a, e, h, b⟩ := hj false
    exact ⟨a, e, Ev.step (fun k => rfl) (ev_neg hge (ev_bindc hal (ev_pos (by omega) (ev_pos (by omega) (ev_neg h49 (ev_neg h48 (ev_neg h97 h))))))), b⟩
theorem HoldsIn_tot (t : Int) (s : ByteArray) : ∃ a b, Ev (fun k => spec_HoldsIn.f k t s) (a, b) := by
 unfold spec_HoldsIn.f
 have bad : Ev (fun k => spec_HoldsIn.j0 k t s true) (-1, false) := Ev.step (f := fun _ => some (-1, false)) (fun k => rfl) (Ev.now _)
 by_cases ht : 1 ≤ t ∧ t ≤ 3
 ·by_cases hs : (s.size : Int) > 120
  ·refine ⟨-1, false, ev_bindc (l1In_eq _ _ _) (ev_pos (by simpa using ht) ?_)⟩
   rw [decide_eq_true hs]
   exact bad
  ·obtain ⟨a, e, h, _⟩ := l1Read_tot ht s (by omega) s.size 0 (by omega)
   have st : ∀ {r}, Ev (fun k => (spec_l1Read.f k t s 0).bind fun bt334 => (if bt334.2 = (s.size : Int) then (some (bt334.1, true)) else (some ((-1), false)))) r → Ev (fun k => spec_HoldsIn.j0 k t s false) r := fun h => Ev.step (fun k => rfl) h
   by_cases he : e = (s.size : Int)
   ·refine ⟨a, true, ev_bindc (l1In_eq _ _ _) (ev_pos (by simpa using ht) ?_)⟩
    rw [decide_eq_false hs]
    exact st (Ev.bind h (ev_pos he (Ev.now _)))
   ·refine ⟨-1, false, ev_bindc (l1In_eq _ _ _) (ev_pos (by simpa using ht) ?_)⟩
    rw [decide_eq_false hs]
    exact st (Ev.bind h (ev_neg he (Ev.now _)))
 ·exact ⟨-1, false, ev_bindc (l1In_eq _ _ _) (ev_neg (by simpa using ht) bad)⟩
end Go.Proofs.Ytihgpkohglcijaa.Pl
