/- Plain laws: sentences: the program reads what the reference reads. -/
import Derived.Test.YtihgpkohglcijaaPx6
import Derived.Test.YtihgpkohglcijaaPx7
import Derived.Test.YtihgpkohglcijaaPx8
import Derived.Test.YtihgpkohglcijaaPsent
namespace Go.Proofs.Ytihgpkohglcijaa.Pl
open Go.RowKit Go.Proofs.YtihgpkohglcijaaW.PrintWords Go.Proofs.YtihgpkohglcijaaW.PrintLast Go.Proofs.YtihgpkohglcijaaW.PrintMore Go.Proofs.Ytihgpkohglcijaa.P Go.Proofs.Ytihgpkohglcijaa.Mt
theorem next_at {t : Int} {s : ByteArray} {i : Nat} (hs : s.size ≤ 1000000000) (h : i < s.size) : impl_sentenceReader_next.f t s (i : Int) = some (bt s i, t, s, ((i + 1 : Nat) : Int)) := by
 unfold impl_sentenceReader_next.f
 have e1 : wrap64 ((i : Int) + 1) = ((i + 1 : Nat) : Int) := w1 h (by omega)
 have e2 : wrap64 (((i + 1 : Nat) : Int) - 1) = (i : Int) := by rw [w64 (by omega) (by omega)]; omega
 rw [if_neg (by omega), e1, e2, if_pos (by omega), if_pos (by omega)]
theorem next_end {t : Int} {s : ByteArray} : impl_sentenceReader_next.f t s (s.size : Int) = some (0, t, s, (s.size : Int)) := by
 unfold impl_sentenceReader_next.f
 rw [if_pos rfl]
theorem thing_set : ∀ t : Fin 3, ∀ c : Fin 3, impl_setThat.f (impl_sentenceReader_sentence.p (c.val : Int)) ((t.val : Int) + 1) = some ((tset c.val (wn ((t.val : Int) + 1)) : Nat) : Int) := by decide +kernel
theorem thing_ev {t : Int} (ht : 1 ≤ t ∧ t ≤ 3) (c : Nat) (hc : c < 3) : impl_setThat.f (impl_sentenceReader_sentence.p (c : Int)) t = some ((tset c (wn t) : Nat) : Int) := by
 have := thing_set ⟨(t - 1).toNat, by omega⟩ ⟨c, hc⟩
 rw [show (((t - 1).toNat : Nat) : Int) + 1 = t from by omega] at this
 exact this
theorem sub8 {z i n : Nat} (h : z - i ≤ n + 1) : z - (i + 1) ≤ n := by omega
theorem small {a : Nat} (h : a < 256) : a < 2 ^ 62 := Nat.lt_trans h (by decide)
/-- What the program's reader gives at a place: the set and the place behind, or no sentence. -/
def Got (o : Option (Nat × Nat)) (_s : ByteArray) (x : Int) (b : Bool) (p : Int) : Prop := match o with
 | some y => x = (y.1 : Int) ∧ b = true ∧ p = (y.2 : Int)
 | none => b = false
set_option maxHeartbeats 2000000 in
theorem rsent_ev {t : Int} (ht : 1 ≤ t ∧ t ≤ 3) (s : ByteArray) (hs : s.size ≤ 1000000000) : ∀ (n : Nat) (i : Nat), i ≤ s.size → s.size - i ≤ n → ∃ x b p, Ev (fun k => impl_sentenceReader_sentence.f k t s (i : Int)) (x, b, t, s, p) ∧ Got (rdS t s n i) s x b p := by
 have last : ∀ (i : Nat), i = s.size → Ev (fun k => impl_sentenceReader_sentence.f k t s (i : Int)) (0, false, t, s, (i : Int)) := by
  rintro i rfl
  exact Ev.step (fun k => rfl) (ev_bindc (allWorlds_eq ht) (ev_bindc next_end (ev_neg (show ¬ ((0 : Int) = 48) by decide) (ev_neg (show ¬ ((0 : Int) = 49) by decide) (ev_neg (show ¬ ((0 : Int) = 97) by decide) (ev_neg (show ¬ ((0 : Int) = 98) by decide) (ev_neg (show ¬ ((0 : Int) = 99) by decide) (ev_neg (show ¬ ((0 : Int) = 33) by decide) (ev_neg (show ¬ ((0 : Int) = 40) by decide) (Ev.now _))))))))))
 intro n
 induction n with
 | zero => intro i hi hn; exact ⟨0, false, _, last i (by omega), rfl⟩
 | succ n ih =>
  intro i hi hn
  by_cases hge : i = s.size
  ·refine ⟨0, false, _, last i hge, ?_⟩
   unfold rdS
   rw [if_neg (by omega)]
   rfl
  have hlt : i < s.size := by omega
  unfold rdS
  rw [if_pos hlt]
  have st : ∀ {r}, Ev (fun k => (fun (al : Int) (b : Int × Int × ByteArray × Int) =>
   if b.1 = 48 then some (0, true, b.2.1, b.2.2.1, b.2.2.2)
   else if b.1 = 49 then some (al, true, b.2.1, b.2.2.1, b.2.2.2)
   else if b.1 = 97 then (impl_setThat.f (impl_sentenceReader_sentence.p 0) b.2.1).bind fun x => some (x, decide (0 < b.2.1), b.2.1, b.2.2.1, b.2.2.2)
   else if b.1 = 98 then (impl_setThat.f (impl_sentenceReader_sentence.p 1) b.2.1).bind fun x => some (x, decide (1 < b.2.1), b.2.1, b.2.2.1, b.2.2.2)
   else if b.1 = 99 then (impl_setThat.f (impl_sentenceReader_sentence.p 2) b.2.1).bind fun x => some (x, decide (2 < b.2.1), b.2.1, b.2.2.1, b.2.2.2)
   else if b.1 = 33 then (impl_sentenceReader_sentence.f k b.2.1 b.2.2.1 b.2.2.2).bind fun c => some (Go.bits .xor .i64 al c.1, c.2.1, c.2.2.1, c.2.2.2.1, c.2.2.2.2)
   else if b.1 = 40 then (impl_sentenceReader_sentence.f k b.2.1 b.2.2.1 b.2.2.2).bind fun c =>
    if c.2.1 = true then (impl_sentenceReader_next.f c.2.2.1 c.2.2.2.1 c.2.2.2.2).bind fun sg => (impl_sentenceReader_sentence.f k sg.2.1 sg.2.2.1 sg.2.2.2).bind fun d =>
     if d.2.1 = true then (impl_sentenceReader_next.f d.2.2.1 d.2.2.2.1 d.2.2.2.2).bind fun e =>
      if e.1 = 41 then
       (if sg.1 = 38 then some (Go.bits .and .i64 c.1 d.1, true, e.2.1, e.2.2.1, e.2.2.2)
       else if sg.1 = 124 then some (Go.bits .or .i64 c.1 d.1, true, e.2.1, e.2.2.1, e.2.2.2)
       else if sg.1 = 62 then some (Go.bits .or .i64 (Go.bits .xor .i64 al c.1) d.1, true, e.2.1, e.2.2.1, e.2.2.2)
       else some (0, false, e.2.1, e.2.2.1, e.2.2.2))
      else some (0, false, e.2.1, e.2.2.1, e.2.2.2)
     else some (0, false, d.2.2.1, d.2.2.2.1, d.2.2.2.2)
    else some (0, false, c.2.2.1, c.2.2.2.1, c.2.2.2.2)
   else some (0, false, b.2.1, b.2.2.1, b.2.2.2)) ((all t : Nat) : Int) (bt s i, t, s, ((i + 1 : Nat) : Int))) r → Ev (fun k => impl_sentenceReader_sentence.f k t s (i : Int)) r := by
   intro r h
   exact Ev.step (fun k => rfl) (ev_bindc (allWorlds_eq ht) (ev_bindc (next_at hs hlt) h))
  by_cases h49 : bt s i = 49
  ·rw [if_pos h49]
   exact ⟨_, true, _, st (ev_neg (by show ¬ bt s i = 48; omega) (ev_pos h49 (Ev.now _))), rfl, rfl, rfl⟩
  rw [if_neg h49]
  by_cases h48 : bt s i = 48
  ·rw [if_pos h48]
   exact ⟨_, true, _, st (ev_pos h48 (Ev.now _)), rfl, rfl, rfl⟩
  rw [if_neg h48]
  by_cases h97 : bt s i = 97
  ·refine ⟨_, decide ((0 : Int) < t), _, st (ev_neg h48 (ev_neg h49 (ev_pos h97 (ev_bindc (thing_ev ht 0 (by decide)) (Ev.now _))))), ?_⟩
   rw [if_pos (by omega), decide_eq_true (by omega), h97]
   exact ⟨rfl, rfl, rfl⟩
  by_cases h98 : bt s i = 98
  ·refine ⟨_, decide ((1 : Int) < t), _, st (ev_neg h48 (ev_neg h49 (ev_neg h97 (ev_pos h98 (ev_bindc (thing_ev ht 1 (by decide)) (Ev.now _)))))), ?_⟩
   by_cases h : 1 < t
   ·rw [if_pos (by omega), decide_eq_true h, h98]
    exact ⟨rfl, rfl, rfl⟩
   ·rw [if_neg (by omega), decide_eq_false h, if_neg (by omega), if_neg (by omega)]
    rfl
  by_cases h99 : bt s i = 99
  ·refine ⟨_, decide ((2 : Int) < t), _, st (ev_neg h48 (ev_neg h49 (ev_neg h97 (ev_neg h98 (ev_pos h99 (ev_bindc (thing_ev ht 2 (by decide)) (Ev.now _))))))), ?_⟩
   by_cases h : 2 < t
   ·rw [if_pos (by omega), decide_eq_true h, h99]
    exact ⟨rfl, rfl, rfl⟩
   ·rw [if_neg (by omega), decide_eq_false h, if_neg (by omega), if_neg (by omega)]
    rfl
  rw [if_neg (show ¬ (97 ≤ bt s i ∧ bt s i - 97 < t) by omega)]
  obtain ⟨x1, b1, p1, hx1, hg1⟩ := ih (i + 1) hlt (sub8 hn)
  have pre : ∀ {g : Nat → Option (Int × Bool × Int × ByteArray × Int)} {r}, Ev g r → Ev (fun k => if bt s i = 48 then some (0, true, t, s, ((i + 1 : Nat) : Int)) else if bt s i = 49 then some (((all t : Nat) : Int), true, t, s, ((i + 1 : Nat) : Int)) else if bt s i = 97 then (impl_setThat.f (impl_sentenceReader_sentence.p 0) t).bind fun x => some (x, decide (0 < t), t, s, ((i + 1 : Nat) : Int)) else if bt s i = 98 then (impl_setThat.f (impl_sentenceReader_sentence.p 1) t).bind fun x => some (x, decide (1 < t), t, s, ((i + 1 : Nat) : Int)) else if bt s i = 99 then (impl_setThat.f (impl_sentenceReader_sentence.p 2) t).bind fun x => some (x, decide (2 < t), t, s, ((i + 1 : Nat) : Int)) else g k) r := fun h => ev_neg h48 (ev_neg h49 (ev_neg h97 (ev_neg h98 (ev_neg h99 h))))
  by_cases h33 : bt s i = 33
  ·rw [if_pos h33]
   refine ⟨_, b1, p1, st (pre (ev_pos h33 (Ev.bind hx1 (Ev.now _)))), ?_⟩
   cases hr : rdS t s n (i + 1) with
   | none => rw [hr] at hg1; exact hg1
   | some y =>
    rw [hr] at hg1
    obtain ⟨rfl, rfl, rfl⟩ := hg1
    obtain ⟨ra, _, _⟩ := rdS_range ht s _ _ _ hr
    exact ⟨bxor _ _ (small (all_lt t)) (small (Nat.lt_of_lt_of_le ra (wn_8 t))), rfl, rfl⟩
  rw [if_neg h33]
  by_cases h40 : bt s i = 40
  ·rw [if_pos h40]
   have go : ∀ {x b p}, Ev (fun k => if b1 = true then (impl_sentenceReader_next.f t s p1).bind fun sg => (impl_sentenceReader_sentence.f k sg.2.1 sg.2.2.1 sg.2.2.2).bind fun d =>
     if d.2.1 = true then (impl_sentenceReader_next.f d.2.2.1 d.2.2.2.1 d.2.2.2.2).bind fun e =>
      if e.1 = 41 then
       (if sg.1 = 38 then some (Go.bits .and .i64 x1 d.1, true, e.2.1, e.2.2.1, e.2.2.2)
       else if sg.1 = 124 then some (Go.bits .or .i64 x1 d.1, true, e.2.1, e.2.2.1, e.2.2.2)
       else if sg.1 = 62 then some (Go.bits .or .i64 (Go.bits .xor .i64 ((all t : Nat) : Int) x1) d.1, true, e.2.1, e.2.2.1, e.2.2.2)
       else some (0, false, e.2.1, e.2.2.1, e.2.2.2))
      else some (0, false, e.2.1, e.2.2.1, e.2.2.2)
     else some (0, false, d.2.2.1, d.2.2.2.1, d.2.2.2.2)
    else some (0, false, t, s, p1)) (x, b, t, s, p) → Ev (fun k => impl_sentenceReader_sentence.f k t s (i : Int)) (x, b, t, s, p) := by
    intro x b p h
    exact st (pre (ev_neg h33 (ev_pos h40 (Ev.bind hx1 h))))
   cases hr : rdS t s n (i + 1) with
   | none =>
    rw [hr] at hg1
    have : b1 = false := hg1
    subst this
    exact ⟨0, false, p1, go (ev_ff (Ev.now _)), rfl⟩
   | some y =>
    rw [hr] at hg1
    obtain ⟨a1, m⟩ := y
    obtain ⟨rfl, rfl, rfl⟩ := hg1
    obtain ⟨ra, rb, rc⟩ := rdS_range ht s _ _ _ hr
    simp only at ra rb rc
    have ra8 := small (Nat.lt_of_lt_of_le ra (wn_8 t))
    have rx8 := small (Nat.lt_of_lt_of_le (xor_lt ht ra) (wn_8 t))
    clear ra
    by_cases hm : m < s.size
    ·obtain ⟨x2, b2, p2, hx2, hg2⟩ := ih (m + 1) hm (sub9 hn (Nat.lt_of_succ_lt rb))
     show ∃ x b p, Ev _ _ ∧ Got (if m < s.size then (rdS t s n (m + 1)).bind fun y => if y.2 < s.size ∧ bt s y.2 = 41 then (opS t (bt s m) a1 y.1).map fun z => (z, y.2 + 1) else none else none) s x b p
     rw [if_pos hm]
     have go2 : ∀ {x b p}, Ev (fun k => if b2 = true then (impl_sentenceReader_next.f t s p2).bind fun e =>
       if e.1 = 41 then
        (if bt s m = 38 then some (Go.bits .and .i64 ((a1 : Nat) : Int) x2, true, e.2.1, e.2.2.1, e.2.2.2)
        else if bt s m = 124 then some (Go.bits .or .i64 ((a1 : Nat) : Int) x2, true, e.2.1, e.2.2.1, e.2.2.2)
        else if bt s m = 62 then some (Go.bits .or .i64 (Go.bits .xor .i64 ((all t : Nat) : Int) ((a1 : Nat) : Int)) x2, true, e.2.1, e.2.2.1, e.2.2.2)
        else some (0, false, e.2.1, e.2.2.1, e.2.2.2))
       else some (0, false, e.2.1, e.2.2.1, e.2.2.2)
      else some (0, false, t, s, p2)) (x, b, t, s, p) → Ev (fun k => impl_sentenceReader_sentence.f k t s (i : Int)) (x, b, t, s, p) := by
      intro x b p h
      exact go (ev_tt (ev_bindc (next_at hs hm) (Ev.bind hx2 h)))
     cases hr2 : rdS t s n (m + 1) with
     | none =>
      rw [hr2] at hg2
      have : b2 = false := hg2
      subst this
      exact ⟨0, false, p2, go2 (ev_ff (Ev.now _)), rfl⟩
     | some z =>
      rw [hr2] at hg2
      obtain ⟨a2, e⟩ := z
      obtain ⟨rfl, rfl, rfl⟩ := hg2
      obtain ⟨sa, sb, sc⟩ := rdS_range ht s _ _ _ hr2
      simp only at sa sb sc
      have sa8 := small (Nat.lt_of_lt_of_le sa (wn_8 t))
      clear sa
      show ∃ x b p, Ev _ _ ∧ Got (if e < s.size ∧ bt s e = 41 then (opS t (bt s m) a1 a2).map fun z => (z, e + 1) else none) s x b p
      by_cases he : e < s.size
      ·by_cases h41 : bt s e = 41
       ·rw [if_pos ⟨he, h41⟩]
        have go3 : ∀ {x b p}, Ev (fun _ => if bt s m = 38 then some (Go.bits .and .i64 ((a1 : Nat) : Int) ((a2 : Nat) : Int), true, t, s, ((e + 1 : Nat) : Int))
          else if bt s m = 124 then some (Go.bits .or .i64 ((a1 : Nat) : Int) ((a2 : Nat) : Int), true, t, s, ((e + 1 : Nat) : Int))
          else if bt s m = 62 then some (Go.bits .or .i64 (Go.bits .xor .i64 ((all t : Nat) : Int) ((a1 : Nat) : Int)) ((a2 : Nat) : Int), true, t, s, ((e + 1 : Nat) : Int))
          else some (0, false, t, s, ((e + 1 : Nat) : Int))) (x, b, t, s, p) → Ev (fun k => impl_sentenceReader_sentence.f k t s (i : Int)) (x, b, t, s, p) := by
         intro x b p h
         exact go2 (ev_tt (ev_bindc (next_at hs he) (ev_pos h41 h)))
        unfold opS
        by_cases q1 : bt s m = 38
        ·rw [if_pos q1]
         exact ⟨_, true, _, go3 (ev_pos q1 (Ev.now _)), band _ _ ra8 sa8, rfl, rfl⟩
        rw [if_neg q1]
        by_cases q2 : bt s m = 124
        ·rw [if_pos q2]
         exact ⟨_, true, _, go3 (ev_neg q1 (ev_pos q2 (Ev.now _))), bor _ _ ra8 sa8, rfl, rfl⟩
        rw [if_neg q2]
        by_cases q3 : bt s m = 62
        ·rw [if_pos q3]
         refine ⟨_, true, _, go3 (ev_neg q1 (ev_neg q2 (ev_pos q3 (Ev.now _)))), ?_, rfl, rfl⟩
         rw [bxor _ _ (small (all_lt t)) ra8]
         exact bor _ _ rx8 sa8
        rw [if_neg q3]
        exact ⟨0, false, _, go3 (ev_neg q1 (ev_neg q2 (ev_neg q3 (Ev.now _)))), rfl⟩
       ·rw [if_neg (fun k => h41 k.2)]
        exact ⟨0, false, _, go2 (ev_tt (ev_bindc (next_at hs he) (ev_neg h41 (Ev.now _)))), rfl⟩
      ·rw [if_neg (fun k => he k.1)]
       have ez : e = s.size := Nat.le_antisymm sc (Nat.le_of_not_lt he)
       subst ez
       exact ⟨0, false, _, go2 (ev_tt (ev_bindc next_end (ev_neg (show ¬ ((0 : Int) = 41) by decide) (Ev.now _)))), rfl⟩
    ·show ∃ x b p, Ev _ _ ∧ Got (if m < s.size then (rdS t s n (m + 1)).bind fun y => if y.2 < s.size ∧ bt s y.2 = 41 then (opS t (bt s m) a1 y.1).map fun z => (z, y.2 + 1) else none else none) s x b p
     rw [if_neg hm]
     have ez : m = s.size := Nat.le_antisymm rc (Nat.le_of_not_lt hm)
     subst ez
     exact ⟨0, false, _, go (ev_tt (ev_bindc next_end (Ev.bind (last _ rfl) (ev_ff (Ev.now _))))), rfl⟩
  rw [if_neg h40]
  exact ⟨0, false, _, st (pre (ev_neg h33 (ev_neg h40 (Ev.now _)))), rfl⟩
theorem holdsIn_ev {t : Int} (ht : 1 ≤ t ∧ t ≤ 3) (s : ByteArray) (hs : s.size ≤ 120) : Ev (fun k => impl_holdsIn.f k t s) (holds t s) := by
 obtain ⟨x, b, p, hx, hg⟩ := rsent_ev ht s (by omega) s.size 0 (Nat.zero_le _) (by omega)
 unfold holds impl_holdsIn.f
 rw [if_pos ⟨ht, hs⟩]
 refine Ev.bind hx ?_
 cases hr : rdS t s s.size 0 with
 | none =>
  rw [hr] at hg
  have : b = false := hg
  subst this
  exact ev_ff (Ev.now _)
 | some y =>
  rw [hr] at hg
  obtain ⟨rfl, rfl, rfl⟩ := hg
  refine ev_tt ?_
  show Ev (fun _ => if (y.2 : Int) = (s.size : Int) then some ((y.1 : Int), true) else some (-1, false)) (if y.2 = s.size then ((y.1 : Int), true) else (-1, false))
  by_cases he : y.2 = s.size
  ·rw [if_pos he]
   exact ev_pos (by omega) (Ev.now _)
  ·rw [if_neg he]
   exact ev_neg (by omega) (Ev.now _)
theorem impl_HoldsIn_ev (t : Int) (s : ByteArray) : Ev (fun k => impl_HoldsIn.f k t s) (holds t s) := by
 unfold impl_HoldsIn.f
 refine ev_bindc (areThings_eq t) ?_
 by_cases ht : 1 ≤ t ∧ t ≤ 3
 ·refine ev_pos (decide_eq_true ht) ?_
  by_cases hs : (s.size : Int) > 120
  ·unfold holds
   rw [if_neg (by omega)]
   exact ev_pos hs (Ev.now _)
  ·exact ev_neg hs (Ev.bind (holdsIn_ev ht s (by omega)) (Ev.now _))
 ·unfold holds
  rw [if_neg (fun k => ht k.1)]
  exact ev_neg (by simpa using ht) (Ev.now _)
end Go.Proofs.Ytihgpkohglcijaa.Pl
