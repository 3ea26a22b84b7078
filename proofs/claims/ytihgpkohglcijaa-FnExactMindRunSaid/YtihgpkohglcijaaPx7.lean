-- Written by a program of this session (wip/hook.py), which runs the kit's printer; Lean checks it.
import Derived.Test.YtihgpkohglcijaaPx0
import Derived.Test.YtihgpkohglcijaaPx6
namespace Go.Proofs.Ytihgpkohglcijaa.P
open Go.RowKit Go.Proofs.YtihgpkohglcijaaW.PrintWords Go.Proofs.YtihgpkohglcijaaW.PrintLast Go.Proofs.YtihgpkohglcijaaW.PrintMore
attribute [local go_sem] max2_int min2_int max_two min_two max_three min_three max_four min_four   -- for this text's walks alone
set_option linter.unusedVariables false
set_option linter.unusedSimpArgs false

/-! ### impl_sentenceReader_sentence: function 136 (by hand) -/
def impl_sentenceReader_sentence.p (c x : Int) : Option Bool := if c = 0 then some (Go.bits .and .i64 x 1 == 1) else if c = 1 then some (Go.bits .and .i64 (x / 2) 1 == 1) else if c = 2 then some (Go.bits .and .i64 (x / 4) 1 == 1) else none
def impl_sentenceReader_sentence.f : Nat → Int → ByteArray → Int → Option (Int × Bool × Int × ByteArray × Int)
 | 0, _, _, _ => none
 | k + 1, t, s, a => (impl_allWorlds.f t).bind fun al => (impl_sentenceReader_next.f t s a).bind fun b =>
  if b.1 = 48 then some (0, true, b.2.1, b.2.2.1, b.2.2.2)
  else if b.1 = 49 then some (al, true, b.2.1, b.2.2.1, b.2.2.2)
  else if b.1 = 97 then (impl_setThat.f (impl_sentenceReader_sentence.p 0) b.2.1).bind fun x => some (x, decide (0 < b.2.1), b.2.1, b.2.2.1, b.2.2.2)
  else if b.1 = 98 then (impl_setThat.f (impl_sentenceReader_sentence.p 1) b.2.1).bind fun x => some (x, decide (1 < b.2.1), b.2.1, b.2.2.1, b.2.2.2)
  else if b.1 = 99 then (impl_setThat.f (impl_sentenceReader_sentence.p 2) b.2.1).bind fun x => some (x, decide (2 < b.2.1), b.2.1, b.2.2.1, b.2.2.2)
  else if b.1 = 33 then (impl_sentenceReader_sentence.f k b.2.1 b.2.2.1 b.2.2.2).bind fun c => some (Go.bits .xor .i64 al c.1, c.2.1, c.2.2.1, c.2.2.2.1, c.2.2.2.2)
  else if b.1 = 40 then (impl_sentenceReader_sentence.f k b.2.1 b.2.2.1 b.2.2.2).bind fun c =>
   if c.2.1 = true then (impl_sentenceReader_next.f c.2.2.1 c.2.2.2.1 c.2.2.2.2).bind fun sg => (impl_sentenceReader_sentence.f k sg.2.1 sg.2.2.1 sg.2.2.2).bind fun d =>
    if d.2.1 = true then (impl_sentenceReader_next.f d.2.2.1 d.2.2.2.1 d.2.2.2.2).bind fun e =>
     if e.1 = 41 then
      (if sg.1 = 38 then some (Go.bits .and .i64 c.1 d.1, true, e.2.1, e.2.2.1, e.2.2.2)
      else if sg.1 = 124 then some (Go.bits .or .i64 c.1 d.1, true, e.2.1, e.2.2.1, e.2.2.2)
      else if sg.1 = 62 then some (Go.bits .or .i64 (Go.bits .xor .i64 al c.1) d.1, true, e.2.1, e.2.2.1, e.2.2.2)
      else some (0, false, e.2.1, e.2.2.1, e.2.2.2))
     else some (0, false, e.2.1, e.2.2.1, e.2.2.2)
    else some (0, false, d.2.2.1, d.2.2.2.1, d.2.2.2.2)
   else some (0, false, c.2.2.1, c.2.2.2.1, c.2.2.2.2)
  else some (0, false, b.2.1, b.2.2.1, b.2.2.2)
theorem impl_sentenceReader_sentence.mono : ∀ a0 a1 a2 k, LeO (impl_sentenceReader_sentence.f k a0 a1 a2) (impl_sentenceReader_sentence.f (k + 1) a0 a1 a2) := by
 intro a0 a1 a2 k
 induction k generalizing a0 a1 a2 with
 | zero => exact LeO.none _
 | succ k ih =>
  unfold impl_sentenceReader_sentence.f
  repeat' first
  | (with_reducible first | exact ih _ _ _ | exact LeO.refl _ | refine LeO.ite ?_ ?_ | refine LeO.bind ?_ (fun _ => ?_))
  | refine LeO.ite ?_ ?_
  | refine LeO.bind ?_ (fun _ => ?_)
set_option maxHeartbeats 2000000 in
theorem impl_sentenceReader_sentence.gives (w : World) (B : Nat) (c : Int) (hB : B < w.heap.size) (hd : w.cell? ⟨B, 0, none⟩ = some (.int .i64 c)) :
  Hof.GivesI 150 #[.pointer (some ⟨B, 0, none⟩)] (impl_sentenceReader_sentence.p c) w := fun W x b hb hp => by
 have hd' := (hb.cell (p := ⟨B, 0, none⟩) hB).trans hd
 clear hd hb hB
 unfold impl_sentenceReader_sentence.p at hp
 by_cases h0 : c = 0
 ·subst h0
  rw [if_pos rfl] at hp
  obtain rfl := Option.some.inj hp
  clear hp
  go_enter Try.func150, Try.ntmps150
  go_wp2
  go_ret
  exact ⟨by first | rfl | (simp; done) | (simp [*]; done), Below.refl _ _⟩
 ·skip
  by_cases h1 : c = 1
  ·subst h1
   rw [if_neg (by decide)] at hp
   rw [if_pos rfl] at hp
   obtain rfl := Option.some.inj hp
   clear hp h0
   go_enter Try.func150, Try.ntmps150
   go_wp2
   go_ret
   exact ⟨by first | rfl | (simp; done) | (simp [*]; done), Below.refl _ _⟩
  ·skip
   by_cases h2 : c = 2
   ·subst h2
    rw [if_neg (by decide)] at hp
    rw [if_neg (by decide)] at hp
    rw [if_pos rfl] at hp
    obtain rfl := Option.some.inj hp
    clear hp h0 h1
    go_enter Try.func150, Try.ntmps150
    go_wp2
    go_ret
    exact ⟨by first | rfl | (simp; done) | (simp [*]; done), Below.refl _ _⟩
   ·skip
    rw [if_neg h0, if_neg h1, if_neg h2] at hp
    cases hp
set_option maxHeartbeats 8000000 in
set_option maxRecDepth 100000 in
theorem impl_sentenceReader_sentence.calls (k : Nat) : ∀ (g : Nat) (s0_0 : Int) (s0_1 : ByteArray) (s0_2 : Int) (r1 : Int) (r2 : Bool) (r3 : Int) (r4 : ByteArray) (r5 : Int) (w0 w : World) (hI : IsS130 w0 w g s0_0 s0_1 s0_2) (hB : Below w0.heap.size w0 w) (h : impl_sentenceReader_sentence.f k s0_0 s0_1 s0_2 = some (r1, r2, r3, r4, r5)),
  Calls Try.prog 136 #[.pointer (some ⟨g, 0, none⟩)] w fun e w' => e = .returned (.tuple #[.int .i64 r1, .bool r2]) ∧ IsS130 w0 w' g r3 r4 r5 ∧ Below w0.heap.size w0 w' ∧ Kbt w w' g none := by
 induction k with
 | zero => intro g s0_0 s0_1 s0_2 r1 r2 r3 r4 r5 w0 w hI hB h; exact absurd h (by simp [impl_sentenceReader_sentence.f])
 | succ k ih =>
 intro g t s a r1 r2 r3 r4 r5 w0 w hI hB h
 simp only [impl_sentenceReader_sentence.f] at h
 have hq_ := Option.bind_eq_some_iff.mp h; clear h; obtain ⟨al, hal, h⟩ := hq_
 have hq_ := Option.bind_eq_some_iff.mp h; clear h; obtain ⟨⟨b, t1, s1, a1⟩, hn, h⟩ := hq_
 simp only at h
 have HAL := Asd.mk (fun W => impl_allWorlds.calls t al W hal)
 have HN := Asd.mk (fun W hI hB => impl_sentenceReader_next.calls g t s a b t1 s1 a1 w0 W hI hB hn)
 have HI := Asd.mk hI
 have HB := Asd.mk hB
 have HK := Asd.mk (Kbt.refl w g none)
 have IH := Asd.mk ih
 have HH := Asd.mk h
 have hcz := cellS130_0 hI.1
 clear hal hn hI hB ih h
 go_enter Try.func136, Try.ntmps136
 go_wp2_with fail
 refine (HAL.out _).mono ?_
 rintro e w1 ⟨rfl, ⟨n, rfl⟩⟩
 have HI1 := Asd.mk (IsS130.drewN HI.out n)
 have HB1 := Asd.mk (bwN HB.out n)
 have HK1 := Asd.mk (kpN HK.out n)
 clear HI HB HK hcz
 go_wp2_with fail
 refine (HN.out _ HI1.out HB1.out).mono ?_
 rintro e w2 ⟨rfl, hI2, hB2, hK2⟩
 have HI2 := Asd.mk hI2
 have HB2 := Asd.mk hB2
 have HK2 := Asd.mk (Kbt.trans HK1.out hK2 (.inl rfl))
 have hcz := cellS130_0 hI2.1
 have hlt := IsS130.lt hI2
 clear hI2 hB2 hK2 HI1 HB1 HK1 HAL HN
 by_cases q48 : b = 48
 ·subst q48
  have h := HH.out
  clear HH
  simp (config := { decide := true }) only [if_true, if_false] at h
  obtain ⟨rfl, rfl, rfl, rfl, rfl⟩ : 0 = r1 ∧ true = r2 ∧ t1 = r3 ∧ s1 = r4 ∧ a1 = r5 := by simpa using h
  clear h IH
  go_wp2
  go_ret2
  exact ⟨rfl, HI2.out, HB2.out, HK2.out⟩
 ·have q48b : (b == 48) = false := beq_eq_false_iff_ne.mpr q48
  by_cases q49 : b = 49
  ·subst q49
   have h := HH.out
   clear HH
   simp (config := { decide := true }) only [if_true, if_false] at h
   clear q48 q48b
   obtain ⟨rfl, rfl, rfl, rfl, rfl⟩ : al = r1 ∧ true = r2 ∧ t1 = r3 ∧ s1 = r4 ∧ a1 = r5 := by simpa using h
   clear h IH
   go_wp2
   go_ret2
   exact ⟨rfl, HI2.out, HB2.out, HK2.out⟩
  ·have q49b : (b == 49) = false := beq_eq_false_iff_ne.mpr q49
   by_cases q97 : b = 97
   ·subst q97
    have h := HH.out
    clear HH
    simp (config := { decide := true }) only [if_true, if_false] at h
    clear q48 q49 q48b q49b
    have hq_ := Option.bind_eq_some_iff.mp h; clear h; obtain ⟨x, hx, h⟩ := hq_
    obtain ⟨rfl, rfl, rfl, rfl, rfl⟩ : x = r1 ∧ decide (0 < t1) = r2 ∧ t1 = r3 ∧ s1 = r4 ∧ a1 = r5 := by simpa using h
    have HT := Asd.mk (fun W hg => impl_setThat.calls 150 #[.pointer (some ⟨w2.heap.size, 0, none⟩)] (Hof.enters Try.func150 (by kernel_rfl) rfl) (impl_sentenceReader_sentence.p 0) t1 x W hg hx)
    clear h hx IH
    have HIa := Asd.mk (IsS130.alloc HI2.out (.cells #[.int .i64 0] 3))
    have HBa := Asd.mk (HB2.out.alloc HB2.out.size (.cells #[.int .i64 0] 3))
    have HKa := Asd.mk (kpA HK2.out (.cells #[.int .i64 0] 3))
    clear HI2 HB2 HK2
    go_wp2_with fail
    go_region_held3 (fun w' => w'.cell? ⟨g, 0, none⟩ = some (.int .i64 t1) ∧ w'.cell? ⟨w2.heap.size, 0, none⟩ = some (.int .i64 0) ∧ Asd (IsS130 w0 w' g t1 s1 a1) ∧ Asd (Below w0.heap.size w0 w') ∧ Asd (Kbt w w' g none)) (((try go_split_ands); (try (refine And.intro ?_ (And.intro ?_ (And.intro ?_ (And.intro ?_ ?_))))); all_goals (first | assumption | exact ⟨IsS130.drew HIa.out⟩ | exact ⟨below_drew HBa.out⟩ | exact ⟨kpD HKa.out⟩ | exact ⟨IsS130.below (Asd.out (by assumption)) hbz⟩ | exact ⟨bwP (below_drew HBa.out) hbz⟩ | exact ⟨bwP (Asd.out (by assumption)) hbz⟩ | exact ⟨Kbt.trans (Asd.out (by assumption)) (Kbt.of_below hbz g none) (.inl rfl)⟩ | exact (hbz.cell (World.block_lt_of_cell? _ _ (by assumption))).trans (by assumption) | go_keep | (simp [*]; done) | (trace_state; fail)))) ((go_at_call 137; refine (HT.out _ (impl_sentenceReader_sentence.gives _ w2.heap.size 0 (by first | (simp; done) | exact World.block_lt_of_cell? _ ⟨w2.heap.size, 0, none⟩ (by assumption)) (by first | assumption | (simp; done)))).mono ?_; rintro e wz ⟨rfl, hbz⟩))
    have hh := (by assumption : wz.cell? ⟨g, 0, none⟩ = some (.int .i64 t1) ∧ wz.cell? ⟨w2.heap.size, 0, none⟩ = some (.int .i64 0) ∧ Asd (IsS130 w0 wz g t1 s1 a1) ∧ Asd (Below w0.heap.size w0 wz) ∧ Asd (Kbt w wz g none))
    obtain ⟨_, _, hi_, hb_, hk_⟩ := hh
    clear HIa HBa HKa hbz
    go_wp2
    go_ret2
    exact ⟨rfl, hi_.out, hb_.out, hk_.out⟩
   ·have q97b : (b == 97) = false := beq_eq_false_iff_ne.mpr q97
    by_cases q98 : b = 98
    ·subst q98
     have h := HH.out
     clear HH
     simp (config := { decide := true }) only [if_true, if_false] at h
     clear q48 q49 q97 q48b q49b q97b
     have hq_ := Option.bind_eq_some_iff.mp h; clear h; obtain ⟨x, hx, h⟩ := hq_
     obtain ⟨rfl, rfl, rfl, rfl, rfl⟩ : x = r1 ∧ decide (1 < t1) = r2 ∧ t1 = r3 ∧ s1 = r4 ∧ a1 = r5 := by simpa using h
     have HT := Asd.mk (fun W hg => impl_setThat.calls 150 #[.pointer (some ⟨w2.heap.size, 0, none⟩)] (Hof.enters Try.func150 (by kernel_rfl) rfl) (impl_sentenceReader_sentence.p 1) t1 x W hg hx)
     clear h hx IH
     have HIa := Asd.mk (IsS130.alloc HI2.out (.cells #[.int .i64 1] 3))
     have HBa := Asd.mk (HB2.out.alloc HB2.out.size (.cells #[.int .i64 1] 3))
     have HKa := Asd.mk (kpA HK2.out (.cells #[.int .i64 1] 3))
     clear HI2 HB2 HK2
     go_wp2_with fail
     go_region_held3 (fun w' => w'.cell? ⟨g, 0, none⟩ = some (.int .i64 t1) ∧ w'.cell? ⟨w2.heap.size, 0, none⟩ = some (.int .i64 1) ∧ Asd (IsS130 w0 w' g t1 s1 a1) ∧ Asd (Below w0.heap.size w0 w') ∧ Asd (Kbt w w' g none)) (((try go_split_ands); (try (refine And.intro ?_ (And.intro ?_ (And.intro ?_ (And.intro ?_ ?_))))); all_goals (first | assumption | exact ⟨IsS130.drew HIa.out⟩ | exact ⟨below_drew HBa.out⟩ | exact ⟨kpD HKa.out⟩ | exact ⟨IsS130.below (Asd.out (by assumption)) hbz⟩ | exact ⟨bwP (below_drew HBa.out) hbz⟩ | exact ⟨bwP (Asd.out (by assumption)) hbz⟩ | exact ⟨Kbt.trans (Asd.out (by assumption)) (Kbt.of_below hbz g none) (.inl rfl)⟩ | exact (hbz.cell (World.block_lt_of_cell? _ _ (by assumption))).trans (by assumption) | go_keep | (simp [*]; done) | (trace_state; fail)))) ((go_at_call 137; refine (HT.out _ (impl_sentenceReader_sentence.gives _ w2.heap.size 1 (by first | (simp; done) | exact World.block_lt_of_cell? _ ⟨w2.heap.size, 0, none⟩ (by assumption)) (by first | assumption | (simp; done)))).mono ?_; rintro e wz ⟨rfl, hbz⟩))
     have hh := (by assumption : wz.cell? ⟨g, 0, none⟩ = some (.int .i64 t1) ∧ wz.cell? ⟨w2.heap.size, 0, none⟩ = some (.int .i64 1) ∧ Asd (IsS130 w0 wz g t1 s1 a1) ∧ Asd (Below w0.heap.size w0 wz) ∧ Asd (Kbt w wz g none))
     obtain ⟨_, _, hi_, hb_, hk_⟩ := hh
     clear HIa HBa HKa hbz
     go_wp2
     go_ret2
     exact ⟨rfl, hi_.out, hb_.out, hk_.out⟩
    ·have q98b : (b == 98) = false := beq_eq_false_iff_ne.mpr q98
     by_cases q99 : b = 99
     ·subst q99
      have h := HH.out
      clear HH
      simp (config := { decide := true }) only [if_true, if_false] at h
      clear q48 q49 q97 q98 q48b q49b q97b q98b
      have hq_ := Option.bind_eq_some_iff.mp h; clear h; obtain ⟨x, hx, h⟩ := hq_
      obtain ⟨rfl, rfl, rfl, rfl, rfl⟩ : x = r1 ∧ decide (2 < t1) = r2 ∧ t1 = r3 ∧ s1 = r4 ∧ a1 = r5 := by simpa using h
      have HT := Asd.mk (fun W hg => impl_setThat.calls 150 #[.pointer (some ⟨w2.heap.size, 0, none⟩)] (Hof.enters Try.func150 (by kernel_rfl) rfl) (impl_sentenceReader_sentence.p 2) t1 x W hg hx)
      clear h hx IH
      have HIa := Asd.mk (IsS130.alloc HI2.out (.cells #[.int .i64 2] 3))
      have HBa := Asd.mk (HB2.out.alloc HB2.out.size (.cells #[.int .i64 2] 3))
      have HKa := Asd.mk (kpA HK2.out (.cells #[.int .i64 2] 3))
      clear HI2 HB2 HK2
      go_wp2_with fail
      go_region_held3 (fun w' => w'.cell? ⟨g, 0, none⟩ = some (.int .i64 t1) ∧ w'.cell? ⟨w2.heap.size, 0, none⟩ = some (.int .i64 2) ∧ Asd (IsS130 w0 w' g t1 s1 a1) ∧ Asd (Below w0.heap.size w0 w') ∧ Asd (Kbt w w' g none)) (((try go_split_ands); (try (refine And.intro ?_ (And.intro ?_ (And.intro ?_ (And.intro ?_ ?_))))); all_goals (first | assumption | exact ⟨IsS130.drew HIa.out⟩ | exact ⟨below_drew HBa.out⟩ | exact ⟨kpD HKa.out⟩ | exact ⟨IsS130.below (Asd.out (by assumption)) hbz⟩ | exact ⟨bwP (below_drew HBa.out) hbz⟩ | exact ⟨bwP (Asd.out (by assumption)) hbz⟩ | exact ⟨Kbt.trans (Asd.out (by assumption)) (Kbt.of_below hbz g none) (.inl rfl)⟩ | exact (hbz.cell (World.block_lt_of_cell? _ _ (by assumption))).trans (by assumption) | go_keep | (simp [*]; done) | (trace_state; fail)))) ((go_at_call 137; refine (HT.out _ (impl_sentenceReader_sentence.gives _ w2.heap.size 2 (by first | (simp; done) | exact World.block_lt_of_cell? _ ⟨w2.heap.size, 0, none⟩ (by assumption)) (by first | assumption | (simp; done)))).mono ?_; rintro e wz ⟨rfl, hbz⟩))
      have hh := (by assumption : wz.cell? ⟨g, 0, none⟩ = some (.int .i64 t1) ∧ wz.cell? ⟨w2.heap.size, 0, none⟩ = some (.int .i64 2) ∧ Asd (IsS130 w0 wz g t1 s1 a1) ∧ Asd (Below w0.heap.size w0 wz) ∧ Asd (Kbt w wz g none))
      obtain ⟨_, _, hi_, hb_, hk_⟩ := hh
      clear HIa HBa HKa hbz
      go_wp2
      go_ret2
      exact ⟨rfl, hi_.out, hb_.out, hk_.out⟩
     ·have q99b : (b == 99) = false := beq_eq_false_iff_ne.mpr q99
      by_cases q33 : b = 33
      ·subst q33
       have h := HH.out
       clear HH
       simp (config := { decide := true }) only [if_true, if_false] at h
       clear q48 q49 q97 q98 q99 q48b q49b q97b q98b q99b
       have hq_ := Option.bind_eq_some_iff.mp h; clear h; obtain ⟨⟨c1, c2, c3, c4, c5⟩, hc, h⟩ := hq_
       obtain ⟨rfl, rfl, rfl, rfl, rfl⟩ : Go.bits .xor .i64 al c1 = r1 ∧ c2 = r2 ∧ c3 = r3 ∧ c4 = r4 ∧ c5 = r5 := by simpa using h
       have HC := Asd.mk (fun W hI hB => IH.out g t1 s1 a1 c1 c2 c3 c4 c5 w0 W hI hB hc)
       clear h hc IH
       go_wp2_with fail
       refine (HC.out _ HI2.out HB2.out).mono ?_
       rintro e w3 ⟨rfl, hI3, hB3, hK3⟩
       have HI3 := Asd.mk hI3
       have HB3 := Asd.mk hB3
       have HK3 := Asd.mk (Kbt.trans HK2.out hK3 (.inl rfl))
       clear hI3 hB3 hK3 hcz hlt
       go_wp2
       go_ret2
       exact ⟨rfl, HI3.out, HB3.out, HK3.out⟩
      ·have q33b : (b == 33) = false := beq_eq_false_iff_ne.mpr q33
       by_cases q40 : b = 40
       ·subst q40
        have h := HH.out
        clear HH
        simp (config := { decide := true }) only [if_true, if_false] at h
        clear q48 q49 q97 q98 q99 q33 q48b q49b q97b q98b q99b q33b
        have hq_ := Option.bind_eq_some_iff.mp h; clear h; obtain ⟨⟨c1, c2, c3, c4, c5⟩, hc, h⟩ := hq_
        have HC := Asd.mk (fun W hI hB => IH.out g t1 s1 a1 c1 c2 c3 c4 c5 w0 W hI hB hc)
        have HH := Asd.mk h
        clear h hc
        go_wp2_with fail
        refine (HC.out _ HI2.out HB2.out).mono ?_
        rintro e w3 ⟨rfl, hI3, hB3, hK3⟩
        have HI3 := Asd.mk hI3
        have HB3 := Asd.mk hB3
        have HK3 := Asd.mk (Kbt.trans HK2.out hK3 (.inl rfl))
        clear hI3 hB3 hK3 hcz hlt HI2 HB2 HK2 HC
        obtain ⟨h⟩ := HH
        cases c2 with
        | false =>
         simp (config := { decide := true }) only [if_true, if_false] at h
         obtain ⟨rfl, rfl, rfl, rfl, rfl⟩ : 0 = r1 ∧ false = r2 ∧ c3 = r3 ∧ c4 = r4 ∧ c5 = r5 := by simpa using h
         clear h IH
         go_wp2
         go_ret2
         exact ⟨rfl, HI3.out, HB3.out, HK3.out⟩
        | true =>
         simp (config := { decide := true }) only [if_true, if_false] at h
         have hq_ := Option.bind_eq_some_iff.mp h; clear h; obtain ⟨⟨sg, t4, s4, a4⟩, hsg, h⟩ := hq_
         have hq_ := Option.bind_eq_some_iff.mp h; clear h; obtain ⟨⟨d1, d2, d3, d4, d5⟩, hd, h⟩ := hq_
         have HN := Asd.mk (fun W hI hB => impl_sentenceReader_next.calls g c3 c4 c5 sg t4 s4 a4 w0 W hI hB hsg)
         have HD := Asd.mk (fun W hI hB => IH.out g t4 s4 a4 d1 d2 d3 d4 d5 w0 W hI hB hd)
         have HH := Asd.mk h
         clear h hsg hd IH
         go_wp2_with fail
         refine (HN.out _ HI3.out HB3.out).mono ?_
         rintro e w4 ⟨rfl, hI4, hB4, hK4⟩
         have HI4 := Asd.mk hI4
         have HB4 := Asd.mk hB4
         have HK4 := Asd.mk (Kbt.trans HK3.out hK4 (.inl rfl))
         clear hI4 hB4 hK4 HI3 HB3 HK3 HN
         go_wp2_with fail
         refine (HD.out _ HI4.out HB4.out).mono ?_
         rintro e w5 ⟨rfl, hI5, hB5, hK5⟩
         have HI5 := Asd.mk hI5
         have HB5 := Asd.mk hB5
         have HK5 := Asd.mk (Kbt.trans HK4.out hK5 (.inl rfl))
         clear hI5 hB5 hK5 HI4 HB4 HK4 HD
         obtain ⟨h⟩ := HH
         cases d2 with
         | false =>
          simp (config := { decide := true }) only [if_true, if_false] at h
          obtain ⟨rfl, rfl, rfl, rfl, rfl⟩ : 0 = r1 ∧ false = r2 ∧ d3 = r3 ∧ d4 = r4 ∧ d5 = r5 := by simpa using h
          clear h
          go_wp2
          go_ret2
          exact ⟨rfl, HI5.out, HB5.out, HK5.out⟩
         | true =>
          simp (config := { decide := true }) only [if_true, if_false] at h
          have hq_ := Option.bind_eq_some_iff.mp h; clear h; obtain ⟨⟨e1, t6, s6, a6⟩, he, h⟩ := hq_
          have HE := Asd.mk (fun W hI hB => impl_sentenceReader_next.calls g d3 d4 d5 e1 t6 s6 a6 w0 W hI hB he)
          have HH := Asd.mk h
          clear h he
          go_wp2_with fail
          refine (HE.out _ HI5.out HB5.out).mono ?_
          rintro e w6 ⟨rfl, hI6, hB6, hK6⟩
          have HI6 := Asd.mk hI6
          have HB6 := Asd.mk hB6
          have HK6 := Asd.mk (Kbt.trans HK5.out hK6 (.inl rfl))
          clear hI6 hB6 hK6 HI5 HB5 HK5 HE
          obtain ⟨h⟩ := HH
          (try simp only at h)
          by_cases m41 : e1 = 41
          ·subst m41
           rw [if_pos rfl] at h
           by_cases z38 : sg = 38
           ·subst z38
            simp (config := { decide := true }) only [if_true, if_false] at h
            obtain ⟨rfl, rfl, rfl, rfl, rfl⟩ : Go.bits .and .i64 c1 d1 = r1 ∧ true = r2 ∧ t6 = r3 ∧ s6 = r4 ∧ a6 = r5 := by simpa using h
            clear h 
            go_wp2
            go_ret2
            exact ⟨rfl, HI6.out, HB6.out, HK6.out⟩
           ·rw [if_neg z38] at h
            have z38b : (sg == 38) = false := beq_eq_false_iff_ne.mpr z38
            by_cases z124 : sg = 124
            ·subst z124
             simp (config := { decide := true }) only [if_true, if_false] at h
             obtain ⟨rfl, rfl, rfl, rfl, rfl⟩ : Go.bits .or .i64 c1 d1 = r1 ∧ true = r2 ∧ t6 = r3 ∧ s6 = r4 ∧ a6 = r5 := by simpa using h
             clear h z38 z38b
             go_wp2
             go_ret2
             exact ⟨rfl, HI6.out, HB6.out, HK6.out⟩
            ·rw [if_neg z124] at h
             have z124b : (sg == 124) = false := beq_eq_false_iff_ne.mpr z124
             by_cases z62 : sg = 62
             ·subst z62
              simp (config := { decide := true }) only [if_true, if_false] at h
              obtain ⟨rfl, rfl, rfl, rfl, rfl⟩ : Go.bits .or .i64 (Go.bits .xor .i64 al c1) d1 = r1 ∧ true = r2 ∧ t6 = r3 ∧ s6 = r4 ∧ a6 = r5 := by simpa using h
              clear h z38 z38b z124 z124b
              go_wp2
              go_ret2
              exact ⟨rfl, HI6.out, HB6.out, HK6.out⟩
             ·rw [if_neg z62] at h
              have z62b : (sg == 62) = false := beq_eq_false_iff_ne.mpr z62
              obtain ⟨rfl, rfl, rfl, rfl, rfl⟩ : 0 = r1 ∧ false = r2 ∧ t6 = r3 ∧ s6 = r4 ∧ a6 = r5 := by simpa using h
              clear h z38 z124 z62
              go_wp2
              go_ret2
              exact ⟨rfl, HI6.out, HB6.out, HK6.out⟩
          ·rw [if_neg m41] at h
           obtain ⟨rfl, rfl, rfl, rfl, rfl⟩ : 0 = r1 ∧ false = r2 ∧ t6 = r3 ∧ s6 = r4 ∧ a6 = r5 := by simpa using h
           have m41b : (e1 != 41) = true := bne_iff_ne.mpr m41
           have m41c : (e1 == 41) = false := beq_eq_false_iff_ne.mpr m41
           clear h m41
           go_wp2
           go_ret2
           exact ⟨rfl, HI6.out, HB6.out, HK6.out⟩
       ·have q40b : (b == 40) = false := beq_eq_false_iff_ne.mpr q40
        have h := HH.out
        clear HH
        (try simp only at h)
        rw [if_neg q48, if_neg q49, if_neg q97, if_neg q98, if_neg q99, if_neg q33, if_neg q40] at h
        obtain ⟨rfl, rfl, rfl, rfl, rfl⟩ : 0 = r1 ∧ false = r2 ∧ t1 = r3 ∧ s1 = r4 ∧ a1 = r5 := by simpa using h
        clear h IH q48 q49 q97 q98 q99 q33 q40
        go_wp2
        go_ret2
        exact ⟨rfl, HI2.out, HB2.out, HK2.out⟩

end Go.Proofs.Ytihgpkohglcijaa.P
