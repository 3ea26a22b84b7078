-- Written by a program of this session (wip/hook.py), which runs the kit's printer; Lean checks it.
import Derived.Test.YteiehniidihmdaaPx0
import Derived.Test.YteiehniidihmdaaPx1
import Derived.Test.YteiehniidihmdaaPx4
import Derived.Test.YteiehniidihmdaaPx7
import Derived.Test.YteiehniidihmdaaPx8
namespace Go.Proofs.Yteiehniidihmdaa.P
open Go.RowKit Go.Proofs.YteiehniidihmdaaW.PrintWords Go.Proofs.YteiehniidihmdaaW.PrintLast Go.Proofs.YteiehniidihmdaaW.PrintMore
attribute [local go_sem] max2_int min2_int max_two min_two max_three min_three max_four min_four   -- for this text's walks alone
set_option linter.unusedVariables false
set_option linter.unusedSimpArgs false

/-! ### impl_LeastParts: function 46 (by hand) -/
def impl_LeastParts.p (k : Nat) (a0 : Int) (l1 : List Int) (a2 part : Int) : Option Bool := (impl_partWorlds.f k a0 l1 part).bind fun t => some (decide (Go.bits .andNot .i64 t a2 = 0))
def impl_LeastParts.f (k : Nat) (a0 : Int) (l1 : List Int) (a2 : Int) : Option (List Int) := (impl_isBase.f a0 l1).bind fun b => if b = true then ((impl_isSet.f a0 a2).bind fun c => if c = true then impl_leastThat.f (impl_LeastParts.p k a0 l1 a2) (l1.length : Int) else some []) else some []
theorem impl_LeastParts.mono : ∀ a0 a1 a2 k, LeO (impl_LeastParts.f k a0 a1 a2) (impl_LeastParts.f (k + 1) a0 a1 a2) := by
  intro a0 a1 a2 k
  unfold impl_LeastParts.f
  exact LeO.bind (LeO.refl _) (fun b => LeO.ite (LeO.bind (LeO.refl _) (fun c => LeO.ite (impl_leastThat.f_le (fun x => LeO.bind (impl_partWorlds.mono _ _ _ _) (fun t => LeO.refl _)) _) (LeO.refl _))) (LeO.refl _))
set_option maxHeartbeats 2000000 in
theorem impl_LeastParts.gives (k : Nat) (w : World) (B : Nat) (a0 : Int) (A1 : Option Addr) (c1 : Nat) (l1 : List Int) (a2 : Int) (hr1 : Kd.C (Kd.int .i64) w A1 l1.length l1) (hc1 : l1.length ≤ c1) (hB : B + 2 < w.heap.size)
    (hc : w.cell? ⟨B, 0, none⟩ = some (.int .i64 a0)) (hd : w.cell? ⟨B + 1, 0, none⟩ = some (.slice A1 l1.length c1)) (he : w.cell? ⟨B + 2, 0, none⟩ = some (.int .i64 a2)) :
    Hof.GivesI 94 #[.pointer (some ⟨B, 0, none⟩), .pointer (some ⟨B + 1, 0, none⟩), .pointer (some ⟨B + 2, 0, none⟩)] (impl_LeastParts.p k a0 l1 a2) w := fun W x b hb hp => by
  have hc' := (hb.cell (p := ⟨B, 0, none⟩) (by show B < _; omega)).trans hc
  have hd' := (hb.cell (p := ⟨B + 1, 0, none⟩) (by show B + 1 < _; omega)).trans hd
  have he' := (hb.cell (p := ⟨B + 2, 0, none⟩) (by show B + 2 < _; omega)).trans he
  have HBB := Aside0.mk (Below.refl W.heap.size W)
  have HR := Aside0.mk (Kd.C_below hr1 hb)
  have HC := Aside0.mk hc1
  obtain ⟨t, ht, hp⟩ := Option.bind_eq_some_iff.mp hp
  obtain rfl := Option.some.inj hp
  have HT := Aside0.mk ht
  clear hc hb hp hd he hr1 hB ht hc1
  by_cases hg : Go.bits .andNot .i64 t a2 = 0
  · have hg0 : (Go.bits .andNot .i64 t a2 == 0) = true := beq_iff_eq.mpr hg
    have hg1 : decide (Go.bits .andNot .i64 t a2 = 0) = true := decide_eq_true hg
    clear hg
    go_enter Try.func94, Try.ntmps94
    go_wp2
    go_quiet (first | (go_at_call 80; (with_reducible refine (impl_partWorlds.calls k a0 _ _ l1 x t _ ?side1 ?side2 HT.out).mono ?_); (case side1 => repeat (first | exact HR.out | (with_reducible refine Kd.C_alloc ?_ _) | (with_reducible refine Kd.C_drewN ?_ _) | (with_reducible refine Kd.C_drew ?_))); (case side2 => exact HC.out); rintro e w' ⟨rfl, ⟨nd, rfl⟩⟩; (try first | exact ⟨rfl, _, World.drewN_drewN _ _ _⟩ | exact ⟨rfl, _, Eq.trans (World.drewN_drewN _ _ _) (congrArg (World.drewN _) (Nat.add_assoc _ _ _))⟩)))
    go_wp2
    go_ret
    exact ⟨by rw [hg1]; rfl, by repeat (first | (with_reducible first | exact HBB.out | apply below_alloc | apply pw_below_drewN | apply below_drew1) | exact HBB.out)⟩
  · have hg0 : (Go.bits .andNot .i64 t a2 == 0) = false := beq_eq_false_iff_ne.mpr hg
    have hg1 : decide (Go.bits .andNot .i64 t a2 = 0) = false := decide_eq_false hg
    clear hg
    go_enter Try.func94, Try.ntmps94
    go_wp2
    go_quiet (first | (go_at_call 80; (with_reducible refine (impl_partWorlds.calls k a0 _ _ l1 x t _ ?side1 ?side2 HT.out).mono ?_); (case side1 => repeat (first | exact HR.out | (with_reducible refine Kd.C_alloc ?_ _) | (with_reducible refine Kd.C_drewN ?_ _) | (with_reducible refine Kd.C_drew ?_))); (case side2 => exact HC.out); rintro e w' ⟨rfl, ⟨nd, rfl⟩⟩; (try first | exact ⟨rfl, _, World.drewN_drewN _ _ _⟩ | exact ⟨rfl, _, Eq.trans (World.drewN_drewN _ _ _) (congrArg (World.drewN _) (Nat.add_assoc _ _ _))⟩)))
    go_wp2
    go_ret
    exact ⟨by rw [hg1]; rfl, by repeat (first | (with_reducible first | exact HBB.out | apply below_alloc | apply pw_below_drewN | apply below_drew1) | exact HBB.out)⟩
set_option maxHeartbeats 4000000 in
theorem impl_LeastParts.calls (k : Nat) (a0 : Int) (A1 : Option Addr) (c1 : Nat) (l1 : List Int) (a2 : Int) (r : List Int) (w : World) (hr1 : Kd.C (Kd.int .i64) w A1 l1.length l1) (hc1 : l1.length ≤ c1) (h : impl_LeastParts.f k a0 l1 a2 = some r) :
    Calls Try.prog 46 #[.int .i64 a0, .slice A1 l1.length c1, .int .i64 a2] w fun e w' => ∃ v0_ : Value, e = .returned (v0_) ∧ Kd.R (Kd.int .i64) 3 w' w.heap.size (fun _ => True) v0_ r ∧ Below w.heap.size w w' := by
  have HR := Aside0.mk hr1
  have HC1 := Aside0.mk hc1
  have HB := Aside0.mk (Below.refl w.heap.size w)
  unfold impl_LeastParts.f at h
  clear hr1 hc1
  obtain ⟨b, hb, h⟩ := Option.bind_eq_some_iff.mp h
  have HI := Aside0.mk (fun W hR => impl_isBase.calls a0 A1 c1 l1 b W hR HC1.out hb)
  have hW : Below w.heap.size w (((w.alloc (.cells #[.int .i64 a0] 3)).alloc (.cells #[.slice A1 l1.length c1] 22)).alloc (.cells #[.int .i64 a2] 3)) := below_alloc (below_alloc (below_alloc HB.out _) _) _
  have HW := Aside0.mk hW
  clear hb hW
  cases b with
  | false =>
    obtain rfl : [] = r := by simpa using h
    clear h
    go_enter Try.func46, Try.ntmps46
    go_wp2_with fail
    refine (HI.out _ (Kd.C_below HR.out HW.out)).mono ?_
    rintro e w2 ⟨rfl, hb2⟩
    go_wp2
    go_ret
    exact ⟨_, rfl, Kd.R_nil _ _ _ _ _, below_then HW.out HW.out.size hb2⟩
  | true =>
    rw [if_pos rfl] at h
    obtain ⟨c, hc, h⟩ := Option.bind_eq_some_iff.mp h
    have HS := Aside0.mk (fun W => impl_isSet.calls a0 a2 c W hc)
    clear hc
    cases c with
    | false =>
      obtain rfl : [] = r := by simpa using h
      clear h
      go_enter Try.func46, Try.ntmps46
      go_wp2_with fail
      refine (HI.out _ (Kd.C_below HR.out HW.out)).mono ?_
      rintro e w2 ⟨rfl, hb2⟩
      have c1' : w2.cell? ⟨w.heap.size, 0, none⟩ = some (.int .i64 a0) := (hb2.cell (p := ⟨w.heap.size, 0, none⟩) (by simp; omega)).trans ((World.cell?_alloc_past _ _ _ (by simp; omega)).trans ((World.cell?_alloc_past _ _ _ (by simp)).trans (by simp)))
      have c3' : w2.cell? ⟨w.heap.size + 2, 0, none⟩ = some (.int .i64 a2) := (hb2.cell (p := ⟨w.heap.size + 2, 0, none⟩) (by simp)).trans (by simp [World.cell?_alloc_past, World.cell?_alloc_at])
      have HB2 := Aside0.mk (below_then HW.out HW.out.size hb2)
      clear hb2
      go_wp2_with fail
      refine (HS.out _).mono ?_
      rintro e w3 ⟨rfl, ⟨n, rfl⟩⟩
      go_wp2
      go_ret
      exact ⟨_, rfl, Kd.R_nil _ _ _ _ _, pw_below_drewN HB2.out n⟩
    | true =>
      have h' : impl_leastThat.f (impl_LeastParts.p k a0 l1 a2) (l1.length : Int) = some r := by simpa using h
      clear h
      have HL := Aside0.mk (fun W' hg => impl_leastThat.calls 94 #[.pointer (some ⟨w.heap.size, 0, none⟩), .pointer (some ⟨w.heap.size + 1, 0, none⟩), .pointer (some ⟨w.heap.size + 2, 0, none⟩)] (Hof.enters Try.func94 (by kernel_rfl) rfl) (impl_LeastParts.p k a0 l1 a2) (l1.length : Int) r W' hg h')
      clear h'
      go_enter Try.func46, Try.ntmps46
      go_wp2_with fail
      refine (HI.out _ (Kd.C_below HR.out HW.out)).mono ?_
      rintro e w2 ⟨rfl, hb2⟩
      have c1' : w2.cell? ⟨w.heap.size, 0, none⟩ = some (.int .i64 a0) := (hb2.cell (p := ⟨w.heap.size, 0, none⟩) (by simp; omega)).trans ((World.cell?_alloc_past _ _ _ (by simp; omega)).trans ((World.cell?_alloc_past _ _ _ (by simp)).trans (by simp)))
      have c2' : w2.cell? ⟨w.heap.size + 1, 0, none⟩ = some (.slice A1 l1.length c1) := (hb2.cell (p := ⟨w.heap.size + 1, 0, none⟩) (by simp)).trans (by simp [World.cell?_alloc_past, World.cell?_alloc_at])
      have c3' : w2.cell? ⟨w.heap.size + 2, 0, none⟩ = some (.int .i64 a2) := (hb2.cell (p := ⟨w.heap.size + 2, 0, none⟩) (by simp)).trans (by simp [World.cell?_alloc_past, World.cell?_alloc_at])
      have HS2 : Aside0 (w.heap.size + 2 < w2.heap.size) := ⟨Nat.lt_of_lt_of_le (by simp) hb2.size⟩
      have HB2 := Aside0.mk (below_then HW.out HW.out.size hb2)
      clear hb2
      go_wp2_with fail
      refine (HS.out _).mono ?_
      rintro e w3 ⟨rfl, ⟨n, rfl⟩⟩
      have HB3 := Aside0.mk (pw_below_drewN HB2.out n)
      go_wp2_with fail
      refine (HL.out _ (impl_LeastParts.gives k _ w.heap.size a0 A1 c1 l1 a2 (Kd.C_below HR.out HB3.out) HC1.out (by simpa using HS2.out) (by simpa using c1') (by simpa using c2') (by simpa using c3'))).mono ?_
      rintro e w4 ⟨v, rfl, hR3, hb3⟩
      have HR3 := Aside0.mk (Kd.R_lower hR3 HB3.out.size)
      have HB4 := Aside0.mk (below_then HB3.out HB3.out.size hb3)
      clear hR3 hb3
      go_wp2
      go_ret
      exact ⟨_, rfl, HR3.out, HB4.out⟩

/-! ### laws_sameInts: function 48 -/
def laws_sameInts.l0 : Nat → List Int → List Int → Int → Option (Bool)
  | 0, _, _, _ => none
  | k + 1, x0, x1, x5 => if x5 < (x0.length : Int) then (if 0 ≤ x5 then (if x5 < (x1.length : Int) then (if (rd x0 x5) = (rd x1 x5) then (laws_sameInts.l0 k x0 x1 (wrap64 (x5 + 1))) else (some false)) else (none)) else (none)) else (some true)
def laws_sameInts.f (k : Nat) (l0 : List Int) (l1 : List Int) : Option (Bool) := if (l0.length : Int) = (l1.length : Int) then (laws_sameInts.l0 k l0 l1 0) else (some false)
theorem laws_sameInts.mono_l : ∀ k, (∀ y0 y1 y2, LeO (laws_sameInts.l0 k y0 y1 y2) (laws_sameInts.l0 (k + 1) y0 y1 y2))
  | 0 => fun _ _ _ r h => by simp [laws_sameInts.l0] at h
  | k + 1 => by
    have ih0 := laws_sameInts.mono_l k
    · intro y0 y1 y2
      unfold laws_sameInts.l0
      repeat' first
      | (with_reducible exact ih0 _ _ _)
      | (with_reducible exact LeO.refl _)
      | (with_reducible exact LeO.none _)
      | (with_reducible refine LeO.ite ?_ ?_)
      | (with_reducible refine LeO.bind ?_ (fun _ => ?_))
      | exact ih0 _ _ _
      | exact LeO.none _
      | refine LeO.ite ?_ ?_
      | refine LeO.bind ?_ (fun _ => ?_)
theorem laws_sameInts.mono : ∀ a0 a1 k, LeO (laws_sameInts.f k a0 a1) (laws_sameInts.f (k + 1) a0 a1) := by
  intro a0 a1 k
  have ih0 := laws_sameInts.mono_l k
  unfold laws_sameInts.f
  repeat' first
      | (with_reducible exact ih0 _ _ _)
      | (with_reducible exact LeO.refl _)
      | (with_reducible exact LeO.none _)
      | (with_reducible refine LeO.ite ?_ ?_)
      | (with_reducible refine LeO.bind ?_ (fun _ => ?_))
      | exact ih0 _ _ _
      | exact LeO.none _
      | refine LeO.ite ?_ ?_
      | refine LeO.bind ?_ (fun _ => ?_)
set_option maxHeartbeats 8000000 in
set_option maxRecDepth 100000 in
theorem laws_sameInts.calls (k : Nat) (A0 : Option Addr) (c0 : Nat) (l0 : List Int) (A1 : Option Addr) (c1 : Nat) (l1 : List Int) (r : Bool) (w : World) (hr0 : Kd.C (Kd.int .i64) w A0 l0.length l0) (hc0 : l0.length ≤ c0) (hr1 : Kd.C (Kd.int .i64) w A1 l1.length l1) (hc1 : l1.length ≤ c1) (h : laws_sameInts.f k l0 l1 = some r) :
    Calls Try.prog 48 #[.slice A0 l0.length c0, .slice A1 l1.length c1] w fun e w' => e = .returned (.bool r) ∧ Drawn0 w w' := by
  have HR0 := Aside0.mk hr0
  have HC0 := Aside0.mk hc0
  clear hr0 hc0
  have HR1 := Aside0.mk hr1
  have HC1 := Aside0.mk hc1
  clear hr1 hc1
  have H : (if (l0.length : Int) = (l1.length : Int) then (laws_sameInts.l0 k l0 l1 0) else (some false)) = some r := h
  clear h
  by_cases c3 : (l0.length : Int) = (l1.length : Int)
  · rw [if_pos c3] at H
    have c3b0 : ((l0.length : Int) == (l1.length : Int)) = true := beq_iff_eq.mpr c3
    have c3b1 : ((l0.length : Int) != (l1.length : Int)) = false := bne_eq_false_iff_eq.mpr c3
    have c3b2 : (l0.length == l1.length) = true := by first | simpa using c3 | (simp at c3 ⊢; omega)
    clear c3
    have H' := Aside0.mk H
    clear H
    go_enter Try.func48, Try.ntmps48
    go_wp2
    repeat (go_quiet (fail); try go_wp2)
    go_loopg [5] k (fun kq v5 w' => ∃ (x5_1 : Int), v5 = .int .i64 x5_1 ∧ Aside0 (laws_sameInts.l0 kq l0 l1 x5_1 = some r) ∧ Aside0 (kq ≤ k) ∧ Drawn0 w w')
    case atStart => exact ⟨(0), (by first | rfl | (simp; done) | (simp [*]; done)), H', ⟨Nat.le_refl _⟩, by repeat (first | exact Drawn0.refl _ | apply Drawn0.step)⟩
    case round =>
      clear H'
      try clear c1
      try clear p2
      try clear c3
      try clear c3b0
      try clear c3b1
      try clear c3b2
      obtain ⟨x5_1, rfl, HA, HK1, ⟨m1, rfl⟩⟩ := hrel
      cases gk with
      | zero => exact absurd HA.out (by simp [laws_sameInts.l0])
      | succ k1 =>
        have H := HA.out
        clear HA
        simp only [laws_sameInts.l0] at H
        by_cases c4 : x5_1 < (l0.length : Int)
        · rw [if_pos c4] at H
          have c4b0 : decide (x5_1 < (l0.length : Int)) = true := decide_eq_true c4
          clear c4
          by_cases c5 : 0 ≤ x5_1
          · rw [if_pos c5] at H
            have c5b0 : decide (0 ≤ x5_1) = true := decide_eq_true c5
            clear c5
            by_cases c6 : x5_1 < (l1.length : Int)
            · rw [if_pos c6] at H
              have c6b0 : decide (x5_1 < (l1.length : Int)) = true := decide_eq_true c6
              clear c6
              by_cases c7 : (rd l0 x5_1) = (rd l1 x5_1)
              · rw [if_pos c7] at H
                have c7b0 : ((rd l0 x5_1) == (rd l1 x5_1)) = true := beq_iff_eq.mpr c7
                have c7b1 : ((rd l0 x5_1) != (rd l1 x5_1)) = false := bne_eq_false_iff_eq.mpr c7
                clear c7
                have H' := Aside0.mk H
                clear H
                have p488 : 0 ≤ (x5_1 : Int) := of_decide_eq_true (by first | (with_reducible assumption) | assumption)
                have q488 : x5_1 < (l0.length : Int) := of_decide_eq_true (by first | (with_reducible assumption) | assumption)
                obtain ⟨ad488, e488, hx488_0⟩ := Kd.at_int HR0.out x5_1 p488 q488
                cases e488
                replace p488 := eq_true p488
                replace q488 := eq_true q488
                have p489 : 0 ≤ (x5_1 : Int) := of_decide_eq_true (by first | (with_reducible assumption) | assumption)
                have q489 : x5_1 < (l1.length : Int) := of_decide_eq_true (by first | (with_reducible assumption) | assumption)
                obtain ⟨ad489, e489, hx489_0⟩ := Kd.at_int HR1.out x5_1 p489 q489
                cases e489
                replace p489 := eq_true p489
                replace q489 := eq_true q489
                go_wp2
                repeat (go_quiet (fail); try go_wp2)
                go_roundg k1
                case measure => have := HK1.out; omega
                case rel => exact ⟨(wrap64 (x5_1 + 1)), (by first | rfl | (simp; done) | (simp [*]; done)), H', ⟨by have := HK1.out; omega⟩, by repeat (first | exact Drawn0.refl _ | apply Drawn0.step)⟩
              · rw [if_neg c7] at H
                have c7b0 : ((rd l0 x5_1) == (rd l1 x5_1)) = false := beq_eq_false_iff_ne.mpr c7
                have c7b1 : ((rd l0 x5_1) != (rd l1 x5_1)) = true := bne_iff_ne.mpr c7
                obtain rfl := Option.some.inj H
                have p488 : 0 ≤ (x5_1 : Int) := of_decide_eq_true (by first | (with_reducible assumption) | assumption)
                have q488 : x5_1 < (l0.length : Int) := of_decide_eq_true (by first | (with_reducible assumption) | assumption)
                obtain ⟨ad488, e488, hx488_0⟩ := Kd.at_int HR0.out x5_1 p488 q488
                cases e488
                replace p488 := eq_true p488
                replace q488 := eq_true q488
                have p489 : 0 ≤ (x5_1 : Int) := of_decide_eq_true (by first | (with_reducible assumption) | assumption)
                have q489 : x5_1 < (l1.length : Int) := of_decide_eq_true (by first | (with_reducible assumption) | assumption)
                obtain ⟨ad489, e489, hx489_0⟩ := Kd.at_int HR1.out x5_1 p489 q489
                cases e489
                replace p489 := eq_true p489
                replace q489 := eq_true q489
                go_wp2
                repeat (go_quiet (fail); try go_wp2)
                go_ret
                exact ⟨by first | rfl | (simp; done) | (simp [*]; done), by repeat (first | exact Drawn0.refl _ | apply Drawn0.step)⟩
            · rw [if_neg c6] at H
              exact absurd H (by simp)
          · rw [if_neg c5] at H
            exact absurd H (by simp)
        · rw [if_neg c4] at H
          have c4b0 : decide (x5_1 < (l0.length : Int)) = false := decide_eq_false c4
          clear c4
          obtain rfl := Option.some.inj H
          go_wp2
          repeat (go_quiet (fail); try go_wp2)
          go_ret
          exact ⟨by first | rfl | (simp; done) | (simp [*]; done), by repeat (first | exact Drawn0.refl _ | apply Drawn0.step)⟩
  · rw [if_neg c3] at H
    have c3b0 : ((l0.length : Int) == (l1.length : Int)) = false := beq_eq_false_iff_ne.mpr c3
    have c3b1 : ((l0.length : Int) != (l1.length : Int)) = true := bne_iff_ne.mpr c3
    have c3b2 : (l0.length == l1.length) = false := by first | simpa using c3 | (simp at c3 ⊢; omega)
    obtain rfl := Option.some.inj H
    go_enter Try.func48, Try.ntmps48
    go_wp2
    repeat (go_quiet (fail); try go_wp2)
    go_ret
    exact ⟨by first | rfl | (simp; done) | (simp [*]; done), by repeat (first | exact Drawn0.refl _ | apply Drawn0.step)⟩

end Go.Proofs.Yteiehniidihmdaa.P
